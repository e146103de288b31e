import PyProof.Rows.All
import Wide.All
import OpenK.AllK
import Wide.FinOn
import HandS.ForMost
import HandS.Exc
import HandS.ExcOwn
import HandS.WordsExc
import HandS.HeadHook1
import HandS.HeadHook2
import HandS.Lambda
import HandS.EndTab
import HandS.TupAny
import HandS.TupMul
import HandS.Style
import HandS.Defaults
import HandS.CallSlots
import KE.KSuper
import KE.SortKeyHeap
import KE.SortData
import HandS.New0
import KE.KExcSuper
import HandS.ExcInit
import KE.KExcIs
import HandS.ExcIs
import HandS.IsInst
import HandS.Deep
import HandS.Conv
import HandS.Dict
import PyProof.TupleOfSeq
import HandS.ExcValue
import HandS.Head0
import HandS.Head1
import HandS.Head2
import HandS.HeadEnd
import KE.KStateDown
import KE.DataAny
import Lean
import PySem.Challenge.RW_movedstates_k39_free_orders_exactly
section
set_option Elab.async false
set_option linter.all false
set_option maxRecDepth 100000
set_option maxHeartbeats 0
namespace M
open PySem L2

/-! ## Data -/
/-- frozen deep data -/
inductive P where
  | non | bl (b : Bool) | int (i : Int) | str (s : Str) | tup (xs : List P) | lst (xs : List P) | rol (xs : List P) | dct (kvs : List (Key × P)) | obj (c : Str) (fs : List (Str × P))
/-- a value: frozen data, or a mutable cell -/
inductive D where
  | fz (p : P) | cell (n : Nat)
/-- what a mutable cell holds -/
inductive Ct where
  | lst (xs : List P) | dct (kvs : List (Key × P)) | obj (c : Str) (fs : List (Str × D)) | frz (p : P)
abbrev Et := List (Option D)
abbrev Sr := List Ct
/-- a run's end: a value; an exception (its class, its own fields, the slots and the store behind it); not carried -/
inductive R (α : Type) where
  | ok (a : α) | exc (c : Str) (fs : Option (List (Str × P))) (η : Et) (st : Sr) | stuck
abbrev DE := Et → Sr → R (D × Sr)
abbrev DA := Et → Sr → R (List D × Sr)
abbrev DT := Et → Sr → R (Bool × Sr)
inductive Fl where
  | nx | rt (d : D) | bk | ct
abbrev DS := Et → Sr → R (Fl × Et × Sr)
abbrev DF := List D → Sr → R (D × Sr)

section
variable (K : PySem.W.Frag)
mutual
def Rep (Z : Hp) : P → V → Prop
  | .non, v => v = .non
  | .bl b, v => v = .bl b
  | .int i, v => v = .int i
  | .str s, v => v = .str s
  | .tup xs, v => ∃ a vs, v = .ref a ∧ SqT K Z a vs ∧ Reps Z xs vs
  | .lst xs, v => ∃ a vs, v = .ref a ∧ Z a = some (.lst vs) ∧ Reps Z xs vs
  | .rol xs, v => ∃ a vs, v = .ref a ∧ SqL K Z a vs ∧ Reps Z xs vs
  | .dct kvs, v => ∃ a kws, v = .ref a ∧ Z a = some (.dK kws) ∧ RepK Z kvs kws
  | .obj c fs, v => ∃ a dx gs, v = .ref a ∧ Z a = some (.ins (He.ga K c) dx gs) ∧ RepF Z fs gs
def Reps (Z : Hp) : List P → List V → Prop
  | [], vs => vs = []
  | p :: ps, vs => ∃ v ws, vs = v :: ws ∧ Rep Z p v ∧ Reps Z ps ws
def RepK (Z : Hp) : List (Key × P) → List (Key × V) → Prop
  | [], vs => vs = []
  | (k, p) :: ps, vs => ∃ v ws, vs = (k, v) :: ws ∧ Rep Z p v ∧ RepK Z ps ws
def RepF (Z : Hp) : List (Str × P) → List (Str × V) → Prop
  | [], vs => vs = []
  | (k, p) :: ps, vs => ∃ v ws, vs = (k, v) :: ws ∧ Rep Z p v ∧ RepF Z ps ws
end
def RepD (Z : Hp) (φ : List Addr) : D → V → Prop
  | .fz p, v => Rep K Z p v
  | .cell n, v => ∃ a, φ[n]? = some a ∧ v = .ref a
def RepDs (Z : Hp) (φ : List Addr) : List D → List V → Prop
  | [], vs => vs = []
  | p :: ps, vs => ∃ v ws, vs = v :: ws ∧ RepD K Z φ p v ∧ RepDs Z φ ps ws
def RepDF (Z : Hp) (φ : List Addr) : List (Str × D) → List (Str × V) → Prop
  | [], vs => vs = []
  | (k, p) :: ps, vs => ∃ v ws, vs = (k, v) :: ws ∧ RepD K Z φ p v ∧ RepDF Z φ ps ws
/-- a table of code objects, an exception's dict -/
def Oth (o : HO) : Prop := (∃ ps, o = .tbl ps) ∨ ∃ gs, o = .xd gs
/-- an object of data: none of these, no told thing -/
def Dat (o : HO) : Prop := ¬ Oth o ∧ ∀ E, o ≠ .ext E
/-- a cell's content at a -/
def RelC (Z : Hp) (φ : List Addr) (H : Hp) (a : Addr) : Ct → Prop
  | .lst xs => Z a = none ∧ ∃ vs, H a = some (.lst vs) ∧ Reps K Z xs vs
  | .dct kvs => Z a = none ∧ ∃ kws, H a = some (.dK kws) ∧ RepK K Z kvs kws
  | .obj c fs => Z a = none ∧ ∃ dx gs, H a = some (.ins (He.ga K c) dx gs) ∧ RepDF K Z φ fs gs
  | .frz p => Rep K Z p (.ref a) ∧ ∃ o, H a = some o ∧ Dat o
/-- the defs that make a lambda: where the tables of their code objects stand, what the lambda's code is named -/
def lamDefs : List Str := ["BagKind.keep"]
def tabOf (K : PySem.W.Frag) : Obj → Option (Addr × Addr × Str)
  | ⟨_, _, .func fd, _⟩ => if lamDefs.contains fd.qualname then match fd.code with
    | .ref c => match K.lookup c with
      | some ⟨_, _, .fields vs, _⟩ => match vs.getD 11 .none with
        | .ref P => some (c, P, fd.qualname ++ ".<locals>." ++ "<lambda>")
        | _ => none
      | _ => none
    | _ => none
    else none
  | _ => none
def tabsAll (K : PySem.W.Frag) : List (Addr × Addr × Str) := K.filterMap fun p => tabOf K p.2
def tabsOf (K : PySem.W.Frag) : List (Addr × Str) := (tabsAll K).map (·.2)
structure RS (Z : Hp) (φ : List Addr) (st : Sr) (H : Hp) : Prop where
  same : Same Z H
  len : φ.length = st.length
  nd : φ.Nodup
  cells : ∀ (i : Nat) a c, φ[i]? = some a → st[i]? = some c → RelC K Z φ H a c
  tb : LamX.Tabs (tabsOf K) H
  zd : ∀ b ps, Z b ≠ some (.tbl ps)
structure Slots (Z : Hp) (φ : List Addr) (η : Et) (σ : St) : Prop where
  len : η.length = σ.length
  at_ : ∀ (i : Nat) d, η[i]? = some (some d) → ∃ v, σ[i]? = some (some v) ∧ RepD K Z φ d v
end
/-- nothing stands at a, or a table, an exception's dict -/
def Fre (H : Hp) (a : Addr) : Prop := ∀ o, H a = some o → Oth o
theorem Fre.of {H : Hp} {a : Addr} (h : H a = none) : Fre H a := fun o e => by rw [h] at e; cases e
theorem Fre.no {H : Hp} {a : Addr} {o : HO} (h : Fre H a) (e : H a = some o) (d : ¬ Oth o) : False := d (h o e)
/-- from one configuration to a later one -/
structure Step (Z : Hp) (φ : List Addr) (H : Hp) (Z' : Hp) (φ' : List Addr) (H' : Hp) : Prop where
  hz : Same Z Z'
  pre : ∃ ψ, φ' = φ ++ ψ ∧ ∀ a ∈ ψ, Fre H a
  fr : ∀ b o, H b = some o → b ∉ φ → ¬ Oth o → H' b = some o
  zn : ∀ b, Z' b ≠ none → Z b ≠ none ∨ Fre H b ∨ b ∈ φ
  up : ∀ b, Fre H' b → Fre H b

theorem Step.refl {Z : Hp} {φ : List Addr} {H : Hp} : Step Z φ H Z φ H :=
  ⟨Same.refl _, ⟨[], by simp, by simp⟩, fun _ _ h _ _ => h, fun _ h => .inl h, fun _ h => h⟩
theorem Step.trans {Z Z1 Z2 : Hp} {φ φ1 φ2 : List Addr} {H H1 H2 : Hp} (a : Step Z φ H Z1 φ1 H1) (b : Step Z1 φ1 H1 Z2 φ2 H2) : Step Z φ H Z2 φ2 H2 := by
  obtain ⟨psi, rfl, h1⟩ := a.pre
  obtain ⟨psi2, rfl, h2⟩ := b.pre
  refine ⟨a.hz.trans b.hz, ⟨psi ++ psi2, by simp, fun c hc => ?_⟩, fun c o hc hn ht => ?_, fun c hc => ?_, fun c hc => a.up c (b.up c hc)⟩
  · rcases List.mem_append.mp hc with hc | hc
    · exact h1 c hc
    · exact a.up c (h2 c hc)
  · refine b.fr c o (a.fr c o hc hn ht) (fun hm => ?_) ht
    rcases List.mem_append.mp hm with hm | hm
    · exact hn hm
    · exact (h1 c hm).no hc ht
  · rcases b.zn c hc with h | h | h
    · exact a.zn c h
    · exact .inr (.inl (a.up c h))
    · rcases List.mem_append.mp h with h | h
      · exact .inr (.inr h)
      · exact .inr (.inl (h1 c h))

section
variable {K : PySem.W.Frag} {Z Z' H H' : Hp} {φ φ' : List Addr}
theorem same_sqT {a : Addr} {xs : List V} (e : Same Z Z') (h : SqT K Z a xs) : SqT K Z' a xs := by
  rcases h with (h | ⟨o, h⟩) | h
  · exact .inl (.inl (e _ _ h))
  · exact .inl (.inr ⟨o, e _ _ h⟩)
  · exact .inr h
mutual
theorem Rep.mono (e : Same Z Z') : ∀ (p : P) (v : V), Rep K Z p v → Rep K Z' p v
  | .non, v, h => by simpa [Rep] using h
  | .bl b, v, h => by simpa [Rep] using h
  | .int i, v, h => by simpa [Rep] using h
  | .str s, v, h => by simpa [Rep] using h
  | .tup xs, v, h => by
    rw [Rep] at h ⊢
    obtain ⟨a, vs, h1, h2, h3⟩ := h
    exact ⟨a, vs, h1, same_sqT e h2, Reps.mono e xs vs h3⟩
  | .lst xs, v, h => by
    rw [Rep] at h ⊢
    obtain ⟨a, vs, h1, h2, h3⟩ := h
    exact ⟨a, vs, h1, e _ _ h2, Reps.mono e xs vs h3⟩
  | .rol xs, v, h => by
    rw [Rep] at h ⊢
    obtain ⟨a, vs, h1, h2, h3⟩ := h
    exact ⟨a, vs, h1, e.seq h2, Reps.mono e xs vs h3⟩
  | .dct kvs, v, h => by
    rw [Rep] at h ⊢
    obtain ⟨a, vs, h1, h2, h3⟩ := h
    exact ⟨a, vs, h1, e _ _ h2, RepK.mono e kvs vs h3⟩
  | .obj c fs, v, h => by
    rw [Rep] at h ⊢
    obtain ⟨a, dx, vs, h1, h2, h3⟩ := h
    exact ⟨a, dx, vs, h1, e _ _ h2, RepF.mono e fs vs h3⟩
theorem Reps.mono (e : Same Z Z') : ∀ (ps : List P) (vs : List V), Reps K Z ps vs → Reps K Z' ps vs
  | [], vs, h => by simpa [Reps] using h
  | p :: ps, vs, h => by
    rw [Reps] at h ⊢
    obtain ⟨v, ws, h1, h2, h3⟩ := h
    exact ⟨v, ws, h1, Rep.mono e p v h2, Reps.mono e ps ws h3⟩
theorem RepK.mono (e : Same Z Z') : ∀ (ps : List (Key × P)) (vs : List (Key × V)), RepK K Z ps vs → RepK K Z' ps vs
  | [], vs, h => by simpa [RepK] using h
  | (k, p) :: ps, vs, h => by
    rw [RepK] at h ⊢
    obtain ⟨v, ws, h1, h2, h3⟩ := h
    exact ⟨v, ws, h1, Rep.mono e p v h2, RepK.mono e ps ws h3⟩
theorem RepF.mono (e : Same Z Z') : ∀ (ps : List (Str × P)) (vs : List (Str × V)), RepF K Z ps vs → RepF K Z' ps vs
  | [], vs, h => by simpa [RepF] using h
  | (k, p) :: ps, vs, h => by
    rw [RepF] at h ⊢
    obtain ⟨v, ws, h1, h2, h3⟩ := h
    exact ⟨v, ws, h1, Rep.mono e p v h2, RepF.mono e ps ws h3⟩
end
theorem RepD.mono (e : Same Z Z') (hp : ∃ ψ, φ' = φ ++ ψ) {d : D} {v : V} (h : RepD K Z φ d v) : RepD K Z' φ' d v := by
  cases d with
  | fz p => exact Rep.mono e p v h
  | cell n =>
    obtain ⟨a, h1, h2⟩ := h
    obtain ⟨psi, rfl⟩ := hp
    obtain ⟨hl, _⟩ := List.getElem?_eq_some_iff.mp h1
    exact ⟨a, by rw [List.getElem?_append_left hl]; exact h1, h2⟩
theorem RepDs.mono (e : Same Z Z') (hp : ∃ ψ, φ' = φ ++ ψ) : ∀ {ds : List D} {vs : List V}, RepDs K Z φ ds vs → RepDs K Z' φ' ds vs
  | [], vs, h => h
  | d :: ds, vs, h => by
    obtain ⟨v, ws, h1, h2, h3⟩ := h
    exact ⟨v, ws, h1, h2.mono e hp, RepDs.mono e hp h3⟩
theorem RepDF.mono (e : Same Z Z') (hp : ∃ ψ, φ' = φ ++ ψ) : ∀ {ds : List (Str × D)} {vs : List (Str × V)}, RepDF K Z φ ds vs → RepDF K Z' φ' ds vs
  | [], vs, h => h
  | (k, d) :: ds, vs, h => by
    obtain ⟨v, ws, h1, h2, h3⟩ := h
    exact ⟨v, ws, h1, h2.mono e hp, RepDF.mono e hp h3⟩
theorem Step.app (s : Step Z φ H Z' φ' H') : ∃ ψ, φ' = φ ++ ψ := let ⟨p, h, _⟩ := s.pre; ⟨p, h⟩
theorem Slots.mono (s : Step Z φ H Z' φ' H') {η : Et} {σ : St} (h : Slots K Z φ η σ) : Slots K Z' φ' η σ :=
  ⟨h.len, fun i d e => let ⟨v, h1, h2⟩ := h.at_ i d e; ⟨v, h1, h2.mono s.hz s.app⟩⟩
theorem Slots.set {η : Et} {σ : St} (h : Slots K Z φ η σ) {i : Nat} {d : D} {v : V} (hr : RepD K Z φ d v) : Slots K Z φ (η.set i (some d)) (σ.set i (some v)) := by
  refine ⟨by simp [h.len], fun j e hj => ?_⟩
  by_cases hi : i = j
  · subst hi
    by_cases hl : i < η.length
    · rw [List.getElem?_set_self hl] at hj
      cases hj
      exact ⟨v, by rw [List.getElem?_set_self (by rw [← h.len]; exact hl)], hr⟩
    · rw [List.getElem?_eq_none (by simpa using hl)] at hj; cases hj
  · rw [List.getElem?_set_ne hi] at hj
    rw [List.getElem?_set_ne hi]
    exact h.at_ j e hj
/-- what is read of a store's value -/
def peek (st : Sr) : D → Option P
  | .fz p => some p
  | .cell n => match st[n]? with
    | some (.lst xs) => some (.lst xs)
    | some (.dct kvs) => some (.dct kvs)
    | some (.frz p) => some p
    | _ => none
theorem peek_rep {st : Sr} (h : RS K Z φ st H) {d : D} {p : P} {v : V} (e : peek st d = some p) (r : RepD K Z φ d v) : Rep K H p v := by
  cases d with
  | fz q => cases e; exact Rep.mono h.same _ _ r
  | cell n =>
    obtain ⟨a, h1, rfl⟩ := r
    have hl : n < st.length := by rw [← h.len]; exact (List.getElem?_eq_some_iff.mp h1).1
    have hc := h.cells n a _ h1 (List.getElem?_eq_getElem hl)
    unfold peek at e
    simp only [List.getElem?_eq_getElem hl] at e
    cases q : st[n] with
    | lst xs =>
      rw [q] at e hc
      cases e
      obtain ⟨_, vs, h2, h3⟩ := hc
      rw [Rep]
      exact ⟨a, vs, rfl, h2, Reps.mono h.same _ _ h3⟩
    | dct kvs =>
      rw [q] at e hc
      cases e
      obtain ⟨_, vs, h2, h3⟩ := hc
      rw [Rep]
      exact ⟨a, vs, rfl, h2, RepK.mono h.same _ _ h3⟩
    | obj c fs => rw [q] at e; cases e
    | frz p' =>
      rw [q] at e hc
      cases e
      exact Rep.mono h.same _ _ hc.1
theorem Reps.length : ∀ {ps : List P} {vs : List V}, Reps K Z ps vs → ps.length = vs.length
  | [], vs, h => by rw [Reps] at h; subst h; rfl
  | p :: ps, vs, h => by
    rw [Reps] at h
    obtain ⟨v, ws, rfl, _, h3⟩ := h
    simp [Reps.length h3]
theorem Reps.get : ∀ {ps : List P} {vs : List V} {i : Nat} {p : P}, Reps K Z ps vs → ps[i]? = some p → ∃ v, vs[i]? = some v ∧ Rep K Z p v
  | [], vs, i, p, h, e => by simp at e
  | q :: ps, vs, i, p, h, e => by
    rw [Reps] at h
    obtain ⟨v, ws, rfl, h2, h3⟩ := h
    cases i with
    | zero => simp at e; subst e; exact ⟨v, rfl, h2⟩
    | succ i => simpa using Reps.get h3 (by simpa using e)
theorem Reps.append : ∀ {ps qs : List P} {vs ws : List V}, Reps K Z ps vs → Reps K Z qs ws → Reps K Z (ps ++ qs) (vs ++ ws)
  | [], qs, vs, ws, h, g => by rw [Reps] at h; subst h; exact g
  | p :: ps, qs, vs, ws, h, g => by
    rw [Reps] at h
    obtain ⟨v, us, rfl, h2, h3⟩ := h
    show Reps K Z (p :: (ps ++ qs)) (v :: (us ++ ws))
    rw [Reps]
    exact ⟨v, us ++ ws, rfl, h2, h3.append g⟩
theorem Reps.one {p : P} {v : V} (h : Rep K Z p v) : Reps K Z [p] [v] := by
  rw [Reps]; exact ⟨v, [], rfl, h, by rw [Reps]⟩
theorem Reps.nil : Reps K Z [] [] := by rw [Reps]
theorem Reps.cons {p : P} {ps : List P} {v : V} {vs : List V} (h : Rep K Z p v) (t : Reps K Z ps vs) : Reps K Z (p :: ps) (v :: vs) := by
  rw [Reps]; exact ⟨v, vs, rfl, h, t⟩
/-- by their places -/
theorem Reps.of_get : ∀ {ps : List P} {vs : List V}, ps.length = vs.length → (∀ (i : Nat) p v, ps[i]? = some p → vs[i]? = some v → Rep K Z p v) → Reps K Z ps vs
  | [], [], _, _ => Reps.nil
  | [], _ :: _, e, _ => by simp at e
  | _ :: _, [], e, _ => by simp at e
  | p :: ps, v :: vs, e, h => Reps.cons (h 0 p v rfl rfl) (Reps.of_get (by simpa using e) fun i q u h1 h2 => h (i + 1) q u (by simpa using h1) (by simpa using h2))

/-! ### changing, adding a cell -/
theorem dat_lst {xs : List V} : Dat (.lst xs) := ⟨(by rintro (⟨_, z⟩ | ⟨_, z⟩) <;> cases z), fun _ z => (nomatch z)⟩
theorem dat_dK {xs : List (Key × V)} : Dat (.dK xs) := ⟨(by rintro (⟨_, z⟩ | ⟨_, z⟩) <;> cases z), fun _ z => (nomatch z)⟩
theorem dat_ins {C dx : Addr} {xs : List (Str × V)} : Dat (.ins C dx xs) := ⟨(by rintro (⟨_, z⟩ | ⟨_, z⟩) <;> cases z), fun _ z => (nomatch z)⟩
theorem tabs_upd {T : List (Addr × Str)} {a : Addr} {o : HO} (t : LamX.Tabs T H) (ha : ∀ u, H a = some u → Dat u) : LamX.Tabs T (upd H a o) := fun p hp => by
  obtain ⟨ps, h1, h2, h3⟩ := t p hp
  refine ⟨ps, by rw [upd_ne (by rintro rfl; exact (ha _ h1).1 (.inl ⟨ps, rfl⟩))]; exact h1, h2, fun pos cv hc => ?_⟩
  obtain ⟨c, e1, e2⟩ := h3 pos cv hc
  exact ⟨c, e1, by rw [upd_ne (by rintro rfl; exact (ha _ e2).2 _ rfl)]; exact e2⟩
theorem RelC.keep {a : Addr} {c : Ct} (hz : Same Z Z') (hp : ∃ ψ, φ' = φ ++ ψ) (hn : (∀ p, c ≠ .frz p) → Z' a = none) (hh : ∀ o, H a = some o → Dat o → H' a = some o) (h : RelC K Z φ H a c) : RelC K Z' φ' H' a c := by
  cases c with
  | lst xs => obtain ⟨_, vs, h1, h2⟩ := h; exact ⟨hn (by intro _ z; cases z), vs, hh _ h1 dat_lst, Reps.mono hz _ _ h2⟩
  | dct kvs => obtain ⟨_, vs, h1, h2⟩ := h; exact ⟨hn (by intro _ z; cases z), vs, hh _ h1 dat_dK, RepK.mono hz _ _ h2⟩
  | obj c fs => obtain ⟨_, dx, vs, h1, h2⟩ := h; exact ⟨hn (by intro _ z; cases z), dx, vs, hh _ h1 dat_ins, h2.mono hz hp⟩
  | frz p => obtain ⟨h1, o, h2, h3⟩ := h; exact ⟨Rep.mono hz _ _ h1, o, hh _ h2 h3, h3⟩
theorem RelC.at2 {a : Addr} {c : Ct} (h : RelC K Z φ H a c) : ∃ o, H a = some o ∧ Dat o := by
  cases c with
  | lst xs => obtain ⟨_, vs, h1, _⟩ := h; exact ⟨_, h1, dat_lst⟩
  | dct kvs => obtain ⟨_, vs, h1, _⟩ := h; exact ⟨_, h1, dat_dK⟩
  | obj c fs => obtain ⟨_, dx, vs, h1, _⟩ := h; exact ⟨_, h1, dat_ins⟩
  | frz p => exact h.2
theorem RelC.at_ {a : Addr} {c : Ct} (h : RelC K Z φ H a c) : ∃ o, H a = some o := let ⟨o, e, _⟩ := h.at2; ⟨o, e⟩
theorem RelC.free {a : Addr} {c : Ct} (h : RelC K Z φ H a c) (hc : ∀ p, c ≠ .frz p) : Z a = none := by
  cases c with
  | lst xs => exact h.1
  | dct kvs => exact h.1
  | obj c fs => exact h.1
  | frz p => exact absurd rfl (hc p)
theorem RS.at_ {st : Sr} (h : RS K Z φ st H) {i : Nat} {a : Addr} (e : φ[i]? = some a) : ∃ c, st[i]? = some c ∧ RelC K Z φ H a c := by
  have hl : i < st.length := by rw [← h.len]; exact (List.getElem?_eq_some_iff.mp e).1
  exact ⟨_, List.getElem?_eq_getElem hl, h.cells i a _ e (List.getElem?_eq_getElem hl)⟩
theorem RS.some_ {st : Sr} (h : RS K Z φ st H) {a : Addr} (e : a ∈ φ) : ∃ o, H a = some o := by
  obtain ⟨i, hi⟩ := List.getElem?_of_mem e
  obtain ⟨c, _, r⟩ := h.at_ hi
  exact r.at_
/-- the cell n gets another content, its object another one -/
theorem RS.write {st : Sr} (h : RS K Z φ st H) {n : Nat} {a : Addr} {c : Ct} {o : HO} (e : φ[n]? = some a) (hz : Z a = none) (hc : RelC K Z φ (upd H a o) a c) : RS K Z φ (st.set n c) (upd H a o) ∧ Step Z φ H Z φ (upd H a o) := by
  have ha : a ∈ φ := List.mem_of_getElem? e
  refine ⟨⟨fun b u hb => ?_, by simp [h.len], h.nd, fun i b c' hi hc' => ?_, tabs_upd h.tb (fun u hu => ?_), h.zd⟩, ⟨Same.refl _, ⟨[], by simp, by simp⟩, fun b u hb hn _ => ?_, fun b hb => .inl hb, fun b hb => ?_⟩⟩
  · rw [upd_ne (by rintro rfl; rw [hz] at hb; cases hb)]; exact h.same b u hb
  · by_cases hin : i = n
    · subst hin
      rw [e] at hi; cases hi
      have hl : i < st.length := by rw [← h.len]; exact (List.getElem?_eq_some_iff.mp e).1
      rw [List.getElem?_set_self hl] at hc'; cases hc'
      exact hc
    · rw [List.getElem?_set_ne (Ne.symm hin)] at hc'
      have nb : b ≠ a := by
        rintro rfl
        exact hin (nodup_ix' h.nd hi e)
      exact (h.cells i b c' hi hc').keep (Same.refl _) ⟨[], by simp⟩ (fun q => (h.cells i b c' hi hc').free q) fun u hu _ => by rw [upd_ne nb]; exact hu
  · obtain ⟨c0, hc0, r0⟩ := h.at_ e
    obtain ⟨u', e1, e2⟩ := r0.at2
    rw [hu] at e1; cases e1; exact e2
  · rw [upd_ne (by rintro rfl; exact hn ha)]; exact hb
  · by_cases q : b = a
    · subst q
      obtain ⟨u', e1, e2⟩ := hc.at2
      exact (hb.no e1 e2.1).elim
    · exact fun o ho => hb o (by rw [upd_ne q]; exact ho)
where
  nodup_ix' {N : List Addr} (hN : N.Nodup) {i j : Nat} {x : Addr} (a : N[i]? = some x) (b : N[j]? = some x) : i = j := by
    obtain ⟨h1, e1⟩ := List.getElem?_eq_some_iff.mp a
    obtain ⟨h2, e2⟩ := List.getElem?_eq_some_iff.mp b
    exact (List.getElem_inj hN).mp (e1.trans e2.symm)
/-- a new cell at the end -/
theorem RS.new {st : Sr} (h : RS K Z φ st H) {a : Addr} {c : Ct} {o : HO} (ha : H a = none) (hc : Z a = none → RelC K Z (φ ++ [a]) (upd H a o) a c) : RS K Z (φ ++ [a]) (st ++ [c]) (upd H a o) ∧ Step Z φ H Z (φ ++ [a]) (upd H a o) := by
  have hz : Z a = none := h.same.free ha
  have na : a ∉ φ := fun hm => by obtain ⟨u, hu⟩ := h.some_ hm; rw [ha] at hu; cases hu
  refine ⟨⟨fun b u hb => ?_, by simp [h.len], ?_, fun i b c' hi hc' => ?_, tabs_upd h.tb (fun u hu => by rw [ha] at hu; cases hu), h.zd⟩, ⟨Same.refl _, ⟨[a], rfl, by simpa using Fre.of ha⟩, fun b u hb hn _ => ?_, fun b hb => .inl hb, fun b hb => ?_⟩⟩
  · rw [upd_ne (by rintro rfl; rw [hz] at hb; cases hb)]; exact h.same b u hb
  · exact List.nodup_append.mpr ⟨h.nd, by simp, fun x hx y hy => by simp at hy; subst hy; rintro rfl; exact na hx⟩
  · by_cases hl : i < φ.length
    · rw [List.getElem?_append_left hl] at hi
      rw [List.getElem?_append_left (by rw [← h.len]; exact hl)] at hc'
      have nb : b ≠ a := by rintro rfl; exact na (List.mem_of_getElem? hi)
      exact (h.cells i b c' hi hc').keep (Same.refl _) ⟨[a], rfl⟩ (fun q => (h.cells i b c' hi hc').free q) fun u hu _ => by rw [upd_ne nb]; exact hu
    · rw [List.getElem?_append_right (by omega)] at hi
      rw [List.getElem?_append_right (by rw [← h.len]; omega), ← h.len] at hc'
      cases hk : i - φ.length with
      | zero => rw [hk] at hi hc'; simp at hi hc'; subst hi hc'; exact hc hz
      | succ k => rw [hk] at hi; simp at hi
  · rw [upd_ne (by rintro rfl; rw [ha] at hb; cases hb)]; exact hb
  · by_cases q : b = a
    · subst q; exact .of ha
    · exact fun o ho => hb o (by rw [upd_ne q]; exact ho)
/-- a new frozen thing -/
theorem RS.newZ {st : Sr} (h : RS K Z φ st H) {a : Addr} {o : HO} (ha : H a = none) (hd : ∀ ps, o ≠ .tbl ps := by intro _ z; cases z) : RS K (upd Z a o) φ st (upd H a o) ∧ Step Z φ H (upd Z a o) φ (upd H a o) := by
  have hz : Z a = none := h.same.free ha
  have na : a ∉ φ := fun hm => by obtain ⟨u, hu⟩ := h.some_ hm; rw [ha] at hu; cases hu
  have sz : Same Z (upd Z a o) := fun b u hb => by rw [upd_ne (by rintro rfl; rw [hz] at hb; cases hb)]; exact hb
  refine ⟨⟨fun b u hb => ?_, h.len, h.nd, fun i b c' hi hc' => ?_, tabs_upd h.tb (fun u hu => by rw [ha] at hu; cases hu), fun b ps z => ?_⟩, ⟨sz, ⟨[], by simp, by simp⟩, fun b u hb hn _ => ?_, fun b hb => ?_, fun b hb => ?_⟩⟩
  · by_cases q : b = a
    · subst q; rw [upd_same] at hb ⊢; exact hb
    · rw [upd_ne q] at hb ⊢; exact h.same b u hb
  · have nb : b ≠ a := by rintro rfl; exact na (List.mem_of_getElem? hi)
    exact (h.cells i b c' hi hc').keep sz ⟨[], by simp⟩ (fun q => by rw [upd_ne nb]; exact (h.cells i b c' hi hc').free q) fun u hu _ => by rw [upd_ne nb]; exact hu
  · by_cases q : b = a
    · subst q; rw [upd_same] at z; cases z; exact hd ps rfl
    · rw [upd_ne q] at z; exact h.zd b ps z
  · rw [upd_ne (by rintro rfl; rw [ha] at hb; cases hb)]; exact hb
  · by_cases q : b = a
    · subst q; exact .inr (.inl (.of ha))
    · rw [upd_ne q] at hb; exact .inl hb
  · by_cases q : b = a
    · subst q; exact .of ha
    · exact fun o ho => hb o (by rw [upd_ne q]; exact ho)
end
end M

end
section
set_option Elab.async false
set_option linter.all false
set_option maxRecDepth 100000
set_option maxHeartbeats 0
namespace M
open PySem L2
/-! ## Readings -/
def R.bind {α β : Type} (r : R α) (k : α → R β) : R β := match r with
  | .ok a => k a
  | .exc c fs η st => .exc c fs η st
  | .stuck => .stuck
section
variable (K : PySem.W.Frag) (W : WX)
def AfX (Z : Hp) (φ : List Addr) (H : Hp) (c : Str) (fs : Option (List (Str × P))) (η : Et) (st : Sr) : Prop :=
  ∀ σ' H' Z' φ', Step Z φ H Z' φ' H' → RS K Z' φ' st H' → Slots K Z' φ' η σ' → match fs with
    | none => W (.ref (He.ga K c)) none σ' H'
    | some fs => ∀ dx gs, H' dx = some (.xd gs) → RepF K Z' fs gs → W (.ref (He.ga K c)) (some dx) σ' H'
def Af {α : Type} (Z : Hp) (φ : List Addr) (H : Hp) (r : R α) (G : α → Hp → List Addr → Hp → Prop) : Prop := match r with
  | .ok a => ∀ Z' φ' H', Step Z φ H Z' φ' H' → G a Z' φ' H'
  | .exc c fs η st => AfX K W Z φ H c fs η st
  | .stuck => False
def GE (Q : VK) : (D × Sr) → Hp → List Addr → Hp → Prop := fun r Z' φ' H' => RS K Z' φ' r.2 H' → ∀ v, RepD K Z' φ' r.1 v → Q v H'
def GA (Q : List V → Hp → Prop) : (List D × Sr) → Hp → List Addr → Hp → Prop := fun r Z' φ' H' => RS K Z' φ' r.2 H' → ∀ vs, RepDs K Z' φ' r.1 vs → Q vs H'
def GT (Q : Bool → Hp → Prop) : (Bool × Sr) → Hp → List Addr → Hp → Prop := fun r Z' φ' H' => RS K Z' φ' r.2 H' → Q r.1 H'
def GS (E : Ends) : (Fl × Et × Sr) → Hp → List Addr → Hp → Prop := fun r Z' φ' H' => RS K Z' φ' r.2.2 H' → match r.1 with
  | .nx => ∀ σ', Slots K Z' φ' r.2.1 σ' → E.nx σ' H'
  | .bk => ∀ σ', Slots K Z' φ' r.2.1 σ' → E.bk σ' H'
  | .ct => ∀ σ', Slots K Z' φ' r.2.1 σ' → E.ct σ' H'
  | .rt d => ∀ v, RepD K Z' φ' d v → E.rt v H'
def Rd4 {α : Type} (f : Et → Sr → R α) (σ : St) (H : Hp) (G : α → Hp → List Addr → Hp → Prop) : Prop :=
  ∃ Z φ η st, RS K Z φ st H ∧ Slots K Z φ η σ ∧ Af K W Z φ H (f η st) G
def tE (f : DE) : TE := fun σ H Q => Rd4 K W f σ H (GE K Q)
def tA (f : DA) : TA := fun σ H Q => Rd4 K W f σ H (GA K Q)
def tT (f : DT) : TT := fun σ H Q => Rd4 K W f σ H (GT K Q)
def tS (f : DS) : TS := fun E σ H => Rd4 K W f σ H (GS K E)
end
section
variable {K : PySem.W.Frag} {W : WX} {Z Z1 : Hp} {φ φ1 : List Addr} {H H1 : Hp} {α β : Type}
theorem Af.later {r : R α} {G : α → Hp → List Addr → Hp → Prop} (s : Step Z φ H Z1 φ1 H1) (h : Af K W Z φ H r G) : Af K W Z1 φ1 H1 r G := by
  cases r with
  | ok a => exact fun Z' φ' H' t => h Z' φ' H' (s.trans t)
  | exc c fs η st => exact fun σ' H' Z' φ' t => h σ' H' Z' φ' (s.trans t)
  | stuck => exact h
theorem Af.mono {r : R α} {G G' : α → Hp → List Addr → Hp → Prop} (i : ∀ a Z' φ' H', Step Z φ H Z' φ' H' → G a Z' φ' H' → G' a Z' φ' H') (h : Af K W Z φ H r G) : Af K W Z φ H r G' := by
  cases r with
  | ok a => exact fun Z' φ' H' t => i _ _ _ _ t (h Z' φ' H' t)
  | exc c fs η st => exact h
  | stuck => exact h
theorem Af.bind {r : R α} {k : α → R β} {G : β → Hp → List Addr → Hp → Prop} (h : Af K W Z φ H (r.bind k) G) : Af K W Z φ H r (fun a Z1 φ1 H1 => Af K W Z1 φ1 H1 (k a) G) := by
  cases r with
  | ok a => exact fun Z' φ' H' t => Af.later t h
  | exc c fs η st => exact h
  | stuck => exact h
theorem Af.here {d : D} {st : Sr} {Q : VK} {v : V} (h : Af K W Z φ H (.ok (d, st)) (GE K Q)) (rs : RS K Z φ st H) (r : RepD K Z φ d v) : Q v H := h _ _ _ .refl rs v r
theorem Af.hereT {b : Bool} {st : Sr} {Q : Bool → Hp → Prop} (h : Af K W Z φ H (.ok (b, st)) (GT K Q)) (rs : RS K Z φ st H) : Q b H := h _ _ _ .refl rs
/-- a new cell's object is laid -/
theorem Af.cell {st : Sr} {c : Ct} {o : HO} {Q : VK} {p : Addr} (h : Af K W Z φ H (.ok (.cell st.length, st ++ [c])) (GE K Q)) (rs : RS K Z φ st H) (hp : H p = none) (hc : Z p = none → RelC K Z (φ ++ [p]) (upd H p o) p c) : Q (.ref p) (upd H p o) := by
  obtain ⟨rs', s⟩ := rs.new hp hc
  exact h _ _ _ s rs' _ ⟨p, by rw [← rs.len]; simp, rfl⟩
theorem Af.newZ {st : Sr} {d : P} {o : HO} {Q : VK} {p : Addr} (h : Af K W Z φ H (.ok (.fz d, st)) (GE K Q)) (rs : RS K Z φ st H) (hp : H p = none) (hc : Same Z (upd Z p o) → Rep K (upd Z p o) d (.ref p)) (hd : ∀ ps, o ≠ .tbl ps := by intro _ z; cases z) : Q (.ref p) (upd H p o) := by
  obtain ⟨rs', s⟩ := rs.newZ (o := o) hp hd
  exact h _ _ _ s rs' _ (hc s.hz)
/-- a list cell from items that stand in the heap -/
theorem Af.lst {st : Sr} {xs : List P} {vs : List V} {Q : VK} {p : Addr} (h : Af K W Z φ H (.ok (.cell st.length, st ++ [.lst xs])) (GE K Q)) (rs : RS K Z φ st H) (hp : H p = none) (r : Reps K Z xs vs) : Q (.ref p) (upd H p (.lst vs)) :=
  h.cell rs hp fun hz => ⟨hz, vs, upd_same, r⟩
end
/-! ### joining -/
section
variable {X : Cx} {W : WX}
theorem _root_.L2.PE.to {e : Expr} {t t' : TE} (h : PE X e t) (i : ∀ σ H Q, t' σ H Q → t σ H Q) : PE X e t' := ⟨fun pins s σ H Q I q => h.run pins s σ H Q I (i σ H Q q)⟩
theorem _root_.L2.PT.to {e : Expr} {t t' : TT} (h : PT X e t) (i : ∀ σ H Q, t' σ H Q → t σ H Q) : PT X e t' := ⟨fun pins s σ H Q I q => h.run pins s σ H Q I (i σ H Q q)⟩
theorem _root_.L2.PW.to {e : Expr} {t t' : TT} (h : PW X e t) (i : ∀ σ H Q, t' σ H Q → t σ H Q) : PW X e t' := ⟨fun wh pins s σ H Q I q => h.run wh pins s σ H Q I (i σ H Q q)⟩
theorem _root_.L2.PA.to {e : List Expr} {t t' : TA} (h : PA X e t) (i : ∀ σ H Q, t' σ H Q → t σ H Q) : PA X e t' := ⟨fun pos pins s σ H Q I q => h.run pos pins s σ H Q I (i σ H Q q)⟩
theorem _root_.L2.PS.to {e : Stmt} {t t' : TS} (h : PS X e t) (i : ∀ D σ H, t' D σ H → t D σ H) : PS X e t' := ⟨fun pins s σ H D I q => h.run pins s σ H D I (i D σ H q)⟩
theorem _root_.L2.PSs.to {e : List Stmt} {t t' : TS} (h : PSs X e t) (i : ∀ D σ H, t' D σ H → t D σ H) : PSs X e t' := ⟨fun pins s σ H D I q => h.run pins s σ H D I (i D σ H q)⟩
variable {K : PySem.W.Frag}
/-- peel a value -/
theorem tE_bind {α : Type} {f : DE} {k : D → Et → Sr → R α} {σ : St} {H : Hp} {G : α → Hp → List Addr → Hp → Prop} (h : Rd4 K W (fun η st => (f η st).bind fun a => k a.1 η a.2) σ H G) :
    tE K W f σ H (fun v H1 => ∃ d, ∃ Z φ η st, RS K Z φ st H1 ∧ Slots K Z φ η σ ∧ RepD K Z φ d v ∧ Af K W Z φ H1 (k d η st) G) := by
  obtain ⟨Z, φ, η, st, rs, sl, af⟩ := h
  refine ⟨Z, φ, η, st, rs, sl, af.bind.mono fun a Z' φ' H' t g rs' v r => ?_⟩
  exact ⟨a.1, Z', φ', η, a.2, rs', sl.mono t, r, g⟩
theorem tA_bind {α : Type} {f : DA} {k : List D → Et → Sr → R α} {σ : St} {H : Hp} {G : α → Hp → List Addr → Hp → Prop} (h : Rd4 K W (fun η st => (f η st).bind fun a => k a.1 η a.2) σ H G) :
    tA K W f σ H (fun vs H1 => ∃ ds, ∃ Z φ η st, RS K Z φ st H1 ∧ Slots K Z φ η σ ∧ RepDs K Z φ ds vs ∧ Af K W Z φ H1 (k ds η st) G) := by
  obtain ⟨Z, φ, η, st, rs, sl, af⟩ := h
  refine ⟨Z, φ, η, st, rs, sl, af.bind.mono fun a Z' φ' H' t g rs' v r => ?_⟩
  exact ⟨a.1, Z', φ', η, a.2, rs', sl.mono t, r, g⟩
theorem tT_bind {α : Type} {f : DT} {k : Bool → Et → Sr → R α} {σ : St} {H : Hp} {G : α → Hp → List Addr → Hp → Prop} (h : Rd4 K W (fun η st => (f η st).bind fun a => k a.1 η a.2) σ H G) :
    tT K W f σ H (fun b H1 => Rd4 K W (k b) σ H1 G) := by
  obtain ⟨Z, φ, η, st, rs, sl, af⟩ := h
  refine ⟨Z, φ, η, st, rs, sl, af.bind.mono fun a Z' φ' H' t g rs' => ?_⟩
  exact ⟨Z', φ', η, a.2, rs', sl.mono t, g⟩
end
/-! ## Expressions -/
def dVar (i : Nat) : DE := fun η st => match η[i]? with
  | some (some d) => .ok (d, st)
  | _ => .stuck
def dK (p : P) : DE := fun _ st => .ok (.fz p, st)
def dBin (o : D → D → Sr → R (D × Sr)) (f g : DE) : DE := fun η st => (f η st).bind fun a => (g η a.2).bind fun b => o a.1 b.1 b.2
def dUn (o : D → Sr → R (D × Sr)) (f : DE) : DE := fun η st => (f η st).bind fun a => o a.1 a.2
def dNil : DA := fun _ st => .ok ([], st)
def dCons (f : DE) (g : DA) : DA := fun η st => (f η st).bind fun a => (g η a.2).bind fun b => .ok (a.1 :: b.1, b.2)
def dAp (o : List D → Sr → R (D × Sr)) (g : DA) : DE := fun η st => (g η st).bind fun a => o a.1 a.2
def dMt (o : D → List D → Sr → R (D × Sr)) (f : DE) (g : DA) : DE := fun η st => (f η st).bind fun a => (g η a.2).bind fun b => o a.1 b.1 b.2
/-- an operation on values by the store -/
def rM (K : PySem.W.Frag) (W : WX) (o : D → D → Sr → R (D × Sr)) : R2 := fun x y H Q => ∃ d e, ∃ Z φ st, RS K Z φ st H ∧ RepD K Z φ d x ∧ RepD K Z φ e y ∧ Af K W Z φ H (o d e st) (GE K Q)
def rM1 (K : PySem.W.Frag) (W : WX) (o : D → Sr → R (D × Sr)) : V → Hp → VK → Prop := fun x H Q => ∃ d, ∃ Z φ st, RS K Z φ st H ∧ RepD K Z φ d x ∧ Af K W Z φ H (o d st) (GE K Q)
def rMA (K : PySem.W.Frag) (W : WX) (o : List D → Sr → R (D × Sr)) : List V → Hp → VK → Prop := fun xs H Q => ∃ ds, ∃ Z φ st, RS K Z φ st H ∧ RepDs K Z φ ds xs ∧ Af K W Z φ H (o ds st) (GE K Q)
def rMM (K : PySem.W.Frag) (W : WX) (o : D → List D → Sr → R (D × Sr)) : V → List V → Hp → VK → Prop := fun x xs H Q => ∃ d ds, ∃ Z φ st, RS K Z φ st H ∧ RepD K Z φ d x ∧ RepDs K Z φ ds xs ∧ Af K W Z φ H (o d ds st) (GE K Q)
section
variable {X : Cx} {W : WX} {a b e : Expr} {es : List Expr} {pos : Pos} {f g : DE} {fs : DA}
theorem de_var (i : Nat) {x : Str} (hN : X.N[i]? = some x := by rfl) (hv : Vis X.env.scope x := by first | exact Or.inl rfl | exact Or.inr (Or.inl rfl) | exact Or.inr (Or.inr rfl)) (hd : (x == ("__debug__" : Str)) = false := by decide)
    (hcd : (x == ("__classdict__" : Str)) = false := by decide) : PE X (.Name x pos) (tE X.K W (dVar i)) := by
  refine (pe_var (i := i) hN hv hd hcd).to fun σ H Q h => ?_
  obtain ⟨Z, φ, η, st, rs, sl, af⟩ := h
  unfold dVar at af
  split at af
  · rename_i d e
    obtain ⟨v, h1, h2⟩ := sl.at_ i d e
    exact ⟨v, h1, af.here rs h2⟩
  · exact af.elim
theorem de_int {i : Int} {j} : PE X (.Constant (.int i) j pos) (tE X.K W (dK (.int i))) := pe_int.to fun σ H Q ⟨Z, φ, η, st, rs, sl, af⟩ => af.here rs (by show Rep _ _ _ _; rw [Rep])
theorem de_bl {i : Bool} {j} : PE X (.Constant (.bool i) j pos) (tE X.K W (dK (.bl i))) := pe_bl.to fun σ H Q ⟨Z, φ, η, st, rs, sl, af⟩ => af.here rs (by show Rep _ _ _ _; rw [Rep])
theorem de_str {i : Str} {j} : PE X (.Constant (.str i) j pos) (tE X.K W (dK (.str i))) := pe_str.to fun σ H Q ⟨Z, φ, η, st, rs, sl, af⟩ => af.here rs (by show Rep _ _ _ _; rw [Rep])
theorem de_non {j} : PE X (.Constant .none j pos) (tE X.K W (dK .non)) := pe_non.to fun σ H Q ⟨Z, φ, η, st, rs, sl, af⟩ => af.here rs (by show Rep _ _ _ _; rw [Rep])
theorem de_bin {op : Operator} {o : D → D → Sr → R (D × Sr)} (ho : OpR X (binaryOp op) (rM X.K W o)) (ha : PE X a (tE X.K W f)) (hb : PE X b (tE X.K W g)) : PE X (.BinOp a op b pos) (tE X.K W (dBin o f g)) := by
  refine (pe_op ho ha hb).to fun σ H Q h => ?_
  obtain ⟨Z, φ, η, st, rs, sl, af⟩ := h
  refine ⟨Z, φ, η, st, rs, sl, af.bind.mono fun a Z' φ' H' t g' rs' v r => ?_⟩
  refine ⟨Z', φ', η, a.2, rs', sl.mono t, g'.bind.mono fun b Z2 φ2 H2 t2 g2 rs2 u r2 => ?_⟩
  exact ⟨a.1, b.1, Z2, φ2, b.2, rs2, r.mono t2.hz t2.app, r2, g2⟩
theorem de_un {op : UnaryOp} {o : D → Sr → R (D × Sr)} (ho : UnR X (unaryOp op) (rM1 X.K W o)) (ha : PE X a (tE X.K W f)) : PE X (.UnaryOp op a pos) (tE X.K W (dUn o f)) := by
  refine (pe_un ho ha).to fun σ H Q h => ?_
  obtain ⟨Z, φ, η, st, rs, sl, af⟩ := h
  refine ⟨Z, φ, η, st, rs, sl, af.bind.mono fun a Z' φ' H' t g' rs' v r => ?_⟩
  exact ⟨a.1, Z', φ', a.2, rs', r, g'⟩
theorem de_cmp {op : CmpOp} {o : D → D → Sr → R (D × Sr)} (ho : OpR X (compareOp op) (rM X.K W o)) (ha : PE X a (tE X.K W f)) (hb : PE X b (tE X.K W g)) (hm : behindInMarks op b = false := by first | exact nomark _ | rfl) : PE X (.Compare a [op] [b] pos) (tE X.K W (dBin o f g)) := by
  refine (pe_cmpR ho ha hb hm).to fun σ H Q h => ?_
  obtain ⟨Z, φ, η, st, rs, sl, af⟩ := h
  refine ⟨Z, φ, η, st, rs, sl, af.bind.mono fun a Z' φ' H' t g' rs' v r => ?_⟩
  refine ⟨Z', φ', η, a.2, rs', sl.mono t, g'.bind.mono fun b Z2 φ2 H2 t2 g2 rs2 u r2 => ?_⟩
  exact ⟨a.1, b.1, Z2, φ2, b.2, rs2, r.mono t2.hz t2.app, r2, g2⟩
theorem da_nil : PA X [] (tA X.K W dNil) := pa_nil.to fun σ H Q ⟨Z, φ, η, st, rs, sl, af⟩ => af _ _ _ .refl rs [] rfl
theorem da_cons (ha : PE X e (tE X.K W f)) (hr : PA X es (tA X.K W fs)) (hs : starEach (e :: es) X.env = (false, eval e X.env) :: starEach es X.env := by rfl) : PA X (e :: es) (tA X.K W (dCons f fs)) := by
  refine (pa_cons ha hr hs).to fun σ H Q h => ?_
  obtain ⟨Z, φ, η, st, rs, sl, af⟩ := h
  refine ⟨Z, φ, η, st, rs, sl, af.bind.mono fun a Z' φ' H' t g' rs' v r => ?_⟩
  refine ⟨Z', φ', η, a.2, rs', sl.mono t, g'.bind.mono fun b Z2 φ2 H2 t2 g2 rs2 us r2 => ?_⟩
  exact g2 _ _ _ .refl rs2 _ ⟨v, us, rfl, r.mono t2.hz t2.app, r2⟩
/-- f(e, ..), f a built-in function; a built-in class -/
theorem de_callB {id : String} {x : Str} {p : Pos} {o : List D → Sr → R (D × Sr)} (hc : CallR X (.builtin id) (rMA X.K W o)) (hg : Gl X x) (hm : X.mg x = none) (hv : bootBuiltins x = some (.builtin id)) (ha : PA X (e :: es) (tA X.K W fs)) (hn : x ≠ "__name__" := by decide) (hdb : (x == ("__debug__" : Str)) = false := by decide)
    (he : starEach (e :: es) X.env = (false, eval e X.env) :: starEach es X.env := by rfl) (hpl : (backTo pos (starEach es X.env)).any (·.1) = false := by rfl) : PE X (.Call (.Name x p) (e :: es) [] pos) (tE X.K W (dAp o fs)) := by
  refine (pe_callB hc hg hm hv ha hn hdb he hpl).to fun σ H Q h => ?_
  obtain ⟨Z, φ, η, st, rs, sl, af⟩ := h
  refine ⟨Z, φ, η, st, rs, sl, af.bind.mono fun a Z' φ' H' t g' rs' v r => ?_⟩
  exact ⟨a.1, Z', φ', a.2, rs', r, g'⟩
theorem de_callTy {T : String} {x : Str} {p : Pos} {o : List D → Sr → R (D × Sr)} (hc : CallR X (.type T) (rMA X.K W o)) (hg : Gl X x) (hm : X.mg x = none) (hv : bootBuiltins x = some (.type T)) (ha : PA X (e :: es) (tA X.K W fs)) (hn : x ≠ "__name__" := by decide) (hdb : (x == ("__debug__" : Str)) = false := by decide)
    (he : starEach (e :: es) X.env = (false, eval e X.env) :: starEach es X.env := by rfl) (hpl : (backTo pos (starEach es X.env)).any (·.1) = false := by rfl) : PE X (.Call (.Name x p) (e :: es) [] pos) (tE X.K W (dAp o fs)) := by
  refine (pe_callTy hc hg hm hv ha hn hdb he hpl).to fun σ H Q h => ?_
  obtain ⟨Z, φ, η, st, rs, sl, af⟩ := h
  refine ⟨Z, φ, η, st, rs, sl, af.bind.mono fun a Z' φ' H' t g' rs' v r => ?_⟩
  exact ⟨a.1, Z', φ', a.2, rs', r, g'⟩
end
end M

end
section
set_option Elab.async false
set_option linter.all false
set_option maxRecDepth 100000
set_option maxHeartbeats 0
namespace M
open PySem L2
/-! ## Reading a value: its own object in H, its items frozen -/
def PkR (K : PySem.W.Frag) (Z H : Hp) : P → V → Prop
  | .non, v => v = .non
  | .bl b, v => v = .bl b
  | .int i, v => v = .int i
  | .str s, v => v = .str s
  | .tup xs, v => ∃ a vs, v = .ref a ∧ SqT K H a vs ∧ Reps K Z xs vs
  | .lst xs, v => ∃ a vs, v = .ref a ∧ H a = some (.lst vs) ∧ Reps K Z xs vs
  | .rol xs, v => ∃ a vs, v = .ref a ∧ SqL K H a vs ∧ Reps K Z xs vs
  | .dct kvs, v => ∃ a kws, v = .ref a ∧ H a = some (.dK kws) ∧ RepK K Z kvs kws
  | .obj c fs, v => ∃ a dx gs, v = .ref a ∧ H a = some (.ins (He.ga K c) dx gs) ∧ RepF K Z fs gs
section
variable {K : PySem.W.Frag} {Z H : Hp} {φ : List Addr}
theorem Rep.pk (e : Same Z H) {p : P} {v : V} (h : Rep K Z p v) : PkR K Z H p v := by
  cases p with
  | non => rw [Rep] at h; exact h
  | bl b => rw [Rep] at h; exact h
  | int b => rw [Rep] at h; exact h
  | str b => rw [Rep] at h; exact h
  | tup xs => rw [Rep] at h; obtain ⟨a, vs, h1, h2, h3⟩ := h; exact ⟨a, vs, h1, same_sqT e h2, h3⟩
  | lst xs => rw [Rep] at h; obtain ⟨a, vs, h1, h2, h3⟩ := h; exact ⟨a, vs, h1, e _ _ h2, h3⟩
  | rol xs => rw [Rep] at h; obtain ⟨a, vs, h1, h2, h3⟩ := h; exact ⟨a, vs, h1, e.seq h2, h3⟩
  | dct xs => rw [Rep] at h; obtain ⟨a, vs, h1, h2, h3⟩ := h; exact ⟨a, vs, h1, e _ _ h2, h3⟩
  | obj c xs => rw [Rep] at h; obtain ⟨a, dx, vs, h1, h2, h3⟩ := h; exact ⟨a, dx, vs, h1, e _ _ h2, h3⟩
theorem peek_pk {st : Sr} (h : RS K Z φ st H) {d : D} {p : P} {v : V} (e : peek st d = some p) (r : RepD K Z φ d v) : PkR K Z H p v := by
  cases d with
  | fz q => cases e; exact Rep.pk h.same r
  | cell n =>
    obtain ⟨a, h1, rfl⟩ := r
    obtain ⟨c, hc, rc⟩ := h.at_ h1
    unfold peek at e
    simp only [hc] at e
    cases c with
    | lst xs => cases e; obtain ⟨_, vs, h2, h3⟩ := rc; exact ⟨a, vs, rfl, h2, h3⟩
    | dct kvs => cases e; obtain ⟨_, vs, h2, h3⟩ := rc; exact ⟨a, vs, rfl, h2, h3⟩
    | obj c fs => cases e
    | frz p' => cases e; exact Rep.pk h.same rc.1
end
/-! ## Equality -/
mutual
def toPy : P → PyData
  | .non => .none
  | .bl b => .bool b
  | .int i => .int i
  | .str s => .str s
  | .tup xs => .tuple (toPys xs)
  | .lst xs => .list (toPys xs)
  | .rol xs => .list (toPys xs)
  | .dct _ => .dict []
  | .obj _ _ => .dict []
def toPys : List P → List PyData
  | [] => []
  | p :: ps => toPy p :: toPys ps
end
def eqP (p q : P) : Bool := PyData.eqv (toPy p) (toPy q)
def shP (p : P) : Bool := SeqAt.shaped (toPy p)
section
variable {K : PySem.W.Frag} {H : Hp}
mutual
theorem Rep.dp : ∀ (p : P) (v : V), (toPy p).canLay0 = true → Rep K H p v → Dp K H v (toPy p)
  | .non, v, _, h => by rw [Rep] at h; subst h; exact .non
  | .bl b, v, _, h => by rw [Rep] at h; subst h; exact .bl b
  | .int b, v, _, h => by rw [Rep] at h; subst h; exact .int b
  | .str b, v, _, h => by rw [Rep] at h; subst h; exact .str b
  | .tup xs, v, s, h => by rw [Rep] at h; obtain ⟨a, vs, rfl, h2, h3⟩ := h; exact .tup h2 (Reps.dp xs vs s h3)
  | .lst xs, v, s, h => by rw [Rep] at h; obtain ⟨a, vs, rfl, h2, h3⟩ := h; exact .lst (SqL.of h2) (Reps.dp xs vs s h3)
  | .rol xs, v, s, h => by rw [Rep] at h; obtain ⟨a, vs, rfl, h2, h3⟩ := h; exact .lst h2 (Reps.dp xs vs s h3)
  | .dct xs, v, s, h => by cases s
  | .obj c xs, v, s, h => by cases s
theorem Reps.dp : ∀ (ps : List P) (vs : List V), PyData.canLayAll0 (toPys ps) = true → Reps K H ps vs → DpAll K H vs (toPys ps)
  | [], vs, _, h => by rw [Reps] at h; subst h; exact .nil
  | p :: ps, vs, s, h => by
    rw [Reps] at h; obtain ⟨v, ws, rfl, h2, h3⟩ := h
    rw [toPys, PyData.canLayAll0, Bool.and_eq_true] at s
    exact .cons (Rep.dp p v s.1 h2) (Reps.dp ps ws s.2 h3)
end
end
/-! ## Operations -/
abbrev szL : Nat := 16777216
theorem szL_eq : szL = sizeLine := by rw [sizeLine_eq]
def addO (d e : D) (st : Sr) : R (D × Sr) := match peek st d, peek st e with
  | some (.int i), some (.int j) => .ok (.fz (.int (i + j)), st)
  | some (.lst xs), some (.lst ys) => if xs.length + ys.length ≤ szL then .ok (.cell st.length, st ++ [.lst (xs ++ ys)]) else .stuck
  | some (.tup xs), some (.tup ys) => if xs.length + ys.length ≤ szL then .ok (.fz (.tup (xs ++ ys)), st) else .stuck
  | some (.str x), some (.str y) => if x.length + y.length ≤ szL then .ok (.fz (.str (x ++ y)), st) else .stuck
  | _, _ => .stuck
def intO (g : Int → Int → Option P) (d e : D) (st : Sr) : R (D × Sr) := match d, e with
  | .fz (.int i), .fz (.int j) => match g i j with
    | some p => .ok (.fz p, st)
    | none => .stuck
  | _, _ => .stuck
abbrev subO := intO fun i j => some (.int (i - j))
abbrev ltO := intO fun i j => some (.bl (decide (i < j)))
abbrev leO := intO fun i j => some (.bl (decide (i ≤ j)))
abbrev gtO := intO fun i j => some (.bl (decide (j < i)))
abbrev geO := intO fun i j => some (.bl (decide (j ≤ i)))
abbrev modO := intO fun i j => if 0 < j then some (.int (i % j)) else none
abbrev fdivO := intO fun i j => if 0 < j ∧ j < 1073741824 then some (.int (i / j)) else none
def mulO (d e : D) (st : Sr) : R (D × Sr) := match peek st d, peek st e with
  | some (.int i), some (.int j) => if (-(2 ^ 64) < i ∧ i < 2 ^ 64) ∨ (-(2 ^ 64) < j ∧ j < 2 ^ 64) then .ok (.fz (.int (i * j)), st) else .stuck
  | some (.tup xs), some (.int k) => if xs ≠ [] ∧ k = 1 then .ok (d, st) else if xs ≠ [] ∧ 2 ≤ k ∧ k ≤ 1000 ∧ xs.length ≤ 1000 then .ok (.fz (.tup (List.replicate k.toNat xs).flatten), st) else .stuck
  | _, _ => .stuck
def negO (d : D) (st : Sr) : R (D × Sr) := match d with
  | .fz (.int i) => .ok (.fz (.int (-i)), st)
  | _ => .stuck
def eqO (d e : D) (st : Sr) : R (D × Sr) := match peek st d, peek st e with
  | some p, some q => if shP p = true ∧ shP q = true then .ok (.fz (.bl (eqP p q)), st) else .stuck
  | _, _ => .stuck
def neO (d e : D) (st : Sr) : R (D × Sr) := match peek st d, peek st e with
  | some p, some q => if shP p = true ∧ shP q = true then .ok (.fz (.bl (!eqP p q)), st) else .stuck
  | _, _ => .stuck
def P.isNon : P → Bool
  | .non => true
  | _ => false
def isNO (d : D) (e : D) (st : Sr) : R (D × Sr) := match d, e with
  | .fz p, .fz .non => .ok (.fz (.bl p.isNon), st)
  | .cell _, .fz .non => .ok (.fz (.bl false), st)
  | _, _ => .stuck
def notNO (d : D) (e : D) (st : Sr) : R (D × Sr) := match d, e with
  | .fz p, .fz .non => .ok (.fz (.bl (!p.isNon)), st)
  | .cell _, .fz .non => .ok (.fz (.bl true), st)
  | _, _ => .stuck
section
variable {X : Cx} {W : WX}
theorem fz_int {K : PySem.W.Frag} {Z : Hp} {φ : List Addr} {i : Int} {v : V} (h : RepD K Z φ (.fz (.int i)) v) : v = .int i := by
  have h' : Rep K Z (.int i) v := h
  rw [Rep] at h'; exact h'
theorem rep_int {K : PySem.W.Frag} {Z : Hp} {φ : List Addr} {i : Int} : RepD K Z φ (.fz (.int i)) (.int i) := by show Rep _ _ _ _; rw [Rep]
theorem rep_bl {K : PySem.W.Frag} {Z : Hp} {φ : List Addr} {i : Bool} : RepD K Z φ (.fz (.bl i)) (.bl i) := by show Rep _ _ _ _; rw [Rep]
theorem rep_str {K : PySem.W.Frag} {Z : Hp} {φ : List Addr} {i : Str} : RepD K Z φ (.fz (.str i)) (.str i) := by show Rep _ _ _ _; rw [Rep]
theorem rep_non {K : PySem.W.Frag} {Z : Hp} {φ : List Addr} : RepD K Z φ (.fz .non) .non := by show Rep _ _ _ _; rw [Rep]
/-- an operation on two ints -/
theorem op_int {f : Value → Value → Sem Value} {r : R2} {g : Int → Int → Option P} (ho : OpR X f r) (hg : ∀ i j p, g i j = some p → ∃ v, (∀ Z, Rep X.K Z p v) ∧ ∀ H Q, Q v H → r (.int i) (.int j) H Q) : OpR X f (rM X.K W (intO g)) := by
  intro pins s σ H x y v u Q I rx ry ⟨d, e, Z, φ, st, rs, rd, re, af⟩
  unfold intO at af
  split at af
  · rename_i i j
    obtain rfl := fz_int rd
    obtain rfl := fz_int re
    split at af
    · rename_i p hp
      obtain ⟨w, hw, hr⟩ := hg _ _ _ hp
      exact ho pins s σ H _ _ v u Q I rx ry (hr _ _ (af.here rs (show RepD X.K Z φ (.fz p) w from hw Z)))
    · exact af.elim
  · exact af.elim
theorem o_sub : OpR X (binaryOp .Sub) (rM X.K W subO) := op_int op_sub fun i j p h => by cases h; exact ⟨.int (i - j), fun Z => by rw [Rep], fun H Q q => ⟨i, j, rfl, rfl, q⟩⟩
theorem o_lt : OpR X (compareOp .Lt) (rM X.K W ltO) := op_int op_lt fun i j p h => by cases h; exact ⟨.bl (decide (i < j)), fun Z => by rw [Rep], fun H Q q => ⟨i, j, rfl, rfl, q⟩⟩
theorem o_le : OpR X (compareOp .LtE) (rM X.K W leO) := op_int op_le fun i j p h => by cases h; exact ⟨.bl (decide (i ≤ j)), fun Z => by rw [Rep], fun H Q q => ⟨i, j, rfl, rfl, q⟩⟩
theorem o_gt : OpR X (compareOp .Gt) (rM X.K W gtO) := op_int op_gt fun i j p h => by cases h; exact ⟨.bl (decide (j < i)), fun Z => by rw [Rep], fun H Q q => ⟨i, j, rfl, rfl, q⟩⟩
theorem o_ge : OpR X (compareOp .GtE) (rM X.K W geO) := op_int op_ge fun i j p h => by cases h; exact ⟨.bl (decide (j ≤ i)), fun Z => by rw [Rep], fun H Q q => ⟨i, j, rfl, rfl, q⟩⟩
theorem o_mod : OpR X (binaryOp .Mod) (rM X.K W modO) := op_int op_mod fun i j p h => by
  by_cases hj : 0 < j
  · rw [if_pos hj] at h; cases h; exact ⟨.int (i % j), fun Z => by rw [Rep], fun H Q q => ⟨i, j, rfl, rfl, hj, q⟩⟩
  · rw [if_neg hj] at h; cases h
theorem o_fdiv : OpR X (binaryOp .FloorDiv) (rM X.K W fdivO) := op_int op_fdiv fun i j p h => by
  by_cases hj : 0 < j ∧ j < 1073741824
  · rw [if_pos hj] at h; cases h; exact ⟨.int (i / j), fun Z => by rw [Rep], fun H Q q => ⟨i, j, rfl, rfl, hj, q⟩⟩
  · rw [if_neg hj] at h; cases h
theorem o_neg : UnR X (unaryOp .USub) (rM1 X.K W negO) := by
  intro pins s σ H x v Q I rx ⟨d, Z, φ, st, rs, rd, af⟩
  unfold negO at af
  split at af
  · obtain rfl := fz_int rd
    exact un_neg pins s σ H _ v Q I rx ⟨_, rfl, af.here rs rep_int⟩
  · exact af.elim
theorem o_add : OpR X (binaryOp .Add) (rM X.K W addO) := by
  intro pins s σ H x y v u Q I rx ry ⟨d, e, Z, φ, st, rs, rd, re, af⟩
  unfold addO at af
  split at af
  · rename_i i j h1 h2
    obtain rfl := peek_pk rs h1 rd
    obtain rfl := peek_pk rs h2 re
    exact op_add pins s σ H _ _ v u Q I rx ry ⟨_, _, rfl, rfl, af.here rs rep_int⟩
  · rename_i xs ys h1 h2
    obtain ⟨a, vs, rfl, ha, ra⟩ := peek_pk rs h1 rd
    obtain ⟨b, ws, rfl, hb, rb⟩ := peek_pk rs h2 re
    split at af
    · rename_i hz
      rw [ra.length, rb.length, szL_eq] at hz
      exact op_cat pins s σ H _ _ v u Q I rx ry ⟨a, b, vs, ws, rfl, rfl, ha, hb, hz, fun p hp => af.lst rs hp (ra.append rb)⟩
    · exact af.elim
  · rename_i xs ys h1 h2
    obtain ⟨a, vs, rfl, ha, ra⟩ := peek_pk rs h1 rd
    obtain ⟨b, ws, rfl, hb, rb⟩ := peek_pk rs h2 re
    split at af
    · rename_i hz
      rw [ra.length, rb.length, szL_eq] at hz
      refine op_catA pins s σ H _ _ v u Q I rx ry ⟨a, b, vs, ws, rfl, rfl, ha, hb, hz, fun z => ?_, fun _ z => ?_, fun _ _ p hp => ?_⟩
      · subst z
        have : xs = [] := List.length_eq_zero_iff.mp ra.length
        subst this
        have re' := peek_rep' rs h2 re
        exact af.here rs re'
      · subst z
        have : ys = [] := List.length_eq_zero_iff.mp rb.length
        subst this
        rw [List.append_nil] at af
        exact af.here rs (peek_rep' rs h1 rd)
      · exact af.newZ rs hp fun sz => by rw [Rep]; exact ⟨p, vs ++ ws, rfl, .inl (.inl upd_same), (ra.append rb).mono sz⟩
    · exact af.elim
  · rename_i xs ys h1 h2
    obtain rfl := peek_pk rs h1 rd
    obtain rfl := peek_pk rs h2 re
    split at af
    · rename_i hz
      rw [szL_eq] at hz
      exact op_add_str pins s σ H _ _ v u Q I rx ry ⟨_, _, rfl, rfl, hz, af.here rs rep_str⟩
    · exact af.elim
  · exact af.elim
where
  peek_rep' {K : PySem.W.Frag} {Z H : Hp} {φ : List Addr} {st : Sr} {d : D} {xs : List P} {v : V} (rs : RS K Z φ st H) (h : peek st d = some (.tup xs)) (r : RepD K Z φ d v) : RepD K Z φ (.fz (.tup xs)) v := by
    cases d with
    | fz q => cases h; exact r
    | cell n =>
      obtain ⟨a, h1, rfl⟩ := r
      obtain ⟨c, hc, rc⟩ := rs.at_ h1
      unfold peek at h
      simp only [hc] at h
      cases c with
      | lst xs => cases h
      | dct kvs => cases h
      | obj c fs => cases h
      | frz p' => cases h; exact rc.1
end
end M

end
section
set_option Elab.async false
set_option linter.all false
set_option maxRecDepth 100000
set_option maxHeartbeats 0
namespace M
open PySem L2
section
variable {K : PySem.W.Frag} {Z H : Hp} {φ : List Addr}
theorem PkR.rep (e : Same Z H) {p : P} {v : V} (h : PkR K Z H p v) : Rep K H p v := by
  cases p with
  | non => rw [Rep]; exact h
  | bl b => rw [Rep]; exact h
  | int b => rw [Rep]; exact h
  | str b => rw [Rep]; exact h
  | tup xs => rw [Rep]; obtain ⟨a, vs, h1, h2, h3⟩ := h; exact ⟨a, vs, h1, h2, h3.mono e⟩
  | lst xs => rw [Rep]; obtain ⟨a, vs, h1, h2, h3⟩ := h; exact ⟨a, vs, h1, h2, h3.mono e⟩
  | rol xs => rw [Rep]; obtain ⟨a, vs, h1, h2, h3⟩ := h; exact ⟨a, vs, h1, h2, h3.mono e⟩
  | dct xs => rw [Rep]; obtain ⟨a, vs, h1, h2, h3⟩ := h; exact ⟨a, vs, h1, h2, RepK.mono e _ _ h3⟩
  | obj c xs => rw [Rep]; obtain ⟨a, dx, vs, h1, h2, h3⟩ := h; exact ⟨a, dx, vs, h1, h2, RepF.mono e _ _ h3⟩
end
section
open PySem.Spec PyProof.Rows
theorem tuple_mul1 (l : Addr) (items : Array Value) (n : Nat) (dd : Option Addr) (sl : Array (Option Value)) (u : Tok) (c0 : (decide ((1 : Int) < -(2 ^ 63)) || decide ((1 : Int) ≥ 2 ^ 63)) = false) (c1 : (items.isEmpty || (1 : Int) == 1) = true) :
    Meets (Builtin.«tuple.__mul__» ⟨[.ref l, .int 1 u], []⟩) (fun _ R s => s.heap.get? l = some { cls := .type "tuple", dict := dd, data := .seq items n, slots := sl } ∧ R (.ok (.ret (Value.ref l))) s) :=
  .of_wp fun prog w A R s h => by
    obtain ⟨hp, g, d, tk, os⟩ := s
    obtain ⟨hl, h⟩ := h
    have f1 := AutoSeq1.idx_int
    wp_walk using wpAny_loadPart' hl
    repeat (first
      | (refine wpAny_ite_false (decide_eq_false (by rw [c0]; exact Bool.false_ne_true)) ?_; wp_walk using wpAny_loadPart' hl)
      | (refine wpAny_ite_true (decide_eq_true c1) ?_; wp_walk using wpAny_loadPart' hl))
    exact ⟨_, rfl, h⟩
def rRepT1 (K : PySem.W.Frag) : R2 := fun x y H Q => ∃ l xs, x = .ref l ∧ y = .int 1 ∧ SqT K H l xs ∧ xs ≠ [] ∧ Q (.ref l) H
theorem op_repT1 {X : Cx} : OpR X (binaryOp .Mult) (rRepT1 X.K) := by
  intro pins s σ H x y v u Q I rx ry h
  obtain ⟨l, xs, rfl, rfl, hT, hne, q⟩ := h
  cases rx
  obtain ⟨t, rfl⟩ := ry
  obtain ⟨its, r, ⟨⟨cls, dd, data, sl⟩, ho, hc, n, hd⟩, hs⟩ := I.tuple hT
  simp only at hc hd
  subst hc hd
  have c0 : (decide ((1 : Int) < -(2 ^ 63)) || decide ((1 : Int) ≥ 2 ^ 63)) = false := by decide +kernel
  have c1 : (its.toArray.isEmpty || (1 : Int) == 1) = true := by simp
  refine wpAny_binaryOp_repeat_ref (T := "tuple") (U := "int") (by decide) ⟨_, ho, rfl⟩ (fun s' => typeIs_int s' 1 t) noFill_tuple_mul F.fills_int_mul F.slot_int_rmul repeat_tuple F.slot_int_index.lookup
    (call_meets F.slot_int_rmul (typeIs_int s 1 t) F.entry_int_rmul (F.args_int_rmul_2 _ _) (int_rmul_tuple 1 t l its.toArray n dd sl)
      ⟨ho, rfl, ⟨_, ho, rfl⟩, call_meets F.slot_tuple_mul ⟨_, ho, rfl⟩ F.entry_tuple_mul (F.args_tuple_mul_2 _ _) (tuple_mul1 l its.toArray n dd sl t c0 c1) ⟨ho, ?_⟩⟩)
  exact ⟨.ref l, H, I, rfl, q⟩
end
section
variable {X : Cx} {W : WX}
theorem o_mul : OpR X (binaryOp .Mult) (rM X.K W mulO) := by
  intro pins s σ H x y v u Q I rx ry ⟨d, e, Z, φ, st, rs, rd, re, af⟩
  unfold mulO at af
  split at af
  · rename_i i j h1 h2
    obtain rfl := peek_pk rs h1 rd
    obtain rfl := peek_pk rs h2 re
    split at af
    · rename_i hz
      exact op_mul pins s σ H _ _ v u Q I rx ry ⟨_, _, rfl, rfl, hz, af.here rs rep_int⟩
    · exact af.elim
  · rename_i xs k h1 h2
    obtain ⟨a, vs, rfl, ha, ra⟩ := peek_pk rs h1 rd
    obtain rfl := peek_pk rs h2 re
    split at af
    · rename_i hz
      obtain ⟨z1, rfl⟩ := hz
      exact op_repT1 pins s σ H _ _ v u Q I rx ry ⟨a, vs, rfl, rfl, ha, fun z => z1 (List.length_eq_zero_iff.mp (by rw [ra.length, z]; rfl)), af.here rs rd⟩
    split at af
    · rename_i hz
      obtain ⟨z1, z2, z3, z4⟩ := hz
      refine op_repT pins s σ H _ _ v u Q I rx ry ⟨a, k, vs, rfl, rfl, ha, fun z => z1 (List.length_eq_zero_iff.mp (by rw [ra.length, z]; rfl)), z2, z3, by rw [← ra.length]; exact z4, fun p hp => ?_⟩
      refine af.newZ rs hp fun sz => ?_
      rw [Rep]
      refine ⟨p, _, rfl, .inl (.inl upd_same), ?_⟩
      have r2 := Reps.mono sz _ _ ra
      have : ∀ n : Nat, Reps X.K (upd Z p (.tup (List.replicate k.toNat vs).flatten)) (List.replicate n xs).flatten (List.replicate n vs).flatten := fun n => by
        induction n with
        | zero => exact Reps.nil
        | succ n ih => rw [List.replicate_succ, List.replicate_succ, List.flatten_cons, List.flatten_cons]; exact r2.append ih
      exact this _
    · exact af.elim
  · exact af.elim
theorem o_eq (hu : X.A.units + 64 < cLine) : OpR X (compareOp .Eq) (rM X.K W eqO) := by
  intro pins s σ H x y v u Q I rx ry ⟨d, e, Z, φ, st, rs, rd, re, af⟩
  unfold eqO at af
  split at af
  · rename_i p q h1 h2
    split at af
    · rename_i hz
      exact op_eqD hu pins s σ H _ _ v u Q I rx ry ⟨_, _, Rep.dp _ _ (SeqAt.canLay_of_shaped hz.1) ((peek_pk rs h1 rd).rep rs.same), Rep.dp _ _ (SeqAt.canLay_of_shaped hz.2) ((peek_pk rs h2 re).rep rs.same), hz.1, hz.2, af.here rs rep_bl⟩
    · exact af.elim
  · exact af.elim
theorem o_ne (hu : X.A.units + 64 < cLine) : OpR X (compareOp .NotEq) (rM X.K W neO) := by
  intro pins s σ H x y v u Q I rx ry ⟨d, e, Z, φ, st, rs, rd, re, af⟩
  unfold neO at af
  split at af
  · rename_i p q h1 h2
    split at af
    · rename_i hz
      exact op_neD hu pins s σ H _ _ v u Q I rx ry ⟨_, _, Rep.dp _ _ (SeqAt.canLay_of_shaped hz.1) ((peek_pk rs h1 rd).rep rs.same), Rep.dp _ _ (SeqAt.canLay_of_shaped hz.2) ((peek_pk rs h2 re).rep rs.same), hz.1, hz.2, af.here rs rep_bl⟩
    · exact af.elim
  · exact af.elim
theorem repD_non {K : PySem.W.Frag} {Z : Hp} {p : P} {v : V} (h : Rep K Z p v) : decide (v = .non) = p.isNon := by
  cases p with
  | non => rw [Rep] at h; subst h; rfl
  | bl b => rw [Rep] at h; subst h; rfl
  | int b => rw [Rep] at h; subst h; rfl
  | str b => rw [Rep] at h; subst h; rfl
  | tup xs => rw [Rep] at h; obtain ⟨a, vs, rfl, _⟩ := h; rfl
  | lst xs => rw [Rep] at h; obtain ⟨a, vs, rfl, _⟩ := h; rfl
  | rol xs => rw [Rep] at h; obtain ⟨a, vs, rfl, _⟩ := h; rfl
  | dct xs => rw [Rep] at h; obtain ⟨a, vs, rfl, _⟩ := h; rfl
  | obj c xs => rw [Rep] at h; obtain ⟨a, dx, vs, rfl, _⟩ := h; rfl
theorem o_isN : OpR X (compareOp .Is) (rM X.K W isNO) := by
  intro pins s σ H x y v u Q I rx ry ⟨d, e, Z, φ, st, rs, rd, re, af⟩
  unfold isNO at af
  split at af
  · rename_i p
    have e1 : y = .non := by have re' : Rep X.K Z .non y := re; rw [Rep] at re'; exact re'
    subst e1
    refine op_isN pins s σ H _ _ v u Q I rx ry ⟨rfl, ?_⟩
    rw [repD_non (show Rep X.K Z p x from rd)]
    exact af.here rs rep_bl
  · have e1 : y = .non := by have re' : Rep X.K Z .non y := re; rw [Rep] at re'; exact re'
    subst e1
    obtain ⟨a, _, rfl⟩ := rd
    exact op_isN pins s σ H _ _ v u Q I rx ry ⟨rfl, af.here rs rep_bl⟩
  · exact af.elim
theorem o_notN : OpR X (compareOp .IsNot) (rM X.K W notNO) := by
  intro pins s σ H x y v u Q I rx ry ⟨d, e, Z, φ, st, rs, rd, re, af⟩
  unfold notNO at af
  split at af
  · rename_i p
    have e1 : y = .non := by have re' : Rep X.K Z .non y := re; rw [Rep] at re'; exact re'
    subst e1
    refine op_notN pins s σ H _ _ v u Q I rx ry ⟨rfl, ?_⟩
    rw [repD_non (show Rep X.K Z p x from rd)]
    exact af.here rs rep_bl
  · have e1 : y = .non := by have re' : Rep X.K Z .non y := re; rw [Rep] at re'; exact re'
    subst e1
    obtain ⟨a, _, rfl⟩ := rd
    exact op_notN pins s σ H _ _ v u Q I rx ry ⟨rfl, af.here rs rep_bl⟩
  · exact af.elim
end
/-! ## Freezing: a value as frozen data -/
def allFz : List (Str × D) → Option (List (Str × P))
  | [] => some []
  | (k, .fz p) :: r => match allFz r with
    | some ps => some ((k, p) :: ps)
    | none => none
  | _ => none
theorem allFz_ok {K : PySem.W.Frag} {Z : Hp} {φ : List Addr} : ∀ {fs : List (Str × D)} {ps : List (Str × P)} {gs : List (Str × V)}, allFz fs = some ps → RepDF K Z φ fs gs → RepF K Z ps gs
  | [], ps, gs, e, r => by cases e; rw [RepF]; exact r
  | (k, .fz p) :: r, ps, gs, e, h => by
    unfold allFz at e
    split at e
    · rename_i qs e1
      cases e
      obtain ⟨v, ws, rfl, h1, h2⟩ := h
      rw [RepF]
      exact ⟨v, ws, rfl, h1, allFz_ok e1 h2⟩
    · cases e
  | (k, .cell n) :: r, ps, gs, e, h => by cases e
def toP (st : Sr) : D → Option (P × Sr)
  | .fz p => some (p, st)
  | .cell n => match st[n]? with
    | some (.lst xs) => some (.lst xs, st.set n (.frz (.lst xs)))
    | some (.dct kvs) => some (.dct kvs, st.set n (.frz (.dct kvs)))
    | some (.obj c fs) => match allFz fs with
      | some ps => some (.obj c ps, st.set n (.frz (.obj c ps)))
      | none => none
    | some (.frz p) => some (p, st)
    | _ => none
def toPs (st : Sr) : List D → Option (List P × Sr)
  | [] => some ([], st)
  | d :: ds => match toP st d with
    | some (p, st1) => match toPs st1 ds with
      | some (ps, st2) => some (p :: ps, st2)
      | none => none
    | none => none
/-- the heap stands; more of it is frozen -/
structure Frz (Z Z' H : Hp) (φ : List Addr) : Prop where
  hz : Same Z Z'
  zn : ∀ b, Z' b ≠ none → Z b ≠ none ∨ b ∈ φ
theorem Frz.step {Z Z' H : Hp} {φ : List Addr} (h : Frz Z Z' H φ) : Step Z φ H Z' φ H :=
  ⟨h.hz, ⟨[], by simp, by simp⟩, fun _ _ h _ _ => h, fun b hb => (h.zn b hb).elim .inl fun z => .inr (.inr z), fun _ h => h⟩
theorem Frz.refl {Z H : Hp} {φ : List Addr} : Frz Z Z H φ := ⟨Same.refl _, fun _ h => .inl h⟩
theorem Frz.trans {Z Z1 Z2 H : Hp} {φ : List Addr} (a : Frz Z Z1 H φ) (b : Frz Z1 Z2 H φ) : Frz Z Z2 H φ := ⟨a.hz.trans b.hz, fun c hc => (b.zn c hc).elim (a.zn c) .inr⟩
section
variable {K : PySem.W.Frag} {Z H : Hp} {φ : List Addr}
theorem RS.freeze {st : Sr} (h : RS K Z φ st H) {n : Nat} {a : Addr} {o : HO} {p : P} (e : φ[n]? = some a) (hz : Z a = none) (ho : H a = some o) (hd : Dat o) (hr : Same Z (upd Z a o) → Rep K (upd Z a o) p (.ref a)) :
    RS K (upd Z a o) φ (st.set n (.frz p)) H ∧ Frz Z (upd Z a o) H φ := by
  have sz : Same Z (upd Z a o) := fun b u hb => by rw [upd_ne (by rintro rfl; rw [hz] at hb; cases hb)]; exact hb
  refine ⟨⟨fun b u hb => ?_, by simp [h.len], h.nd, fun i b c' hi hc' => ?_, h.tb, fun b ps z => ?_⟩, ⟨sz, fun b hb => ?_⟩⟩
  · by_cases q : b = a
    · subst q; rw [upd_same] at hb; cases hb; exact ho
    · rw [upd_ne q] at hb; exact h.same b u hb
  · by_cases hin : i = n
    · subst hin
      rw [e] at hi; cases hi
      have hl : i < st.length := by rw [← h.len]; exact (List.getElem?_eq_some_iff.mp e).1
      rw [List.getElem?_set_self hl] at hc'; cases hc'
      exact ⟨hr sz, o, ho, hd⟩
    · rw [List.getElem?_set_ne (Ne.symm hin)] at hc'
      have nb : b ≠ a := by rintro rfl; exact hin (RS.write.nodup_ix' h.nd hi e)
      exact (h.cells i b c' hi hc').keep sz ⟨[], by simp⟩ (fun q => by rw [upd_ne nb]; exact (h.cells i b c' hi hc').free q) fun u hu _ => hu
  · by_cases q : b = a
    · subst q; rw [upd_same] at z; cases z; exact hd.1 (.inl ⟨ps, rfl⟩)
    · rw [upd_ne q] at z; exact h.zd b ps z
  · by_cases q : b = a
    · subst q; exact .inr (List.mem_of_getElem? e)
    · rw [upd_ne q] at hb; exact .inl hb
theorem toP_ok {st st' : Sr} (h : RS K Z φ st H) {d : D} {p : P} {v : V} (e : toP st d = some (p, st')) (r : RepD K Z φ d v) : ∃ Z', Frz Z Z' H φ ∧ RS K Z' φ st' H ∧ Rep K Z' p v := by
  cases d with
  | fz q => cases e; exact ⟨Z, .refl, h, r⟩
  | cell n =>
    obtain ⟨a, h1, rfl⟩ := r
    obtain ⟨c, hc, rc⟩ := h.at_ h1
    unfold toP at e
    simp only [hc] at e
    cases c with
    | lst xs =>
      cases e
      obtain ⟨hz, vs, h2, h3⟩ := rc
      obtain ⟨q1, q2⟩ := h.freeze (p := .lst xs) h1 hz h2 dat_lst fun sz => by rw [Rep]; exact ⟨a, vs, rfl, upd_same, h3.mono sz⟩
      exact ⟨_, q2, q1, by rw [Rep]; exact ⟨a, vs, rfl, upd_same, h3.mono q2.hz⟩⟩
    | dct kvs =>
      cases e
      obtain ⟨hz, vs, h2, h3⟩ := rc
      obtain ⟨q1, q2⟩ := h.freeze (p := .dct kvs) h1 hz h2 dat_dK fun sz => by rw [Rep]; exact ⟨a, vs, rfl, upd_same, RepK.mono sz _ _ h3⟩
      exact ⟨_, q2, q1, by rw [Rep]; exact ⟨a, vs, rfl, upd_same, RepK.mono q2.hz _ _ h3⟩⟩
    | obj c fs =>
      dsimp only at e
      split at e
      · rename_i ps e1
        cases e
        obtain ⟨hz, dx, gs, h2, h3⟩ := rc
        have h4 := allFz_ok e1 h3
        obtain ⟨q1, q2⟩ := h.freeze (p := .obj c ps) h1 hz h2 dat_ins fun sz => by rw [Rep]; exact ⟨a, dx, gs, rfl, upd_same, RepF.mono sz _ _ h4⟩
        exact ⟨_, q2, q1, by rw [Rep]; exact ⟨a, dx, gs, rfl, upd_same, RepF.mono q2.hz _ _ h4⟩⟩
      · cases e
    | frz p' => cases e; exact ⟨Z, .refl, h, rc.1⟩
theorem toPs_ok : ∀ {ds : List D} {Z : Hp} {st st' : Sr} {ps : List P} {vs : List V}, RS K Z φ st H → toPs st ds = some (ps, st') → RepDs K Z φ ds vs → ∃ Z', Frz Z Z' H φ ∧ RS K Z' φ st' H ∧ Reps K Z' ps vs
  | [], Z, st, st', ps, vs, h, e, r => by cases e; cases r; exact ⟨Z, .refl, h, .nil⟩
  | d :: ds, Z, st, st', ps, vs, h, e, r => by
    obtain ⟨v, ws, rfl, r1, r2⟩ := r
    unfold toPs at e
    split at e
    · rename_i p st1 e1
      split at e
      · rename_i qs st2 e2
        cases e
        obtain ⟨Z1, f1, rs1, q1⟩ := toP_ok h e1 r1
        obtain ⟨Z2, f2, rs2, q2⟩ := toPs_ok rs1 e2 (r2.mono f1.hz ⟨[], by simp⟩)
        exact ⟨Z2, f1.trans f2, rs2, .cons (q1.mono f2.hz) q2⟩
      · cases e
    · cases e
end
/-! ## Displays -/
def tupO (ds : List D) (st : Sr) : R (D × Sr) := match toPs st ds with
  | some (ps, st') => if ps.length ≤ szL then .ok (.fz (.tup ps), st') else .stuck
  | none => .stuck
def lstO (ds : List D) (st : Sr) : R (D × Sr) := match toPs st ds with
  | some (ps, st') => if ps.length ≤ szL then .ok (.cell st'.length, st' ++ [.lst ps]) else .stuck
  | none => .stuck
section
variable {X : Cx} {W : WX} {es : List Expr} {pos : Pos} {fs : DA}
theorem de_tup {x1} (h : PA X es (tA X.K W fs)) : PE X (.Tuple es x1 pos) (tE X.K W (dAp tupO fs)) := by
  refine (pe_tup h).to fun σ H Q h => ?_
  obtain ⟨Z, φ, η, st, rs, sl, af⟩ := h
  refine ⟨Z, φ, η, st, rs, sl, af.bind.mono fun a Z' φ' H' t g' rs' vs r => ?_⟩
  unfold tupO at g'
  split at g'
  · rename_i ps st' e
    split at g'
    · rename_i hz
      obtain ⟨Z2, f2, rs2, q2⟩ := toPs_ok rs' e r
      refine ⟨by rw [← q2.length, ← szL_eq]; exact hz, fun p hp => ?_⟩
      exact (g'.later f2.step).newZ rs2 hp fun sz => by rw [Rep]; exact ⟨p, vs, rfl, .inl (.inl upd_same), q2.mono sz⟩
    · exact g'.elim
  · exact g'.elim
theorem de_lst (h : PA X es (tA X.K W fs)) : PE X (.List es pos) (tE X.K W (dAp lstO fs)) := by
  refine (pe_lst h).to fun σ H Q h => ?_
  obtain ⟨Z, φ, η, st, rs, sl, af⟩ := h
  refine ⟨Z, φ, η, st, rs, sl, af.bind.mono fun a Z' φ' H' t g' rs' vs r => ?_⟩
  unfold lstO at g'
  split at g'
  · rename_i ps st' e
    split at g'
    · rename_i hz
      obtain ⟨Z2, f2, rs2, q2⟩ := toPs_ok rs' e r
      refine ⟨by rw [← q2.length, ← szL_eq]; exact hz, fun p hp => ?_⟩
      exact (g'.later f2.step).lst rs2 hp q2
    · exact g'.elim
  · exact g'.elim
end
/-! ## Tests -/
def truP : P → Option Bool
  | .non => some false
  | .bl b => some b
  | .int i => some (i != 0)
  | .str y => if y.length ≤ szL then some ((y.length : Int) != 0) else none
  | .tup xs => some (!xs.isEmpty)
  | .lst xs => some (!xs.isEmpty)
  | .rol xs => some (!xs.isEmpty)
  | .dct xs => some (!xs.isEmpty)
  | .obj _ _ => none
def truO (d : D) (st : Sr) : R (Bool × Sr) := match peek st d with
  | some p => match truP p with
    | some b => .ok (b, st)
    | none => .stuck
  | none => .stuck
def dTru (f : DE) : DT := fun η st => (f η st).bind fun a => truO a.1 a.2
def dAnd (f g : DT) : DT := fun η st => (f η st).bind fun a => if a.1 = true then g η a.2 else .ok (false, a.2)
def dOr (f g : DT) : DT := fun η st => (f η st).bind fun a => if a.1 = true then .ok (true, a.2) else g η a.2
def dNot (f : DT) : DT := fun η st => (f η st).bind fun a => .ok (!a.1, a.2)
def dIfE (t : DT) (f g : DE) : DE := fun η st => (t η st).bind fun a => if a.1 = true then f η a.2 else g η a.2
section
variable {X : Cx} {W : WX} {a b e : Expr} {rest : List Expr} {pos : Pos} {f g : DE} {t u : DT}
theorem isEmpty_reps {K : PySem.W.Frag} {Z : Hp} {xs : List P} {vs : List V} (h : Reps K Z xs vs) : xs.isEmpty = vs.isEmpty := by
  cases xs with
  | nil => rw [Reps] at h; subst h; rfl
  | cons p ps => rw [Reps] at h; obtain ⟨v, ws, rfl, _⟩ := h; rfl
theorem isEmpty_repK {K : PySem.W.Frag} {Z : Hp} {xs : List (Key × P)} {vs : List (Key × V)} (h : RepK K Z xs vs) : xs.isEmpty = vs.isEmpty := by
  cases xs with
  | nil => rw [RepK] at h; subst h; rfl
  | cons p ps => obtain ⟨k, p⟩ := p; rw [RepK] at h; obtain ⟨v, ws, rfl, _⟩ := h; rfl
theorem tru_pk {K : PySem.W.Frag} {Z H : Hp} {p : P} {v : V} {k : Bool} (h : PkR K Z H p v) (e : truP p = some k) : TruV K v H k := by
  cases p with
  | non => cases h; cases e; rfl
  | bl b => cases h; cases e; rfl
  | int b => cases h; cases e; rfl
  | str b =>
    cases h
    have e' : (if b.length ≤ szL then some ((b.length : Int) != 0) else none) = some k := e
    split at e'
    · rename_i hz
      cases e'
      rw [szL_eq] at hz
      exact ⟨hz, rfl⟩
    · cases e'
  | tup xs => obtain ⟨a, vs, rfl, h2, h3⟩ := h; cases e; exact .inr (.inl ⟨vs, h2, by rw [isEmpty_reps h3]⟩)
  | lst xs => obtain ⟨a, vs, rfl, h2, h3⟩ := h; cases e; exact .inl ⟨vs, SqL.of h2, by rw [isEmpty_reps h3]⟩
  | rol xs => obtain ⟨a, vs, rfl, h2, h3⟩ := h; cases e; exact .inl ⟨vs, h2, by rw [isEmpty_reps h3]⟩
  | dct xs => obtain ⟨a, vs, rfl, h2, h3⟩ := h; cases e; exact .inr (.inr ⟨vs, h2, by rw [isEmpty_repK h3]⟩)
  | obj c xs => cases e
theorem dt_tru (ha : PE X a (tE X.K W f)) (he : ∀ whole, isTrue a X.env whole = (do let v ← whole; standAt a.pos; holding [v] (truthy v)) := by intro _; rfl) : PT X a (tT X.K W (dTru f)) := by
  refine (pt_truth ha he).to fun σ H Q h => ?_
  obtain ⟨Z, φ, η, st, rs, sl, af⟩ := h
  refine ⟨Z, φ, η, st, rs, sl, af.bind.mono fun a Z' φ' H' t g' rs' v r => ?_⟩
  unfold truO at g'
  split at g'
  · rename_i p e
    split at g'
    · rename_i k e2
      exact ⟨k, tru_pk (peek_pk rs' e r) e2, g'.hereT rs'⟩
    · exact g'.elim
  · exact g'.elim
theorem dt_cmp {op : CmpOp} {o : D → D → Sr → R (D × Sr)} (ho : OpR X (compareOp op) (rM X.K W o)) (ha : PE X a (tE X.K W f)) (hb : PE X b (tE X.K W g)) (hm : behindInMarks op b = false := by first | exact nomark _ | rfl) : PT X (.Compare a [op] [b] pos) (tT X.K W (dTru (dBin o f g))) := by
  have ho' : OpR X (compareOp op) (fun x y H Q => ∃ d e, ∃ Z φ st, RS X.K Z φ st H ∧ RepD X.K Z φ d x ∧ RepD X.K Z φ e y ∧ Af X.K W Z φ H (o d e st) (GE X.K Q)) := ho
  refine ⟨fun pins s σ H Q I h => ?_⟩
  refine wpAny_isTrue_Compare1 (thn (ha.run pins s σ H (fun v H1 => ∃ d, ∃ Z φ η st, RS X.K Z φ st H1 ∧ Slots X.K Z φ η σ ∧ RepD X.K Z φ d v ∧ Af X.K W Z φ H1 ((g η st).bind fun b => (o d b.1 b.2).bind fun c => truO c.1 c.2) (GT X.K Q)) I ?_) fun v s1 ⟨x, H1, I1, r1, q1⟩ => ?_) hm
  · obtain ⟨Z, φ, η, st, rs, sl, af⟩ := h
    refine ⟨Z, φ, η, st, rs, sl, ?_⟩
    have af2 : Af X.K W Z φ H ((f η st).bind fun a => (g η a.2).bind fun b => (o a.1 b.1 b.2).bind fun c => truO c.1 c.2) (GT X.K Q) := by
      have e : dTru (dBin o f g) η st = ((f η st).bind fun a => (g η a.2).bind fun b => (o a.1 b.1 b.2).bind fun c => truO c.1 c.2) := by
        unfold dTru dBin R.bind
        cases f η st with
        | ok a => dsimp only; cases g η a.2 <;> rfl
        | exc => rfl
        | stuck => rfl
      rw [← e]; exact af
    exact af2.bind.mono fun a Z' φ' H' t g' rs' v r => ⟨a.1, Z', φ', η, a.2, rs', sl.mono t, r, g'⟩
  · obtain ⟨d, Z, φ, η, st, rs, sl, rd, af⟩ := q1
    refine thn (hb.run pins s1 σ H1 (fun u H2 => ∃ e, ∃ Z φ st, RS X.K Z φ st H2 ∧ RepD X.K Z φ d x ∧ RepD X.K Z φ e u ∧ Af X.K W Z φ H2 ((o d e st).bind fun c => truO c.1 c.2) (GT X.K Q)) I1 ?_) fun u s2 ⟨y, H2, I2, r2, q2⟩ => ?_
    · exact ⟨Z, φ, η, st, rs, sl, af.bind.mono fun a Z' φ' H' t g' rs' v r => ⟨a.1, Z', φ', a.2, rs', rd.mono t.hz t.app, r, g'⟩⟩
    · obtain ⟨e, Z2, φ2, st2, rs2, rd2, re2, af2⟩ := q2
      refine thn (ho' pins s2 σ H2 x y v u (fun c H3 => ∃ k, TruV X.K c H3 k ∧ Q k H3) I2 r1 r2 ⟨d, e, Z2, φ2, st2, rs2, rd2, re2, af2.bind.mono fun a Z' φ' H' t g' rs' v r => ?_⟩) fun c s3 ⟨z, H3, I3, r3, k, tv, q3⟩ => ?_
      · unfold truO at g'
        split at g'
        · rename_i p e
          split at g'
          · rename_i k e2
            exact ⟨k, tru_pk (peek_pk rs' e r) e2, g'.hereT rs'⟩
          · exact g'.elim
        · exact g'.elim
      · exact tru_ok pins s3 σ H3 z c Q I3 r3 ⟨k, tv, q3⟩
theorem dw_and1 (ha : PT X a (tT X.K W t)) : PW X (.BoolOp .And [a] pos) (tT X.K W t) := pw_and1 ha
theorem dw_or1 (ha : PT X a (tT X.K W t)) : PW X (.BoolOp .Or [a] pos) (tT X.K W t) := pw_or1 ha
theorem dw_and (ha : PT X a (tT X.K W t)) (hb : PW X (.BoolOp .And (b :: rest) pos) (tT X.K W u)) : PW X (.BoolOp .And (a :: b :: rest) pos) (tT X.K W (dAnd t u)) := by
  refine (pw_and ha hb).to fun σ H Q h => ?_
  obtain ⟨Z, φ, η, st, rs, sl, af⟩ := h
  refine ⟨Z, φ, η, st, rs, sl, af.bind.mono fun a Z' φ' H' t g' rs' => ?_⟩
  split at g'
  · rename_i hc; rw [if_pos hc]; exact ⟨Z', φ', η, a.2, rs', sl.mono t, g'⟩
  · rename_i hc; rw [if_neg hc]; exact g'.hereT rs'
theorem dw_or (ha : PT X a (tT X.K W t)) (hb : PW X (.BoolOp .Or (b :: rest) pos) (tT X.K W u)) : PW X (.BoolOp .Or (a :: b :: rest) pos) (tT X.K W (dOr t u)) := by
  refine (pw_or ha hb).to fun σ H Q h => ?_
  obtain ⟨Z, φ, η, st, rs, sl, af⟩ := h
  refine ⟨Z, φ, η, st, rs, sl, af.bind.mono fun a Z' φ' H' t g' rs' => ?_⟩
  split at g'
  · rename_i hc; rw [if_pos hc]; exact g'.hereT rs'
  · rename_i hc; rw [if_neg hc]; exact ⟨Z', φ', η, a.2, rs', sl.mono t, g'⟩
theorem dt_not (ha : PT X a (tT X.K W t)) : PT X (.UnaryOp .Not a pos) (tT X.K W (dNot t)) := by
  refine (pt_not ha).to fun σ H Q h => ?_
  obtain ⟨Z, φ, η, st, rs, sl, af⟩ := h
  exact ⟨Z, φ, η, st, rs, sl, af.bind.mono fun a Z' φ' H' t g' rs' => g'.hereT rs'⟩
theorem de_ifE {c : Expr} (hc : PT X c (tT X.K W t)) (ha : PE X a (tE X.K W f)) (hb : PE X b (tE X.K W g)) : PE X (.IfExp c a b pos) (tE X.K W (dIfE t f g)) := by
  refine (pe_ifExp hc ha hb).to fun σ H Q h => ?_
  obtain ⟨Z, φ, η, st, rs, sl, af⟩ := h
  refine ⟨Z, φ, η, st, rs, sl, af.bind.mono fun a Z' φ' H' t g' rs' => ?_⟩
  split at g'
  · rename_i hc; rw [if_pos hc]; exact ⟨Z', φ', η, a.2, rs', sl.mono t, g'⟩
  · rename_i hc; rw [if_neg hc]; exact ⟨Z', φ', η, a.2, rs', sl.mono t, g'⟩
end
end M

end
section
set_option Elab.async false
set_option linter.all false
set_option maxRecDepth 100000
set_option maxHeartbeats 0
namespace M
open PySem L2
section
variable {K : PySem.W.Frag} {Z H : Hp} {φ : List Addr}
theorem RepDs.one {d : D} {vs : List V} (h : RepDs K Z φ [d] vs) : ∃ v, vs = [v] ∧ RepD K Z φ d v := by
  obtain ⟨v, ws, rfl, h1, h2⟩ := h
  cases h2
  exact ⟨v, rfl, h1⟩
theorem RepDs.two {d e : D} {vs : List V} (h : RepDs K Z φ [d, e] vs) : ∃ v w, vs = [v, w] ∧ RepD K Z φ d v ∧ RepD K Z φ e w := by
  obtain ⟨v, ws, rfl, h1, h2⟩ := h
  obtain ⟨w, rfl, h3⟩ := h2.one
  exact ⟨v, w, rfl, h1, h3⟩
theorem RepDs.zero {vs : List V} (h : RepDs K Z φ [] vs) : vs = [] := h
theorem Reps.drop : ∀ {n : Nat} {ps : List P} {vs : List V}, Reps K Z ps vs → Reps K Z (ps.drop n) (vs.drop n)
  | 0, _, _, h => h
  | n + 1, [], vs, h => by rw [Reps] at h; subst h; exact Reps.nil
  | n + 1, p :: ps, vs, h => by
    rw [Reps] at h
    obtain ⟨v, ws, rfl, _, h3⟩ := h
    simpa using Reps.drop (n := n) h3
theorem Reps.take : ∀ {n : Nat} {ps : List P} {vs : List V}, Reps K Z ps vs → Reps K Z (ps.take n) (vs.take n)
  | 0, _, _, h => by simpa using Reps.nil
  | n + 1, [], vs, h => by rw [Reps] at h; subst h; exact Reps.nil
  | n + 1, p :: ps, vs, h => by
    rw [Reps] at h
    obtain ⟨v, ws, rfl, h2, h3⟩ := h
    exact Reps.cons h2 (Reps.take (n := n) h3)
theorem Reps.reverse : ∀ {ps : List P} {vs : List V}, Reps K Z ps vs → Reps K Z ps.reverse vs.reverse
  | [], vs, h => by rw [Reps] at h; subst h; exact Reps.nil
  | p :: ps, vs, h => by
    rw [Reps] at h
    obtain ⟨v, ws, rfl, h2, h3⟩ := h
    rw [List.reverse_cons, List.reverse_cons]
    exact h3.reverse.append (.one h2)
theorem Reps.dropLast {ps : List P} {vs : List V} (h : Reps K Z ps vs) : Reps K Z ps.dropLast vs.dropLast := by
  rw [List.dropLast_eq_take, List.dropLast_eq_take, h.length]
  exact h.take
theorem Reps.atI {ps : List P} {vs : List V} {i : Int} {p : P} (h : Reps K Z ps vs) (e : L2.atI ps i = some p) : ∃ v, L2.atI vs i = some v ∧ Rep K Z p v := by
  unfold L2.atI at e ⊢
  rw [← h.length]
  cases q : ixN ps.length i with
  | none => rw [q] at e; cases e
  | some j => rw [q] at e; exact h.get e
end
/-! ## Built-in functions -/
def lenP : P → Option Int
  | .tup xs => some xs.length
  | .lst xs => some xs.length
  | .rol xs => some xs.length
  | .dct xs => some xs.length
  | .str s => if s.length ≤ szL then some s.length else none
  | _ => none
def lenO (ds : List D) (st : Sr) : R (D × Sr) := match ds with
  | [d] => match peek st d with
    | some p => match lenP p with
      | some n => .ok (.fz (.int n), st)
      | none => .stuck
    | none => .stuck
  | _ => .stuck
def absO (ds : List D) (st : Sr) : R (D × Sr) := match ds with
  | [.fz (.int i)] => .ok (.fz (.int (if i < 0 then -i else i)), st)
  | _ => .stuck
def int1O (ds : List D) (st : Sr) : R (D × Sr) := match ds with
  | [.fz (.int i)] => .ok (.fz (.int i), st)
  | [.fz (.bl b)] => .ok (.fz (.int (if b then 1 else 0)), st)
  | _ => .stuck
def min2O (ds : List D) (st : Sr) : R (D × Sr) := match ds with
  | [.fz (.int i), .fz (.int j)] => .ok (.fz (.int (if j < i then j else i)), st)
  | _ => .stuck
def max2O (ds : List D) (st : Sr) : R (D × Sr) := match ds with
  | [.fz (.int i), .fz (.int j)] => .ok (.fz (.int (if j > i then j else i)), st)
  | _ => .stuck
def itemsP : P → Option (List P)
  | .tup xs => some xs
  | .lst xs => some xs
  | .rol xs => some xs
  | _ => none
def listO (ds : List D) (st : Sr) : R (D × Sr) := match ds with
  | [d] => match (peek st d).bind itemsP with
    | some xs => .ok (.cell st.length, st ++ [.lst xs])
    | none => .stuck
  | _ => .stuck
def tupleO (ds : List D) (st : Sr) : R (D × Sr) := match ds with
  | [d] => match (peek st d).bind itemsP with
    | some xs => .ok (.fz (.tup xs), st)
    | none => .stuck
  | _ => .stuck
section
variable {X : Cx} {W : WX}
theorem pk_items {K : PySem.W.Frag} {Z H : Hp} {p : P} {v : V} {xs : List P} (h : PkR K Z H p v) (e : itemsP p = some xs) : ∃ a vs, v = .ref a ∧ (SqL K H a vs ∨ SqT K H a vs) ∧ Reps K Z xs vs := by
  cases p with
  | tup ys => cases e; obtain ⟨a, vs, h1, h2, h3⟩ := h; exact ⟨a, vs, h1, .inr h2, h3⟩
  | lst ys => cases e; obtain ⟨a, vs, h1, h2, h3⟩ := h; exact ⟨a, vs, h1, .inl (SqL.of h2), h3⟩
  | rol ys => cases e; obtain ⟨a, vs, h1, h2, h3⟩ := h; exact ⟨a, vs, h1, .inl h2, h3⟩
  | _ => cases e
theorem RepK.length {K : PySem.W.Frag} {Z : Hp} : ∀ {xs : List (Key × P)} {vs : List (Key × V)}, RepK K Z xs vs → xs.length = vs.length
  | [], vs, h => by rw [RepK] at h; subst h; rfl
  | (k, p) :: ps, vs, h => by
    rw [RepK] at h; obtain ⟨v, ws, rfl, _, h3⟩ := h
    simp [RepK.length h3]
theorem c_len : CallR X (.builtin "len") (rMA X.K W lenO) := by
  intro pins s σ H xs us Q I r ⟨ds, Z, φ, st, rs, rdd, af⟩
  unfold lenO at af
  split at af
  · obtain ⟨v, rfl, rd⟩ := rdd.one
    split at af
    · rename_i p e
      have pk := peek_pk rs e rd
      split at af
      · rename_i n en
        cases p with
        | tup ys => cases en; obtain ⟨a, vs, rfl, h2, h3⟩ := pk; rw [h3.length] at af; exact call_len pins s σ H _ us Q I r ⟨_, vs.length, rfl, .inr ⟨vs, h2, rfl⟩, af.here rs rep_int⟩
        | lst ys => cases en; obtain ⟨a, vs, rfl, h2, h3⟩ := pk; rw [h3.length] at af; exact call_len pins s σ H _ us Q I r ⟨_, vs.length, rfl, .inl ⟨vs, SqL.of h2, rfl⟩, af.here rs rep_int⟩
        | rol ys => cases en; obtain ⟨a, vs, rfl, h2, h3⟩ := pk; rw [h3.length] at af; exact call_len pins s σ H _ us Q I r ⟨_, vs.length, rfl, .inl ⟨vs, h2, rfl⟩, af.here rs rep_int⟩
        | dct ys => cases en; obtain ⟨a, vs, rfl, h2, h3⟩ := pk; rw [h3.length] at af; exact call_lenD pins s σ H _ us Q I r ⟨a, vs, rfl, h2, af.here rs rep_int⟩
        | str y =>
          obtain rfl := pk
          have en' : (if y.length ≤ szL then some ((y.length : Int)) else none) = some n := en
          split at en'
          · rename_i hz
            cases en'
            exact call_len pins s σ H _ us Q I r ⟨_, y.length, rfl, ⟨by rw [← szL_eq]; exact hz, rfl⟩, af.here rs rep_int⟩
          · cases en'
        | _ => cases en
      · exact af.elim
    · exact af.elim
  · exact af.elim
theorem c_abs : CallR X (.builtin "abs") (rMA X.K W absO) := by
  intro pins s σ H xs us Q I r ⟨ds, Z, φ, st, rs, rdd, af⟩
  unfold absO at af
  split at af
  · obtain ⟨v, rfl, rd⟩ := rdd.one
    obtain rfl := fz_int rd
    exact call_abs pins s σ H _ us Q I r ⟨_, rfl, af.here rs rep_int⟩
  · exact af.elim
theorem fz_bl {K : PySem.W.Frag} {Z : Hp} {φ : List Addr} {i : Bool} {v : V} (h : RepD K Z φ (.fz (.bl i)) v) : v = .bl i := by
  have h' : Rep K Z (.bl i) v := h
  rw [Rep] at h'; exact h'
theorem c_int1 : CallR X (.type "int") (rMA X.K W int1O) := by
  intro pins s σ H xs us Q I r ⟨ds, Z, φ, st, rs, rdd, af⟩
  unfold int1O at af
  split at af
  · obtain ⟨v, rfl, rd⟩ := rdd.one
    obtain rfl := fz_int rd
    exact call_int1 pins s σ H _ us Q I r (.inl ⟨_, rfl, af.here rs rep_int⟩)
  · obtain ⟨v, rfl, rd⟩ := rdd.one
    obtain rfl := fz_bl rd
    exact call_int1 pins s σ H _ us Q I r (.inr ⟨_, rfl, af.here rs rep_int⟩)
  · exact af.elim
theorem c_min2 (hc : X.calm = true) : CallR X (.builtin "min") (rMA X.K W min2O) := by
  intro pins s σ H xs us Q I r ⟨ds, Z, φ, st, rs, rdd, af⟩
  unfold min2O at af
  split at af
  · obtain ⟨v, w, rfl, rd, re⟩ := rdd.two
    obtain rfl := fz_int rd
    obtain rfl := fz_int re
    exact call_min2 hc pins s σ H _ us Q I r ⟨_, _, rfl, af.here rs rep_int⟩
  · exact af.elim
theorem c_max2 (hc : X.calm = true) : CallR X (.builtin "max") (rMA X.K W max2O) := by
  intro pins s σ H xs us Q I r ⟨ds, Z, φ, st, rs, rdd, af⟩
  unfold max2O at af
  split at af
  · obtain ⟨v, w, rfl, rd, re⟩ := rdd.two
    obtain rfl := fz_int rd
    obtain rfl := fz_int re
    exact call_max2 hc pins s σ H _ us Q I r ⟨_, _, rfl, af.here rs rep_int⟩
  · exact af.elim
theorem c_list : CallR X (.type "list") (rMA X.K W listO) := by
  intro pins s σ H xs us Q I r ⟨ds, Z, φ, st, rs, rdd, af⟩
  unfold listO at af
  split at af
  · obtain ⟨v, rfl, rd⟩ := rdd.one
    split at af
    · rename_i ys e
      obtain ⟨p, e1, e2⟩ := Option.bind_eq_some_iff.mp e
      obtain ⟨a, vs, rfl, h2, h3⟩ := pk_items (peek_pk rs e1 rd) e2
      exact call_list_of pins s σ H _ us Q I r ⟨a, vs, rfl, h2, fun l hl => af.lst rs hl h3⟩
    · exact af.elim
  · exact af.elim
theorem c_tuple : CallR X (.type "tuple") (rMA X.K W tupleO) := by
  intro pins s σ H xs us Q I r ⟨ds, Z, φ, st, rs, rdd, af⟩
  unfold tupleO at af
  split at af
  · obtain ⟨v, rfl, rd⟩ := rdd.one
    split at af
    · rename_i ys e
      obtain ⟨p, e1, e2⟩ := Option.bind_eq_some_iff.mp e
      have pk := peek_pk rs e1 rd
      cases p with
      | tup zs =>
        cases e2
        obtain ⟨a, vs, rfl, h2, h3⟩ := pk
        exact call_tuple_of pins s σ H _ us Q I r ⟨a, vs, rfl, .inr ⟨h2, af.here rs (o_add.peek_rep' rs e1 rd)⟩⟩
      | lst zs =>
        cases e2
        obtain ⟨a, vs, rfl, h2, h3⟩ := pk
        exact call_tuple_of pins s σ H _ us Q I r ⟨a, vs, rfl, .inl ⟨SqL.of h2, fun l hl => af.newZ rs hl fun sz => by rw [Rep]; exact ⟨l, vs, rfl, .inl (.inl upd_same), h3.mono sz⟩⟩⟩
      | rol zs =>
        cases e2
        obtain ⟨a, vs, rfl, h2, h3⟩ := pk
        exact call_tuple_of pins s σ H _ us Q I r ⟨a, vs, rfl, .inl ⟨h2, fun l hl => af.newZ rs hl fun sz => by rw [Rep]; exact ⟨l, vs, rfl, .inl (.inl upd_same), h3.mono sz⟩⟩⟩
      | _ => cases e2
    · exact af.elim
  · exact af.elim
end
/-! ## Subscripts -/
def ixO (d e : D) (st : Sr) : R (D × Sr) := match peek st d, e with
  | some p, .fz (.int i) => match (itemsP p).bind fun xs => atI xs i with
    | some q => .ok (.fz q, st)
    | none => .stuck
  | _, _ => .stuck
/-- a slice's part -/
abbrev DO := Et → Sr → R (Option Int × Sr)
def dNoPart : DO := fun _ st => .ok (none, st)
def dPart (f : DE) : DO := fun η st => (f η st).bind fun a => match a.1 with
  | .fz (.int i) => .ok (some i, a.2)
  | _ => .stuck
def cutP (xs : List P) (lo hi : Option Int) : List P := (xs.drop (HT.sIx xs.length 0 lo)).take (HT.sIx xs.length xs.length hi - HT.sIx xs.length 0 lo)
def slO (d : D) (lo hi : Option Int) (st : Sr) : R (D × Sr) := match peek st d with
  | some (.tup xs) => .ok (.fz (.tup (cutP xs lo hi)), st)
  | some (.lst xs) => .ok (.cell st.length, st ++ [.lst (cutP xs lo hi)])
  | some (.rol xs) => .ok (.cell st.length, st ++ [.lst (cutP xs lo hi)])
  | _ => .stuck
def dSl (f : DE) (l u : DO) : DE := fun η st => (f η st).bind fun a => (l η a.2).bind fun b => (u η b.2).bind fun c => slO a.1 b.1 c.1 c.2
section
variable {X : Cx} {W : WX} {a b e : Expr} {pos p2 : Pos} {f g : DE}
theorem i_ix : IxR X (rM X.K W ixO) := by
  intro value slice pins s σ H x y v u Q I rx ry ⟨d, e, Z, φ, st, rs, rd, re, af⟩ hs
  unfold ixO at af
  split at af
  · rename_i p i e1
    obtain rfl := fz_int re
    split at af
    · rename_i q e2
      obtain ⟨xs, e3, e4⟩ := Option.bind_eq_some_iff.mp e2
      obtain ⟨a, vs, rfl, h2, h3⟩ := pk_items (peek_pk rs e1 rd) e3
      obtain ⟨w, hw, rw'⟩ := h3.atI e4
      have qq := af.here rs (show RepD X.K Z φ (.fz q) w from rw')
      rcases h2 with h2 | h2
      · exact ix_list value slice pins s σ H _ _ v u Q I rx ry ⟨a, vs, i, w, rfl, rfl, h2, hw, qq⟩ hs
      · exact ix_tup value slice pins s σ H _ _ v u Q I rx ry ⟨a, vs, i, w, rfl, rfl, h2, hw, qq⟩ hs
    · exact af.elim
  · exact af.elim
theorem de_ix {o : D → D → Sr → R (D × Sr)} (hr : IxR X (rM X.K W o)) (ha : PE X a (tE X.K W f)) (hb : PE X b (tE X.K W g)) (hs : PlainIx b := by exact fun _ _ => rfl) : PE X (.Subscript a b pos) (tE X.K W (dBin o f g)) := by
  refine (pe_ix hr ha hb hs).to fun σ H Q h => ?_
  obtain ⟨Z, φ, η, st, rs, sl, af⟩ := h
  refine ⟨Z, φ, η, st, rs, sl, af.bind.mono fun a Z' φ' H' t g' rs' v r => ?_⟩
  refine ⟨Z', φ', η, a.2, rs', sl.mono t, g'.bind.mono fun b Z2 φ2 H2 t2 g2 rs2 u r2 => ?_⟩
  exact ⟨a.1, b.1, Z2, φ2, b.2, rs2, r.mono t2.hz t2.app, r2, g2⟩
def GO (K : PySem.W.Frag) (Q : Option Int → Hp → Prop) : (Option Int × Sr) → Hp → List Addr → Hp → Prop := fun r Z' φ' H' => RS K Z' φ' r.2 H' → Q r.1 H'
def tO (K : PySem.W.Frag) (W : WX) (f : DO) : TO := fun σ H Q => Rd4 K W f σ H (GO K Q)
theorem do_none : PO X none (tO X.K W dNoPart) := ⟨fun pins s σ H Q I ⟨Z, φ, η, st, rs, sl, af⟩ => po_none.run pins s σ H Q I (af _ _ _ .refl rs)⟩
theorem do_some (h : PE X e (tE X.K W f)) : PO X (some e) (tO X.K W (dPart f)) := by
  refine ⟨fun pins s σ H Q I ⟨Z, φ, η, st, rs, sl, af⟩ => (po_some h).run pins s σ H Q I ⟨Z, φ, η, st, rs, sl, af.bind.mono fun a Z' φ' H' t g' rs' v r => ?_⟩⟩
  split at g'
  · rename_i i e
    rw [e] at r
    exact ⟨i, fz_int r, g' _ _ _ .refl rs'⟩
  · exact g'.elim
theorem s_sl : SlR X (fun x lo hi H Q => ∃ d, ∃ Z φ st, RS X.K Z φ st H ∧ RepD X.K Z φ d x ∧ Af X.K W Z φ H (slO d lo hi st) (GE X.K Q)) := by
  intro pins s σ H x v vl vu lo hi sl Q I rx hs pl pu ⟨d, Z, φ, st, rs, rd, af⟩
  unfold slO at af
  have cut : ∀ {Z' : Hp} {xs : List P} {vs : List V}, Reps X.K Z' xs vs → Reps X.K Z' (cutP xs lo hi) (cutV vs lo hi) := fun {Z' xs vs} h => by
    unfold cutP cutV
    rw [h.length]
    exact h.drop.take
  split at af
  · rename_i xs e
    obtain ⟨a, vs, rfl, h2, h3⟩ := peek_pk rs e rd
    refine sl_tupA pins s σ H _ v vl vu lo hi sl Q I rx hs pl pu ⟨a, vs, rfl, h2, fun hw => ?_, fun _ p hp => ?_⟩
    · have ec : cutP xs lo hi = xs := by
        unfold cutP
        rw [h3.length, hw.1, hw.2, ← h3.length]
        simp
      rw [ec] at af
      exact af.here rs (o_add.peek_rep' rs e rd)
    · exact af.newZ rs hp fun sz => by rw [Rep]; exact ⟨p, _, rfl, .inl (.inl upd_same), (cut h3).mono sz⟩
  · rename_i xs e
    obtain ⟨a, vs, rfl, h2, h3⟩ := peek_pk rs e rd
    exact sl_list pins s σ H _ v vl vu lo hi sl Q I rx hs pl pu ⟨a, vs, rfl, SqL.of h2, fun p hp => af.lst rs hp (cut h3)⟩
  · rename_i xs e
    obtain ⟨a, vs, rfl, h2, h3⟩ := peek_pk rs e rd
    exact sl_list pins s σ H _ v vl vu lo hi sl Q I rx hs pl pu ⟨a, vs, rfl, h2, fun p hp => af.lst rs hp (cut h3)⟩
  · exact af.elim
theorem de_sl {lo hi : Option Expr} {l u : DO} (ha : PE X a (tE X.K W f)) (hl : PO X lo (tO X.K W l)) (hu : PO X hi (tO X.K W u)) : PE X (.Subscript a (.Slice lo hi none p2) pos) (tE X.K W (dSl f l u)) := by
  refine (pe_slice (s_sl (W := W)) ha hl hu).to fun σ H Q h => ?_
  obtain ⟨Z, φ, η, st, rs, sl, af⟩ := h
  refine ⟨Z, φ, η, st, rs, sl, af.bind.mono fun a Z' φ' H' t g' rs' v r => ?_⟩
  refine ⟨Z', φ', η, a.2, rs', sl.mono t, g'.bind.mono fun b Z2 φ2 H2 t2 g2 rs2 => ?_⟩
  refine ⟨Z2, φ2, η, b.2, rs2, (sl.mono t).mono t2, g2.bind.mono fun c Z3 φ3 H3 t3 g3 rs3 => ?_⟩
  exact ⟨a.1, Z3, φ3, c.2, rs3, (r.mono t2.hz t2.app).mono t3.hz t3.app, g3⟩
end
/-! ## Methods of lists -/
def isLst (st : Sr) (d : D) : Bool := match peek st d with
  | some (.lst _) => true
  | _ => false
def dBM (ty : Sr → D → Bool) (o : D → List D → Sr → R (D × Sr)) (f : DE) (g : DA) : DE := fun η st => (f η st).bind fun a => if ty a.2 a.1 = true then (g η a.2).bind fun b => o a.1 b.1 b.2 else .stuck
def appendO (d : D) (ds : List D) (st : Sr) : R (D × Sr) := match ds with
  | [e] => match toP st e with
    | some (p, st') => match d with
      | .cell n => match st'[n]? with
        | some (.lst xs) => if xs.length < szL then .ok (.fz .non, st'.set n (.lst (xs ++ [p]))) else .stuck
        | _ => .stuck
      | _ => .stuck
    | none => .stuck
  | _ => .stuck
def popO (d : D) (ds : List D) (st : Sr) : R (D × Sr) := match ds, d with
  | [], .cell n => match st[n]? with
    | some (.lst xs) => match xs[xs.length - 1]? with
      | some p => .ok (.fz p, st.set n (.lst xs.dropLast))
      | none => .stuck
    | _ => .stuck
  | [.fz (.int i)], .cell n => match st[n]? with
    | some (.lst xs) => match seqIndex? i xs.length with
      | some k => match xs[k]? with
        | some p => if -(2 ^ 63) ≤ i ∧ i < 2 ^ 63 then .ok (.fz p, st.set n (.lst (xs.eraseIdx k))) else .stuck
        | none => .stuck
      | none => .stuck
    | _ => .stuck
  | _, _ => .stuck
def reverseO (d : D) (ds : List D) (st : Sr) : R (D × Sr) := match ds, d with
  | [], .cell n => match st[n]? with
    | some (.lst xs) => .ok (.fz .non, st.set n (.lst xs.reverse))
    | _ => .stuck
  | _, _ => .stuck
section
variable {X : Cx} {W : WX} {o e : Expr} {es : List Expr} {f : DE} {fs : DA} {name : Str} {apos cpos : Pos} {T id : String} {ty : Sr → D → Bool} {op : D → List D → Sr → R (D × Sr)}
theorem isLst_ty {K : PySem.W.Frag} {Z H : Hp} {φ : List Addr} {st : Sr} {d : D} {v : V} (rs : RS K Z φ st H) (r : RepD K Z φ d v) (h : isLst st d = true) : tyV K "list" v H := by
  unfold isLst at h
  split at h
  · rename_i xs e
    obtain ⟨a, vs, rfl, h2, _⟩ := peek_pk rs e r
    exact .inl ⟨rfl, vs, SqL.of h2⟩
  · cases h
theorem de_bm0 (hty' : ∀ {Z H : Hp} {φ : List Addr} {st : Sr} {d : D} {v : V}, RS X.K Z φ st H → RepD X.K Z φ d v → ty st d = true → tyV X.K T v H) (pa : PlainAttrs T) (slot : Slot T name id) (hty : typeOf (.builtin id) = pure (.type "method_descriptor")) (hm : MtR X id (rMM X.K W op)) (ho : PE X o (tE X.K W f))
    (hbase : attributeBase o name X.env (eval o X.env) = eval o X.env := by rfl) (hline : (apos.endLine == cpos.line) = true := by rfl) : PE X (.Call (.Attribute o name apos) [] [] cpos) (tE X.K W (dBM ty op f dNil)) := by
  refine (pe_bm0 pa slot hty hm ho hbase hline).to fun σ H Q h => ?_
  obtain ⟨Z, φ, η, st, rs, sl, af⟩ := h
  refine ⟨Z, φ, η, st, rs, sl, af.bind.mono fun a Z' φ' H' t g' rs' v r => ?_⟩
  split at g'
  · rename_i hc
    exact ⟨hty' rs' r hc, a.1, [], Z', φ', a.2, rs', r, rfl, g'⟩
  · exact g'.elim
theorem de_bm (hty' : ∀ {Z H : Hp} {φ : List Addr} {st : Sr} {d : D} {v : V}, RS X.K Z φ st H → RepD X.K Z φ d v → ty st d = true → tyV X.K T v H) (pa : PlainAttrs T) (slot : Slot T name id) (hty : typeOf (.builtin id) = pure (.type "method_descriptor")) (hm : MtR X id (rMM X.K W op)) (ho : PE X o (tE X.K W f)) (ha : PA X (e :: es) (tA X.K W fs))
    (hbase : attributeBase o name X.env (eval o X.env) = eval o X.env := by rfl)
    (hfew : ((backTo cpos (starEach (e :: es) X.env)).all (fun x => !x.1) && (backToKw cpos (keywordEach [] X.env)).all (fun x => x.1.isSome)
      && decide ((e :: es).length + ([] : List Keyword).length + (if ([] : List Keyword).isEmpty then 0 else 1) < 30)) = true := by rfl)
    (hline : (apos.endLine == cpos.line) = true := by rfl) (hs : starEach (e :: es) X.env = (false, eval e X.env) :: starEach es X.env := by rfl) (hplain : (backTo cpos (starEach es X.env)).any (·.1) = false := by rfl) :
    PE X (.Call (.Attribute o name apos) (e :: es) [] cpos) (tE X.K W (dBM ty op f fs)) := by
  refine (pe_bm pa slot hty hm ho ha hbase hfew hline hs hplain).to fun σ H Q h => ?_
  obtain ⟨Z, φ, η, st, rs, sl, af⟩ := h
  refine ⟨Z, φ, η, st, rs, sl, af.bind.mono fun a Z' φ' H' t g' rs' v r => ?_⟩
  split at g'
  · rename_i hc
    refine ⟨hty' rs' r hc, Z', φ', η, a.2, rs', sl.mono t, g'.bind.mono fun b Z2 φ2 H2 t2 g2 rs2 vs r2 => ?_⟩
    exact ⟨a.1, b.1, Z2, φ2, b.2, rs2, r.mono t2.hz t2.app, r2, g2⟩
  · exact g'.elim
theorem m_append : MtR X "list.append" (rMM X.K W appendO) := by
  intro pins s σ H x xs v us Q I rx rv ⟨d, ds, Z, φ, st, rs, rd, rds, af⟩
  unfold appendO at af
  split at af
  · obtain ⟨w, rfl, re⟩ := rds.one
    split at af
    · rename_i p st' e1
      split at af
      · rename_i n
        obtain ⟨a, ha, rfl⟩ := rd
        split at af
        · rename_i ys e2
          split at af
          · rename_i hz
            obtain ⟨Z2, f2, rs2, q2⟩ := toP_ok rs e1 re
            obtain ⟨hz2, vs, h3, h4⟩ := rs2.cells n a _ ha e2
            refine mt_append pins s σ H _ _ v us Q I rx rv ⟨a, vs, w, rfl, rfl, h3, by rw [← h4.length, ← szL_eq]; exact hz, ?_⟩
            obtain ⟨rs3, s3⟩ := rs2.write (c := .lst (ys ++ [p])) (o := .lst (vs ++ [w])) ha hz2 ⟨hz2, _, upd_same, h4.append (.one q2)⟩
            exact af _ _ _ (f2.step.trans s3) rs3 _ rep_non
          · exact af.elim
        · exact af.elim
      · exact af.elim
    · exact af.elim
  · exact af.elim
theorem m_pop : MtR X "list.pop" (rMM X.K W popO) := by
  intro pins s σ H x xs v us Q I rx rv ⟨d, ds, Z, φ, st, rs, rd, rds, af⟩
  unfold popO at af
  split at af
  · rename_i n
    obtain rfl := rds.zero
    obtain ⟨a, ha, rfl⟩ := rd
    split at af
    · rename_i ys e2
      split at af
      · rename_i p e3
        obtain ⟨hz2, vs, h3, h4⟩ := rs.cells n a _ ha e2
        obtain ⟨w, hw, rw'⟩ := h4.get e3
        refine mt_pop pins s σ H _ _ v us Q I rx rv ⟨a, vs, w, rfl, rfl, h3, by rw [← h4.length]; exact hw, ?_⟩
        obtain ⟨rs3, s3⟩ := rs.write (c := .lst ys.dropLast) (o := .lst vs.dropLast) ha hz2 ⟨hz2, _, upd_same, h4.dropLast⟩
        exact af _ _ _ s3 rs3 _ rw'
      · exact af.elim
    · exact af.elim
  · rename_i i n
    obtain ⟨w0, rfl, re⟩ := rds.one
    obtain rfl := fz_int re
    obtain ⟨a, ha, rfl⟩ := rd
    split at af
    · rename_i ys e2
      split at af
      · rename_i k e3
        split at af
        · rename_i p e4
          split at af
          · rename_i hb
            obtain ⟨hz2, vs, h3, h4⟩ := rs.cells n a _ ha e2
            obtain ⟨w, hw, rw'⟩ := h4.get e4
            refine mt_popAt pins s σ H _ _ v us Q I rx rv ⟨a, vs, i, k, w, rfl, rfl, h3, hb.1, hb.2, by rw [← h4.length]; exact e3, hw, ?_⟩
            obtain ⟨rs3, s3⟩ := rs.write (c := .lst (ys.eraseIdx k)) (o := .lst (vs.eraseIdx k)) ha hz2 ⟨hz2, _, upd_same, by rw [List.eraseIdx_eq_take_drop_succ, List.eraseIdx_eq_take_drop_succ]; exact h4.take.append h4.drop⟩
            exact af _ _ _ s3 rs3 _ rw'
          · exact af.elim
        · exact af.elim
      · exact af.elim
    · exact af.elim
  · exact af.elim
theorem m_reverse : MtR X "list.reverse" (rMM X.K W reverseO) := by
  intro pins s σ H x xs v us Q I rx rv ⟨d, ds, Z, φ, st, rs, rd, rds, af⟩
  unfold reverseO at af
  split at af
  · rename_i n
    obtain rfl := rds.zero
    obtain ⟨a, ha, rfl⟩ := rd
    split at af
    · rename_i ys e2
      obtain ⟨hz2, vs, h3, h4⟩ := rs.cells n a _ ha e2
      refine mt_reverse pins s σ H _ _ v us Q I rx rv ⟨a, vs, rfl, rfl, h3, ?_⟩
      obtain ⟨rs3, s3⟩ := rs.write (c := .lst ys.reverse) (o := .lst vs.reverse) ha hz2 ⟨hz2, _, upd_same, h4.reverse⟩
      exact af _ _ _ s3 rs3 _ rep_non
    · exact af.elim
  · exact af.elim
theorem de_append (ho : PE X o (tE X.K W f)) (ha : PA X [e] (tA X.K W fs)) (hbase : attributeBase o "append" X.env (eval o X.env) = eval o X.env := by rfl)
    (hfew : ((backTo cpos (starEach (e :: []) X.env)).all (fun x => !x.1) && (backToKw cpos (keywordEach [] X.env)).all (fun x => x.1.isSome)
      && decide ((e :: ([] : List Expr)).length + ([] : List Keyword).length + (if ([] : List Keyword).isEmpty then 0 else 1) < 30)) = true := by rfl)
    (hline : (apos.endLine == cpos.line) = true := by rfl) (hs : starEach (e :: []) X.env = (false, eval e X.env) :: starEach [] X.env := by rfl) (hplain : (backTo cpos (starEach [] X.env)).any (·.1) = false := by rfl) :
    PE X (.Call (.Attribute o "append" apos) [e] [] cpos) (tE X.K W (dBM isLst appendO f fs)) := de_bm isLst_ty PySem.F.plainAttrs_list PySem.F.slot_list_append PySem.F.type_list_append m_append ho ha hbase hfew hline hs hplain
theorem de_pop0 (ho : PE X o (tE X.K W f)) (hbase : attributeBase o "pop" X.env (eval o X.env) = eval o X.env := by rfl) (hline : (apos.endLine == cpos.line) = true := by rfl) :
    PE X (.Call (.Attribute o "pop" apos) [] [] cpos) (tE X.K W (dBM isLst popO f dNil)) := de_bm0 isLst_ty PySem.F.plainAttrs_list PySem.F.slot_list_pop PySem.F.type_list_pop m_pop ho hbase hline
theorem de_reverse (ho : PE X o (tE X.K W f)) (hbase : attributeBase o "reverse" X.env (eval o X.env) = eval o X.env := by rfl) (hline : (apos.endLine == cpos.line) = true := by rfl) :
    PE X (.Call (.Attribute o "reverse" apos) [] [] cpos) (tE X.K W (dBM isLst reverseO f dNil)) := de_bm0 isLst_ty PySem.F.plainAttrs_list PySem.F.slot_list_reverse PySem.F.type_list_reverse m_reverse ho hbase hline
end
end M

end
section
set_option Elab.async false
set_option linter.all false
set_option maxRecDepth 100000
set_option maxHeartbeats 0
namespace M
open PySem L2
/-! ## Statements -/
def dSkip : DS := fun η st => .ok (.nx, η, st)
def dSeq (f g : DS) : DS := fun η st => (f η st).bind fun r => match r.1 with
  | .nx => g r.2.1 r.2.2
  | .rt d => .ok (.rt d, r.2.1, r.2.2)
  | .bk => .ok (.bk, r.2.1, r.2.2)
  | .ct => .ok (.ct, r.2.1, r.2.2)
def dEx (f : DE) : DS := fun η st => (f η st).bind fun a => .ok (.nx, η, a.2)
def dRet (f : DE) : DS := fun η st => (f η st).bind fun a => .ok (.rt a.1, η, a.2)
def dRetN : DS := fun η st => .ok (.rt (.fz .non), η, st)
def dBrk : DS := fun η st => .ok (.bk, η, st)
def dCnt : DS := fun η st => .ok (.ct, η, st)
def dIf (t : DT) (f g : DS) : DS := fun η st => (t η st).bind fun a => if a.1 = true then f η a.2 else g η a.2
/-- targets -/
abbrev DG := D → Et → Sr → Option Et
def gNm (i : Nat) : DG := fun d η _ => some (η.set i (some d))
def bindAll : List DG → List P → Et → Sr → Option Et
  | [], [], η, _ => some η
  | g :: gs, p :: ps, η, st => (g (.fz p) η st).bind fun η1 => bindAll gs ps η1 st
  | _, _, _, _ => none
def gTp (gs : List DG) : DG := fun d η st => match peek st d with
  | some (.tup ps) => bindAll gs ps η st
  | _ => none
def dAsg (f : DE) (g : DG) : DS := fun η st => (f η st).bind fun a => match g a.1 η a.2 with
  | some η1 => .ok (.nx, η1, a.2)
  | none => .stuck
def tG (K : PySem.W.Frag) (g : DG) : TG := fun v σ H Q => ∃ Z φ η st d, RS K Z φ st H ∧ Slots K Z φ η σ ∧ RepD K Z φ d v ∧ ∃ η', g d η st = some η' ∧ ∀ σ', Slots K Z φ η' σ' → Q σ' H
def tGs (K : PySem.W.Frag) (gs : List DG) : TGs := fun vs σ H Q => ∃ Z φ η st ps, RS K Z φ st H ∧ Slots K Z φ η σ ∧ Reps K Z ps vs ∧ ∃ η', bindAll gs ps η st = some η' ∧ ∀ σ', Slots K Z φ η' σ' → Q σ' H
section
variable {X : Cx} {W : WX} {a e : Expr} {es : List Expr} {st : Stmt} {rest b c : List Stmt} {pos : Pos} {f : DE} {t : DT} {g h : DS}
theorem _root_.L2.PG.to {e : Expr} {t t' : TG} (h : PG X e t) (i : ∀ v σ H Q, t' v σ H Q → t v σ H Q) : PG X e t' := ⟨fun pins s σ H v u Q I r q => h.run pins s σ H v u Q I r (i v σ H Q q)⟩
theorem _root_.L2.PGs.to {e : List Expr} {t t' : TGs} (h : PGs X e t) (i : ∀ v σ H Q, t' v σ H Q → t v σ H Q) : PGs X e t' := ⟨fun pins s σ H v u Q I r q => h.run pins s σ H v u Q I r (i v σ H Q q)⟩
theorem dg_name {i : Nat} {x : Str} (hN : X.N.Nodup) (hi : X.N[i]? = some x := by rfl) (hx : Loc X.env.scope x := by first | exact Or.inl rfl | exact Or.inr rfl) (hf : X.fn x = true ∨ X.env.scope.names.lookup x = some .local := by first | exact .inl rfl | exact .inr rfl | assumption) : PG X (.Name x pos) (tG X.K (gNm i)) := by
  refine (pg_name (i := i) hN hi hx hf).to fun v σ H Q h => ?_
  obtain ⟨Z, φ, η, st, d, rs, sl, r, η', e, q⟩ := h
  cases e
  exact q _ (sl.set r)
theorem dgs_nil : PGs X [] (tGs X.K []) := by
  refine pgs_nil.to fun v σ H Q h => ?_
  obtain ⟨Z, φ, η, st, ps, rs, sl, r, η', e, q⟩ := h
  cases ps with
  | nil => cases e; rw [Reps] at r; exact ⟨r, q _ sl⟩
  | cons p ps => cases e
theorem dgs_cons {g : DG} {gs : List DG} (h1 : PG X e (tG X.K g)) (h2 : PGs X es (tGs X.K gs)) (hs : (assignEach (e :: es) X.env).map (·.2) = assign e X.env :: (assignEach es X.env).map (·.2) := by rfl) : PGs X (e :: es) (tGs X.K (g :: gs)) := by
  refine (pgs_cons h1 h2 hs).to fun v σ H Q h => ?_
  obtain ⟨Z, φ, η, st, ps, rs, sl, r, η', e, q⟩ := h
  cases ps with
  | nil => cases e
  | cons p ps =>
    rw [Reps] at r
    obtain ⟨v, ws, rfl, r1, r2⟩ := r
    obtain ⟨η1, e1, e2⟩ := Option.bind_eq_some_iff.mp (show ((g (.fz p) η st).bind fun η1 => bindAll gs ps η1 st) = some η' from e)
    exact ⟨v, ws, rfl, Z, φ, η, st, .fz p, rs, sl, r1, η1, e1, fun σ' sl' => ⟨Z, φ, η1, st, ps, rs, sl', r2, η', e2, q⟩⟩
theorem bindAll_len : ∀ {gs : List DG} {ps : List P} {η η' : Et} {st : Sr}, bindAll gs ps η st = some η' → ps.length = gs.length
  | [], [], _, _, _, _ => rfl
  | [], _ :: _, _, _, _, h => by cases h
  | _ :: _, [], _, _, _, h => by cases h
  | g :: gs, p :: ps, η, η', st, h => by
    obtain ⟨η1, e1, e2⟩ := Option.bind_eq_some_iff.mp (show ((g (.fz p) η st).bind fun η1 => bindAll gs ps η1 st) = some η' from h)
    simp [bindAll_len e2]
theorem dg_tup {gs : List DG} {k : Nat} (hc : X.calm = true) (h : PGs X es (tGs X.K gs)) (hn : (assignEach es X.env).length = gs.length := by rfl) (hst : (assignEach es X.env).findIdx? (·.1) = none := by rfl) : PG X (.Tuple es k pos) (tG X.K (gTp gs)) := by
  refine (pg_tup hc h hn hst).to fun v σ H Q h => ?_
  obtain ⟨Z, φ, η, st, d, rs, sl, r, η', e, q⟩ := h
  unfold gTp at e
  split at e
  · rename_i ps e1
    obtain ⟨a, vs, rfl, h2, h3⟩ := peek_pk rs e1 r
    exact ⟨a, vs, rfl, h2, by rw [← h3.length]; exact bindAll_len e, Z, φ, η, st, ps, rs, sl, h3, η', e, q⟩
  · cases e
theorem ds_nil : PSs X [] (tS X.K W dSkip) := pss_nil.to fun D σ H ⟨Z, φ, η, st, rs, sl, af⟩ => af _ _ _ .refl rs σ sl
theorem ds_pass : PS X (.Pass pos) (tS X.K W dSkip) := ps_pass.to fun D σ H ⟨Z, φ, η, st, rs, sl, af⟩ => af _ _ _ .refl rs σ sl
theorem ds_brk : PS X (.Break pos) (tS X.K W dBrk) := ps_break.to fun D σ H ⟨Z, φ, η, st, rs, sl, af⟩ => af _ _ _ .refl rs σ sl
theorem ds_cnt : PS X (.Continue pos) (tS X.K W dCnt) := ps_continue.to fun D σ H ⟨Z, φ, η, st, rs, sl, af⟩ => af _ _ _ .refl rs σ sl
theorem ds_one (h1 : PS X st (tS X.K W g)) : PSs X [st] (tS X.K W g) := pss_one h1
theorem ds_cons (h1 : PS X st (tS X.K W g)) (h2 : PSs X rest (tS X.K W h)) : PSs X (st :: rest) (tS X.K W (dSeq g h)) := by
  refine (pss_cons h1 h2).to fun D σ H hh => ?_
  obtain ⟨Z, φ, η, st, rs, sl, af⟩ := hh
  refine ⟨Z, φ, η, st, rs, sl, af.bind.mono fun r Z' φ' H' t g' rs' => ?_⟩
  obtain ⟨fl, η1, st1⟩ := r
  cases fl with
  | nx => exact fun σ' sl' => ⟨Z', φ', η1, st1, rs', sl', g'⟩
  | rt d => exact g' _ _ _ .refl rs'
  | bk => exact g' _ _ _ .refl rs'
  | ct => exact g' _ _ _ .refl rs'
theorem ds_expr (he : PE X e (tE X.K W f)) (hs : swapsWith e none pos.line X.env = pure false := by rfl) : PS X (.Expr e pos) (tS X.K W (dEx f)) := by
  refine (ps_expr he hs).to fun D σ H hh => ?_
  obtain ⟨Z, φ, η, st, rs, sl, af⟩ := hh
  exact ⟨Z, φ, η, st, rs, sl, af.bind.mono fun a Z' φ' H' t g' rs' v r => g' _ _ _ .refl rs' σ (sl.mono t)⟩
theorem ds_ret (he : PE X e (tE X.K W f)) : PS X (.Return (some e) pos) (tS X.K W (dRet f)) := by
  refine (ps_ret he).to fun D σ H hh => ?_
  obtain ⟨Z, φ, η, st, rs, sl, af⟩ := hh
  exact ⟨Z, φ, η, st, rs, sl, af.bind.mono fun a Z' φ' H' t g' rs' v r => g' _ _ _ .refl rs' v r⟩
theorem ds_retN : PS X (.Return none pos) (tS X.K W dRetN) := ps_retN.to fun D σ H ⟨Z, φ, η, st, rs, sl, af⟩ => af _ _ _ .refl rs _ rep_non
theorem ds_if {c : Expr} {a b : List Stmt} (hc : PT X c (tT X.K W t)) (ha : PSs X a (tS X.K W g)) (hb : PSs X b (tS X.K W h)) : PS X (.If c a b pos) (tS X.K W (dIf t g h)) := by
  refine (ps_if hc ha hb).to fun D σ H hh => ?_
  obtain ⟨Z, φ, η, st, rs, sl, af⟩ := hh
  refine ⟨Z, φ, η, st, rs, sl, af.bind.mono fun a Z' φ' H' t g' rs' => ?_⟩
  split at g'
  · rename_i hc; rw [if_pos hc]; exact ⟨Z', φ', η, a.2, rs', sl.mono t, g'⟩
  · rename_i hc; rw [if_neg hc]; exact ⟨Z', φ', η, a.2, rs', sl.mono t, g'⟩
theorem ds_set {i : Nat} {x : Str} {pos' : Pos} (hN : X.N.Nodup) (he : PE X e (tE X.K W f)) (hi : X.N[i]? = some x := by rfl) (hx : Loc X.env.scope x := by first | exact Or.inl rfl | exact Or.inr rfl) (hs : swapsWith e (some (.Name x pos')) pos.line X.env = pure false := by rfl) (hf : X.fn x = true ∨ X.env.scope.names.lookup x = some .local := by first | exact .inl rfl | exact .inr rfl | assumption) :
    PS X (.Assign [.Name x pos'] e pos) (tS X.K W (dAsg f (gNm i))) := by
  refine (ps_set (i := i) hN hi hx he hs hf).to fun D σ H hh => ?_
  obtain ⟨Z, φ, η, st, rs, sl, af⟩ := hh
  exact ⟨Z, φ, η, st, rs, sl, af.bind.mono fun a Z' φ' H' t g' rs' v r => g' _ _ _ .refl rs' _ ((sl.mono t).set r)⟩
theorem ds_asg {tg : Expr} {g : DG} (he : PE X e (tE X.K W f)) (hg : PG X tg (tG X.K g)) (hs : swapsWithSole [tg] e pos.line X.env = pure false := by rfl) (hw : swappedStores [tg] e X.env = pure none := by rfl)
    (hx : (assignEach [tg] X.env).map (·.2) = [assign tg X.env] := by rfl) : PS X (.Assign [tg] e pos) (tS X.K W (dAsg f g)) := by
  refine (ps_asg he hg hs hw hx).to fun D σ H hh => ?_
  obtain ⟨Z, φ, η, st, rs, sl, af⟩ := hh
  refine ⟨Z, φ, η, st, rs, sl, af.bind.mono fun a Z' φ' H' t g' rs' v r => ?_⟩
  split at g'
  · rename_i η1 e1
    exact ⟨Z', φ', η, a.2, a.1, rs', sl.mono t, r, η1, e1, fun σ' sl' => g' _ _ _ .refl rs' _ sl'⟩
  · exact g'.elim
end
/-! ## Loops -/
def loopD (g : DG) (b : DS) : List P → Et → Sr → R (Fl × Et × Sr)
  | [], η, st => .ok (.nx, η, st)
  | x :: xs, η, st => match g (.fz x) η st with
    | none => .stuck
    | some η1 => (b η1 st).bind fun r => match r.1 with
      | .nx => loopD g b xs r.2.1 r.2.2
      | .ct => loopD g b xs r.2.1 r.2.2
      | .bk => .ok (.nx, r.2.1, r.2.2)
      | .rt d => .ok (.rt d, r.2.1, r.2.2)
def dForL (f : DE) (g : DG) (b : DS) : DS := fun η st => (f η st).bind fun a => match toP a.2 a.1 with
  | some (p, st') => match itemsP p with
    | some xs => loopD g b xs η st'
    | none => .stuck
  | none => .stuck
def rangeP (lo : Int) (n : Nat) : List P := (List.range n).map fun i : Nat => P.int (lo + i)
def dForR1 (f : DA) (g : DG) (b : DS) : DS := fun η st => (f η st).bind fun a => match a.1 with
  | [.fz (.int j)] => if -(2 ^ 62) ≤ j ∧ j < 2 ^ 62 then loopD g b (rangeP 0 j.toNat) η a.2 else .stuck
  | _ => .stuck
def dForR2 (f : DA) (g : DG) (b : DS) : DS := fun η st => (f η st).bind fun a => match a.1 with
  | [.fz (.int i), .fz (.int j)] => if (-(2 ^ 62) ≤ i ∧ i < 2 ^ 62) ∧ (-(2 ^ 62) ≤ j ∧ j < 2 ^ 62) then loopD g b (rangeP i (j - i).toNat) η a.2 else .stuck
  | _ => .stuck
def enumP (k : Nat) : List P → List P
  | [] => []
  | p :: ps => .tup [.int k, p] :: enumP (k + 1) ps
def dForE (f : DA) (g : DG) (b : DS) : DS := fun η st => (f η st).bind fun a => match a.1 with
  | [d] => match toP a.2 d with
    | some (.lst xs, st') => loopD g b (enumP 0 xs) η st'
    | some (.rol xs, st') => loopD g b (enumP 0 xs) η st'
    | _ => .stuck
  | _ => .stuck
section
variable {K : PySem.W.Frag} {W : WX} {g : DG} {b : DS} {D : Ends}
def LpI (K : PySem.W.Frag) (W : WX) (g : DG) (b : DS) (D : Ends) (Ex : Hp → Prop) (ys : List P) (σ : St) (H : Hp) : Prop :=
  ∃ Z φ η st, RS K Z φ st H ∧ Slots K Z φ η σ ∧ Ex Z ∧ Af K W Z φ H (loopD g b ys η st) (GS K D)
theorem LpI.turn {Ex : Hp → Prop} (hm : ∀ Z Z', Same Z Z' → Ex Z → Ex Z') {p : P} {ys : List P} {σ : St} {H : Hp} {v : V} (h : LpI K W g b D Ex (p :: ys) σ H) (hv : ∀ Z, Same Z H → Ex Z → Rep K Z p v) :
    tG K g v σ H (fun σ2 H2 => tS K W b { D with nx := LpI K W g b D Ex ys, ct := LpI K W g b D Ex ys, bk := D.nx } σ2 H2) := by
  obtain ⟨Z, φ, η, st, rs, sl, ex, af⟩ := h
  unfold loopD at af
  split at af
  · exact af.elim
  · rename_i η1 e1
    refine ⟨Z, φ, η, st, .fz p, rs, sl, hv Z rs.same ex, η1, e1, fun σ2 sl2 => ⟨Z, φ, η1, st, rs, sl2, af.bind.mono fun r Z' φ' H' t g' rs' => ?_⟩⟩
    obtain ⟨fl, η2, st2⟩ := r
    cases fl with
    | nx => exact fun σ' sl' => ⟨Z', φ', η2, st2, rs', sl', hm _ _ t.hz ex, g'⟩
    | ct => exact fun σ' sl' => ⟨Z', φ', η2, st2, rs', sl', hm _ _ t.hz ex, g'⟩
    | bk => exact g' _ _ _ .refl rs'
    | rt d => exact g' _ _ _ .refl rs'
theorem LpI.done {Ex : Hp → Prop} {σ : St} {H : Hp} (h : LpI K W g b D Ex [] σ H) : D.nx σ H := by
  obtain ⟨Z, φ, η, st, rs, sl, ex, af⟩ := h
  exact af _ _ _ .refl rs _ sl
theorem LpI.same {Ex : Hp → Prop} {ys : List P} {σ : St} {H : Hp} (h : LpI K W g b D Ex ys σ H) : ∃ Z, Same Z H ∧ Ex Z := by
  obtain ⟨Z, φ, η, st, rs, sl, ex, af⟩ := h
  exact ⟨Z, rs.same, ex⟩
theorem drop_cons {α : Type} {xs : List α} {i : Nat} {x : α} (h : xs[i]? = some x) : xs.drop i = x :: xs.drop (i + 1) := by
  obtain ⟨hl, rfl⟩ := List.getElem?_eq_some_iff.mp h
  exact List.drop_eq_getElem_cons hl
end
section
variable {X : Cx} {W : WX} {tg l : Expr} {body : List Stmt} {pos p : Pos} {f : DE} {fs : DA} {g : DG} {b : DS}
/-- a list or a tuple, walked -/
theorem pi_seq {tl : TE} (hl : PE X l tl) : PI X tg l (fun σ H R => tl σ H fun x H1 => ∃ a, x = .ref a ∧ (((∃ xs, SqL X.K H1 a xs) ∧ R (Itl X.K a) H1) ∨ ((∃ xs, SqT X.K H1 a xs) ∧ R (Itt X.K a) H1))) := by
  refine ⟨fun pins s σ H R I h => ?_⟩
  refine thn (hl.run pins s σ H _ I h) fun v s1 ⟨x, H1, I1, r1, q1⟩ => ?_
  obtain ⟨a, e, q1⟩ := q1
  subst e
  cases r1
  rcases q1 with ⟨⟨xs, hq⟩, q⟩ | ⟨⟨xs, hq⟩, q⟩
  · obtain ⟨its, rv, p, hz⟩ := I1.list hq
    refine wpAny_pyIter_list p.isList ?_
    refine ⟨s1.heap.objs.size, [s1.heap.objs.size], _, _, H1, rfl, I1.kept (t' := s1.toks) fun b o e => Heap.get?_push_of_some _ e, turn_list a _, ⟨_, Heap.get?_push_size _ rfl, rfl, rfl⟩, fun b hb => ?_, q⟩
    have e : b = s1.heap.objs.size := by simpa using hb
    subst e
    exact I1.fpOk (Nat.le_refl _) (I1.hok.fresh (Nat.le_refl _))
  · obtain ⟨its, rv, p, hz⟩ := I1.tuple hq
    refine wpAny_pyIter_tuple (show s1.heap.IsTuple a its.toArray from p) ?_
    refine ⟨s1.heap.objs.size, [s1.heap.objs.size], _, _, H1, rfl, I1.kept (t' := s1.toks) fun b o e => Heap.get?_push_of_some _ e, turn_tuple a _, ⟨_, Heap.get?_push_size _ rfl, rfl, rfl⟩, fun b hb => ?_, q⟩
    have e : b = s1.heap.objs.size := by simpa using hb
    subst e
    exact I1.fpOk (Nat.le_refl _) (I1.hok.fresh (Nat.le_refl _))
theorem pk_itemsZ {K : PySem.W.Frag} {Z : Hp} {p : P} {v : V} {xs : List P} (h : Rep K Z p v) (e : itemsP p = some xs) : ∃ a vs, v = .ref a ∧ (SqL K Z a vs ∨ SqT K Z a vs) ∧ Reps K Z xs vs := pk_items (Rep.pk (Same.refl _) h) e
theorem ds_for (hp : PassesOwn (model X.prog X.w) X.A X.env X.xe) (hc : X.calm = true) (hl : PE X l (tE X.K W f)) (hg : PG X tg (tG X.K g)) (hb : PSs X body (tS X.K W b)) (hs : ∀ x, foldedSetIterable l X.env x = pure x := by intro _; rfl) :
    PS X (.For tg l body [] pos) (tS X.K W (dForL f g b)) := by
  refine (ps_for hp hc (pi_seq hl) hg hb hs).to fun D σ H hh => ?_
  obtain ⟨Z, φ, η, st, rs, sl, af⟩ := hh
  refine ⟨Z, φ, η, st, rs, sl, af.bind.mono fun a Z' φ' H' t g' rs' v r => ?_⟩
  split at g'
  · rename_i p st' e1
    split at g'
    · rename_i xs e2
      obtain ⟨Z2, f2, rs2, q2⟩ := toP_ok rs' e1 r
      obtain ⟨a', vs, rfl, h2, h3⟩ := pk_itemsZ q2 e2
      have af2 := g'.later f2.step
      rcases h2 with h2 | h2
      · refine ⟨a', rfl, .inl ⟨⟨vs, rs2.same.seq h2⟩, ?_⟩⟩
        refine for_list (K := X.K) (a := a') (xs := vs) (fun i σ' H' => LpI X.K W g b D (fun Z => SqL X.K Z a' vs ∧ Reps X.K Z xs vs) (xs.drop i) σ' H') ⟨Z2, φ', η, st', rs2, (sl.mono t).mono f2.step, ⟨h2, h3⟩, by rw [List.drop_zero]; exact af2⟩ (fun i σ' H' _ hh => ?_) (fun i x σ' H' hx hh => ?_) (fun σ' H' hh => ?_)
        · obtain ⟨Z3, s3, e3, _⟩ := hh.same; exact s3.seq e3
        · have hl : i < xs.length := by rw [h3.length]; exact (List.getElem?_eq_some_iff.mp hx).1
          rw [drop_cons (List.getElem?_eq_getElem hl)] at hh
          refine hh.turn (fun Z Z' s ⟨e1, e2⟩ => ⟨s.seq e1, e2.mono s⟩) fun Z _ ⟨_, e2⟩ => ?_
          obtain ⟨v, hv, rv⟩ := e2.get (List.getElem?_eq_getElem hl)
          rw [hx] at hv; cases hv; exact rv
        · rw [← h3.length, List.drop_length] at hh
          exact hh.done
      · refine ⟨a', rfl, .inr ⟨⟨vs, same_sqT rs2.same h2⟩, ?_⟩⟩
        refine for_tup (K := X.K) (a := a') (xs := vs) (fun i σ' H' => LpI X.K W g b D (fun Z => SqT X.K Z a' vs ∧ Reps X.K Z xs vs) (xs.drop i) σ' H') ⟨Z2, φ', η, st', rs2, (sl.mono t).mono f2.step, ⟨h2, h3⟩, by rw [List.drop_zero]; exact af2⟩ (fun i σ' H' _ hh => ?_) (fun i x σ' H' hx hh => ?_) (fun σ' H' hh => ?_)
        · obtain ⟨Z3, s3, e3, _⟩ := hh.same; exact same_sqT s3 e3
        · have hl : i < xs.length := by rw [h3.length]; exact (List.getElem?_eq_some_iff.mp hx).1
          rw [drop_cons (List.getElem?_eq_getElem hl)] at hh
          refine hh.turn (fun Z Z' s ⟨e1, e2⟩ => ⟨same_sqT s e1, e2.mono s⟩) fun Z _ ⟨_, e2⟩ => ?_
          obtain ⟨v, hv, rv⟩ := e2.get (List.getElem?_eq_getElem hl)
          rw [hx] at hv; cases hv; exact rv
        · rw [← h3.length, List.drop_length] at hh
          exact hh.done
    · exact g'.elim
  · exact g'.elim
theorem rangeP_get {lo : Int} {n i : Nat} (h : i < n) : (rangeP lo n)[i]? = some (.int (lo + i)) := by
  unfold rangeP
  rw [List.getElem?_map, List.getElem?_range h]
  rfl
theorem rangeP_len {lo : Int} {n : Nat} : (rangeP lo n).length = n := by unfold rangeP; simp
theorem rng_loop {D : Ends} {σ : St} {H Z : Hp} {φ : List Addr} {η : Et} {st : Sr} {lo : Int} {n : Nat} (rs : RS X.K Z φ st H) (sl : Slots X.K Z φ η σ) (af : Af X.K W Z φ H (loopD g b (rangeP lo n) η st) (GS X.K D)) :
    ∃ W' : Nat → Nat → St → Hp → Prop, (∃ m, W' 0 m σ H) ∧ ∀ i m σ H, W' i m σ H →
      ((Itr lo n).stop i H ∧ D.nx σ H) ∨ ((Itr lo n).go i H ∧ ∃ N : St → Hp → Prop, (∀ σ' H', N σ' H' → ∃ m', m' < m ∧ W' (i + 1) m' σ' H') ∧ ∀ x H', (Itr lo n).yld i H x H' → tG X.K g x σ H' fun σ2 H2 => tS X.K W b { D with nx := N, ct := N, bk := D.nx } σ2 H2) := by
  refine for_range (lo := lo) (n := n) (fun i σ' H' => LpI X.K W g b D (fun _ => True) ((rangeP lo n).drop i) σ' H') ⟨Z, φ, η, st, rs, sl, trivial, by rw [List.drop_zero]; exact af⟩ (fun i σ' H' hi hh => ?_) (fun σ' H' hh => ?_)
  · rw [drop_cons (rangeP_get hi)] at hh
    exact hh.turn (fun _ _ _ _ => trivial) fun Z _ _ => by rw [Rep]
  · rw [List.drop_eq_nil_of_le (by rw [rangeP_len]; exact Nat.le_refl _)] at hh
    exact hh.done
theorem ds_forR1 {a : Expr} {pos' : Pos} (hp : PassesOwn (model X.prog X.w) X.A X.env X.xe) (hc : X.calm = true) (hgl : Gl X "range") (hm : X.mg "range" = none) (ha : PA X [a] (tA X.K W fs)) (hg : PG X tg (tG X.K g)) (hb : PSs X body (tS X.K W b)) (hss : starEach [a] X.env = [(false, eval a X.env)] := by rfl)
    (hs : ∀ x, foldedSetIterable (.Call (.Name "range" p) [a] [] pos) X.env x = pure x := by intro _; rfl) :
    PS X (.For tg (.Call (.Name "range" p) [a] [] pos) body [] pos') (tS X.K W (dForR1 fs g b)) := by
  refine (ps_for hp hc (pi_range1 hgl hm ha hss) hg hb hs).to fun D σ H hh => ?_
  obtain ⟨Z, φ, η, st, rs, sl, af⟩ := hh
  refine ⟨Z, φ, η, st, rs, sl, af.bind.mono fun a Z' φ' H' t g' rs' vs r => ?_⟩
  split at g'
  · rename_i j ej
    rw [ej] at r
    obtain ⟨v, rfl, rj⟩ := r.one
    obtain rfl := fz_int rj
    split at g'
    · rename_i hz
      refine ⟨j, rfl, hz.1, hz.2, rng_loop rs' (sl.mono t) g'⟩
    · exact g'.elim
  · exact g'.elim
theorem ds_forR2 {a a2 : Expr} {pos' : Pos} (hp : PassesOwn (model X.prog X.w) X.A X.env X.xe) (hc : X.calm = true) (hgl : Gl X "range") (hm : X.mg "range" = none) (ha : PA X [a, a2] (tA X.K W fs)) (hg : PG X tg (tG X.K g)) (hb : PSs X body (tS X.K W b)) (hss : starEach [a, a2] X.env = [(false, eval a X.env), (false, eval a2 X.env)] := by rfl) (hss2 : starEach [a2] X.env = [(false, eval a2 X.env)] := by rfl)
    (hs : ∀ x, foldedSetIterable (.Call (.Name "range" p) [a, a2] [] pos) X.env x = pure x := by intro _; rfl) :
    PS X (.For tg (.Call (.Name "range" p) [a, a2] [] pos) body [] pos') (tS X.K W (dForR2 fs g b)) := by
  refine (ps_for hp hc (pi_range2 hgl hm ha hss hss2) hg hb hs).to fun D σ H hh => ?_
  obtain ⟨Z, φ, η, st, rs, sl, af⟩ := hh
  refine ⟨Z, φ, η, st, rs, sl, af.bind.mono fun a Z' φ' H' t g' rs' vs r => ?_⟩
  split at g'
  · rename_i i j ej
    rw [ej] at r
    obtain ⟨v, w, rfl, ri, rj⟩ := r.two
    obtain rfl := fz_int ri
    obtain rfl := fz_int rj
    split at g'
    · rename_i hz
      exact ⟨i, j, rfl, ⟨hz.1.1, hz.1.2, hz.2.1, hz.2.2⟩, rng_loop rs' (sl.mono t) g'⟩
    · exact g'.elim
  · exact g'.elim
theorem enumP_drop : ∀ (xs : List P) (k i : Nat), (enumP k xs).drop i = enumP (k + i) (xs.drop i)
  | xs, k, 0 => by simp
  | [], k, i + 1 => by simp [enumP]
  | x :: xs, k, i + 1 => by
    show (enumP (k + 1) xs).drop i = enumP (k + (i + 1)) (xs.drop i)
    rw [enumP_drop xs (k + 1) i]
    congr 1; omega
theorem ds_forE {a : Expr} {pos' tpos : Pos} {elts : List Expr} {kk : Nat} (hp : PassesOwn (model X.prog X.w) X.A X.env X.xe) (hc : X.calm = true) (hgl : Gl X "enumerate") (hm : X.mg "enumerate" = none) (ha : PA X [a] (tA X.K W fs)) (hg : PG X (.Tuple elts kk tpos) (tG X.K g)) (hb : PSs X body (tS X.K W b)) (hss : starEach [a] X.env = [(false, eval a X.env)] := by rfl)
    (hs : ∀ x, foldedSetIterable (.Call (.Name "enumerate" p) [a] [] pos) X.env x = pure x := by intro _; rfl) :
    PS X (.For (.Tuple elts kk tpos) (.Call (.Name "enumerate" p) [a] [] pos) body [] pos') (tS X.K W (dForE fs g b)) := by
  refine (ps_for hp hc (pi_enum hgl hm ha hss) hg hb hs).to fun D σ H hh => ?_
  obtain ⟨Z, φ, η, st, rs, sl, af⟩ := hh
  refine ⟨Z, φ, η, st, rs, sl, af.bind.mono fun a Z' φ' H' t g' rs' vs r => ?_⟩
  have main : ∀ {xs : List P} {st' : Sr} {d : M.D} {v : V} {p : P}, toP a.2 d = some (p, st') → itemsP p = some xs → (∀ Z v, Rep X.K Z p v → ∃ a' ws, v = .ref a' ∧ SqL X.K Z a' ws ∧ Reps X.K Z xs ws) → RepD X.K Z' φ' d v → Af X.K W Z' φ' H' (loopD g b (enumP 0 xs) η st') (GS X.K D) →
      ∃ a' xs', [v] = [V.ref a'] ∧ SqL X.K H' a' xs' ∧ ∃ W' : Nat → Nat → St → Hp → Prop, (∃ m, W' 0 m σ H') ∧ ∀ i m σ H, W' i m σ H →
      ((Ite X.K a').stop i H ∧ D.nx σ H) ∨ ((Ite X.K a').go i H ∧ ∃ N : St → Hp → Prop, (∀ σ' H', N σ' H' → ∃ m', m' < m ∧ W' (i + 1) m' σ' H') ∧ ∀ x H', (Ite X.K a').yld i H x H' → tG X.K g x σ H' fun σ2 H2 => tS X.K W b { D with nx := N, ct := N, bk := D.nx } σ2 H2) := by
    intro xs st' d v p e1 e2 hh rd g'
    obtain ⟨Z2, f2, rs2, q2⟩ := toP_ok rs' e1 rd
    obtain ⟨a', ws, rfl, h2, h3⟩ := hh _ _ q2
    refine ⟨a', ws, rfl, rs2.same.seq h2, fun i m σ' H' => m = ws.length - i ∧ i ≤ ws.length ∧ LpI X.K W g b D (fun Z => SqL X.K Z a' ws ∧ Reps X.K Z xs ws) ((enumP 0 xs).drop i) σ' H', ⟨ws.length, by simp, Nat.zero_le _, Z2, φ', η, st', rs2, (sl.mono t).mono f2.step, ⟨h2, h3⟩, by rw [List.drop_zero]; exact g'.later f2.step⟩, ?_⟩
    rintro i m σ' H2 ⟨rfl, hi, hh⟩
    obtain ⟨Z3, s3, e3, e4⟩ := id hh.same
    have sq := s3.seq e3
    by_cases hlt : i < ws.length
    · have hl : i < xs.length := by rw [h3.length]; exact hlt
      refine .inr ⟨⟨ws, ws[i], sq, by simp [hlt]⟩, fun σ3 H3 => LpI X.K W g b D (fun Z => SqL X.K Z a' ws ∧ Reps X.K Z xs ws) ((enumP 0 xs).drop (i + 1)) σ3 H3, fun σ3 H3 q => ⟨ws.length - (i + 1), by omega, rfl, hlt, q⟩, fun x H3 y => ?_⟩
      obtain ⟨T, y0, rfl, hT, rfl, y1⟩ := y
      have hy := y1 ws sq
      rw [enumP_drop, drop_cons (List.getElem?_eq_getElem hl)] at hh
      have ed : enumP (0 + i + 1) (xs.drop (i + 1)) = (enumP 0 xs).drop (i + 1) := by rw [enumP_drop]; congr 1
      have hh2 : LpI X.K W g b D (fun Z => (SqL X.K Z a' ws ∧ Reps X.K Z xs ws) ∧ Rep X.K Z (.tup [.int ((0 + i : Nat) : Int), xs[i]]) (.ref T)) (.tup [.int ((0 + i : Nat) : Int), xs[i]] :: enumP (0 + i + 1) (xs.drop (i + 1))) σ' (upd H2 T (.tup [.int (i : Nat), y0])) := by
        obtain ⟨Z4, φ4, η4, st4, rs4, sl4, ⟨e5, e6⟩, af4⟩ := hh
        obtain ⟨rs5, s5⟩ := rs4.newZ (o := .tup [.int (i : Nat), y0]) hT
        refine ⟨_, φ4, η4, st4, rs5, sl4.mono s5, ⟨⟨s5.hz.seq e5, e6.mono s5.hz⟩, ?_⟩, af4.later s5⟩
        rw [Rep]
        refine ⟨T, _, rfl, .inl (.inl upd_same), .cons (by rw [Rep]; simp) (.one ?_)⟩
        obtain ⟨v, hv, rv⟩ := e6.get (List.getElem?_eq_getElem hl)
        rw [hy] at hv; cases hv
        exact rv.mono s5.hz
      rw [ed] at hh2
      have tn := hh2.turn (fun Z Z' s ⟨⟨e1, e2⟩, e3⟩ => ⟨⟨s.seq e1, e2.mono s⟩, e3.mono s⟩) (v := .ref T) fun Z _ ⟨_, e3⟩ => e3
      obtain ⟨Z6, φ6, η6, st6, d6, rs6, sl6, r6, η7, e7, q7⟩ := tn
      refine ⟨Z6, φ6, η6, st6, d6, rs6, sl6, r6, η7, e7, fun σ7 sl7 => ?_⟩
      obtain ⟨Z8, φ8, η8, st8, rs8, sl8, af8⟩ := q7 σ7 sl7
      refine ⟨Z8, φ8, η8, st8, rs8, sl8, af8.mono fun r Z' φ' H' t g' rs' => ?_⟩
      obtain ⟨fl, η9, st9⟩ := r
      have low : ∀ σ0, LpI X.K W g b D (fun Z => (SqL X.K Z a' ws ∧ Reps X.K Z xs ws) ∧ Rep X.K Z (.tup [.int ((0 + i : Nat) : Int), xs[i]]) (.ref T)) ((enumP 0 xs).drop (i + 1)) σ0 H' → LpI X.K W g b D (fun Z => SqL X.K Z a' ws ∧ Reps X.K Z xs ws) ((enumP 0 xs).drop (i + 1)) σ0 H' := fun σ0 ⟨Z, φ, η, st, r1, r2, r3, r4⟩ => ⟨Z, φ, η, st, r1, r2, r3.1, r4⟩
      have g9 := g' rs'
      cases fl with
      | nx => exact fun σ0 sl0 => low σ0 (g9 σ0 sl0)
      | ct => exact fun σ0 sl0 => low σ0 (g9 σ0 sl0)
      | bk => exact g9
      | rt d => exact g9
    · have e : i = ws.length := by omega
      subst e
      rw [enumP_drop, ← h3.length, List.drop_length] at hh
      exact .inl ⟨⟨ws, sq, Nat.le_refl _⟩, hh.done⟩
  split at g'
  · rename_i d ej
    rw [ej] at r
    obtain ⟨v, rfl, rj⟩ := r.one
    split at g'
    · rename_i xs st' e1
      exact main e1 rfl (fun Z v h => by rw [Rep] at h; obtain ⟨a', ws, e, h2, h3⟩ := h; exact ⟨a', ws, e, SqL.of h2, h3⟩) rj g'
    · rename_i xs st' e1
      exact main e1 rfl (fun Z v h => by rw [Rep] at h; exact h) rj g'
    · exact g'.elim
  · exact g'.elim
end
end M

end
section
set_option Elab.async false
set_option linter.all false
set_option maxRecDepth 100000
set_option maxHeartbeats 0
namespace M
open PySem L2
/-! ## A part of a store, by its ids -/
def cellsD : D → List Nat
  | .cell n => [n]
  | .fz _ => []
def cellsF : List (Str × D) → List Nat
  | [] => []
  | (_, d) :: fs => cellsD d ++ cellsF fs
def cellsC : Ct → List Nat
  | .obj _ fs => cellsF fs
  | _ => []
def cellsA : List D → List Nat
  | [] => []
  | d :: ds => cellsD d ++ cellsA ds
def addNew : List Nat → List Nat → List Nat
  | acc, [] => acc
  | acc, n :: ns => if n ∈ acc then addNew acc ns else addNew (acc ++ [n]) ns
def grow (st : Sr) : List Nat → List Nat → List Nat
  | acc, [] => acc
  | acc, i :: is => grow st (match st[i]? with | some c => addNew acc (cellsC c) | none => acc) is
def reach (st : Sr) (is : List Nat) : List Nat := match is with
  | [] => []
  | i :: is => let a := addNew [] (i :: is); let b := grow st a a; grow st b b
def idx (n : Nat) : List Nat → Option Nat
  | [] => none
  | m :: ms => if m = n then some 0 else (idx n ms).map (· + 1)
def ren (ids : List Nat) : D → Option D
  | .fz p => some (.fz p)
  | .cell n => (idx n ids).map .cell
def renF (ids : List Nat) : List (Str × D) → Option (List (Str × D))
  | [] => some []
  | (k, d) :: fs => match ren ids d, renF ids fs with
    | some d', some fs' => some ((k, d') :: fs')
    | _, _ => none
def renC (ids : List Nat) : Ct → Option Ct
  | .obj c fs => (renF ids fs).map (.obj c)
  | .lst xs => some (.lst xs)
  | .dct xs => some (.dct xs)
  | .frz p => some (.frz p)
def renA (ids : List Nat) : List D → Option (List D)
  | [] => some []
  | d :: ds => match ren ids d, renA ids ds with
    | some d', some ds' => some (d' :: ds')
    | _, _ => none
def subG (ids : List Nat) (st : Sr) : List Nat → Option Sr
  | [] => some []
  | i :: is => match st[i]? with
    | some c => match renC ids c, subG ids st is with
      | some c', some cs => some (c' :: cs)
      | _, _ => none
    | none => none
abbrev subS (ids : List Nat) (st : Sr) : Option Sr := subG ids st ids
section
variable {K : PySem.W.Frag} {Z H : Hp} {φ ψ : List Addr}
theorem idx_get : ∀ {ids : List Nat} {n j : Nat}, idx n ids = some j → ids[j]? = some n
  | m :: ms, n, j, h => by
    unfold idx at h
    split at h
    · rename_i e; cases h; simp [e]
    · cases q : idx n ms with
      | none => rw [q] at h; cases h
      | some k => rw [q] at h; cases h; simpa using idx_get q
/-- ψ: the addresses of the ids -/
def AtIds (φ ψ : List Addr) (ids : List Nat) : Prop := ψ.length = ids.length ∧ ∀ (j n : Nat), ids[j]? = some n → ∃ a, φ[n]? = some a ∧ ψ[j]? = some a
theorem ren_ok {ids : List Nat} (hi : AtIds φ ψ ids) {d d' : D} {v : V} (e : ren ids d = some d') (r : RepD K Z φ d v) : RepD K Z ψ d' v := by
  cases d with
  | fz p => cases e; exact r
  | cell n =>
    replace e : (idx n ids).map D.cell = some d' := e
    cases q : idx n ids with
    | none => rw [q] at e; cases e
    | some j =>
      rw [q] at e; cases e
      obtain ⟨a, h1, rfl⟩ := r
      obtain ⟨b, h2, h3⟩ := hi.2 j n (idx_get q)
      rw [h1] at h2; cases h2
      exact ⟨a, h3, rfl⟩
theorem renA_ok {ids : List Nat} (hi : AtIds φ ψ ids) : ∀ {ds ds' : List D} {vs : List V}, renA ids ds = some ds' → RepDs K Z φ ds vs → RepDs K Z ψ ds' vs
  | [], ds', vs, e, r => by cases e; exact r
  | d :: ds, ds', vs, e, r => by
    unfold renA at e
    obtain ⟨v, ws, rfl, r1, r2⟩ := r
    split at e
    · rename_i d' ds2 e1 e2; cases e; exact ⟨v, ws, rfl, ren_ok hi e1 r1, renA_ok hi e2 r2⟩
    · cases e
theorem renF_ok {ids : List Nat} (hi : AtIds φ ψ ids) : ∀ {ds ds' : List (Str × D)} {vs : List (Str × V)}, renF ids ds = some ds' → RepDF K Z φ ds vs → RepDF K Z ψ ds' vs
  | [], ds', vs, e, r => by cases e; exact r
  | (k, d) :: ds, ds', vs, e, r => by
    unfold renF at e
    obtain ⟨v, ws, rfl, r1, r2⟩ := r
    split at e
    · rename_i d' ds2 e1 e2; cases e; exact ⟨v, ws, rfl, ren_ok hi e1 r1, renF_ok hi e2 r2⟩
    · cases e
theorem renC_ok {ids : List Nat} (hi : AtIds φ ψ ids) {a : Addr} {c c' : Ct} (e : renC ids c = some c') (r : RelC K Z φ H a c) : RelC K Z ψ H a c' := by
  cases c with
  | lst xs => cases e; exact r
  | dct xs => cases e; exact r
  | frz xs => cases e; exact r
  | obj c fs =>
    replace e : (renF ids fs).map (Ct.obj c) = some c' := e
    cases q : renF ids fs with
    | none => rw [q] at e; cases e
    | some fs' =>
      rw [q] at e; cases e
      obtain ⟨hz, dx, gs, h1, h2⟩ := r
      exact ⟨hz, dx, gs, h1, renF_ok hi q h2⟩
theorem subG_get {ids : List Nat} {st : Sr} : ∀ {is : List Nat} {cs : Sr}, subG ids st is = some cs → cs.length = is.length ∧ ∀ (j n : Nat), is[j]? = some n → ∃ c c', st[n]? = some c ∧ renC ids c = some c' ∧ cs[j]? = some c'
  | [], cs, h => by cases h; exact ⟨rfl, fun j n e => by simp at e⟩
  | i :: is, cs, h => by
    unfold subG at h
    split at h
    · rename_i c e1
      split at h
      · rename_i c' cs' e2 e3
        cases h
        obtain ⟨hl, hg⟩ := subG_get e3
        refine ⟨by simp [hl], fun j n e => ?_⟩
        cases j with
        | zero => simp at e; subst e; exact ⟨c, c', e1, e2, rfl⟩
        | succ j => simpa using hg j n (by simpa using e)
      · cases h
    · cases h
/-- the part stands over the addresses of its ids -/
theorem subS_ok {ids : List Nat} {st st' : Sr} (rs : RS K Z φ st H) (nd : ids.Nodup) (e : subS ids st = some st') : ∃ ψ, AtIds φ ψ ids ∧ RS K Z ψ st' H := by
  obtain ⟨hl, hg⟩ := subG_get e
  have ex : ∀ n ∈ ids, ∃ a, φ[n]? = some a := fun n hn => by
    obtain ⟨j, hj⟩ := List.getElem?_of_mem hn
    obtain ⟨c, c', h1, _⟩ := hg j n hj
    obtain ⟨q, _⟩ := List.getElem?_eq_some_iff.mp h1
    exact ⟨_, List.getElem?_eq_getElem (by rw [rs.len]; exact q)⟩
  have at_ : AtIds φ (ids.map fun n => φ.getD n 0) ids := ⟨by simp, fun j n hj => by
    obtain ⟨a, ha⟩ := ex n (List.mem_of_getElem? hj)
    exact ⟨a, ha, by rw [List.getElem?_map, hj]; simp [List.getD, ha]⟩⟩
  refine ⟨_, at_, rs.same, by rw [List.length_map, hl], ?_, fun j a c hj hc => ?_, rs.tb, rs.zd⟩
  · refine List.pairwise_map.mpr (nd.imp_of_mem fun {n m} hn hm hne he => hne ?_)
    obtain ⟨a, ha⟩ := ex n hn
    obtain ⟨b, hb⟩ := ex m hm
    simp only [List.getD, ha, hb, Option.getD_some] at he
    subst he
    exact RS.write.nodup_ix' rs.nd ha hb
  · rw [List.getElem?_map] at hj
    cases q : ids[j]? with
    | none => rw [q] at hj; cases hj
    | some n =>
      rw [q] at hj
      obtain ⟨c0, c', h1, h2, h3⟩ := hg j n q
      rw [hc] at h3; cases h3
      obtain ⟨b, hb⟩ := ex n (List.mem_of_getElem? q)
      simp only [Option.map_some, Option.some.injEq, List.getD, hb, Option.getD_some] at hj
      subst hj
      exact renC_ok at_ h2 (rs.cells n b c0 hb h1)
end
/-! ## A def's end -/
def frzTop (m : Nat) (st : Sr) : D → Option (D × Sr)
  | .fz p => some (.fz p, st)
  | .cell n => if n < m then some (.cell n, st) else (toP st (.cell n)).map fun r => (.fz r.1, r.2)
def exitI (m : Nat) (d : D) (st : Sr) : R (D × Sr) :=
  if (reach st (List.range m ++ cellsD d)).take m = List.range m ∧ (reach st (List.range m ++ cellsD d)).Nodup then
    match ren (reach st (List.range m ++ cellsD d)) d, subS (reach st (List.range m ++ cellsD d)) st with
    | some d2, some st2 => .ok (d2, st2)
    | _, _ => .stuck
  else .stuck
def exitF (fr : Bool) (m : Nat) (d : D) (st : Sr) : R (D × Sr) := match fr with
  | true => match frzTop m st d with
    | some (d1, st1) => exitI m d1 st1
    | none => .stuck
  | false => exitI m d st
def exitX (m : Nat) (c : Str) (fs : Option (List (Str × P))) (st : Sr) : R (D × Sr) :=
  match exitI m (.fz .non) st with
  | .ok (_, st2) => .exc c fs [] st2
  | _ => .stuck
def endF (fr : Bool) (m : Nat) : R (Fl × Et × Sr) → R (D × Sr)
  | .ok (.rt d, _, st') => exitF fr m d st'
  | .ok (.nx, _, st') => exitF fr m (.fz .non) st'
  | .ok _ => .stuck
  | .exc c fs _ st' => exitX m c fs st'
  | .stuck => .stuck
def runF (np n : Nat) (fr : Bool) (b : DS) : DF := fun ds st => if ds.length = np then endF fr st.length (b (ds.map some ++ List.replicate (n - np) none) st) else .stuck
/-- the promise of a def that means F -/
def spF (K : PySem.W.Frag) (F : DF) : Sp := fun vs H Q E => ∃ Z φ st ds, RS K Z φ st H ∧ RepDs K Z φ ds vs ∧ Af K (fun c d _ H => E c d H) Z φ H (F ds st) (GE K Q)
section
variable {K : PySem.W.Frag} {Z H : Hp} {φ ψ : List Addr}
theorem exitI_ok {m : Nat} {d d2 : D} {st st2 : Sr} {v : V} {Z0 H0 : Hp} (hm : φ.length = m) (s : Step Z0 φ H0 Z (φ ++ ψ) H) (rs : RS K Z (φ ++ ψ) st H) (r : RepD K Z (φ ++ ψ) d v) (e : exitI m d st = .ok (d2, st2)) :
    ∃ φ2, Step Z0 φ H0 Z φ2 H ∧ RS K Z φ2 st2 H ∧ RepD K Z φ2 d2 v := by
  unfold exitI at e
  generalize reach st (List.range m ++ cellsD d) = ids at e
  split at e
  · rename_i hc
    split at e
    · rename_i d3 st3 e1 e2
      cases e
      obtain ⟨χ, at_, rs2⟩ := subS_ok rs hc.2 e2
      refine ⟨χ, ⟨s.hz, ?_, s.fr, s.zn, s.up⟩, rs2, ren_ok at_ e1 r⟩
      have hlen : m ≤ ids.length := by
        have := congrArg List.length hc.1
        rw [List.length_take, List.length_range] at this; omega
      obtain ⟨psi, he, hn⟩ := s.pre
      obtain rfl := List.append_cancel_left he
      have htake : χ.take m = φ := by
        apply List.ext_getElem?
        intro j
        by_cases hj : j < m
        · rw [List.getElem?_take_of_lt hj]
          have hij : ids[j]? = some j := by
            have := congrArg (fun l => l[j]?) hc.1
            simp only [List.getElem?_take_of_lt hj, List.getElem?_range hj] at this
            exact this
          obtain ⟨a, h1, h2⟩ := at_.2 j j hij
          rw [h2, ← h1, List.getElem?_append_left (by omega)]
        · rw [List.getElem?_eq_none (by simp; omega), List.getElem?_eq_none (by omega)]
      refine ⟨χ.drop m, by rw [← htake]; simp, fun a ha => ?_⟩
      obtain ⟨j, hj⟩ := List.getElem?_of_mem ha
      rw [List.getElem?_drop] at hj
      have hjl : m + j < ids.length := by rw [← at_.1]; exact (List.getElem?_eq_some_iff.mp hj).1
      obtain ⟨b, h1, h2⟩ := at_.2 (m + j) _ (List.getElem?_eq_getElem hjl)
      rw [hj] at h2; cases h2
      by_cases hk : ids[m + j] < φ.length
      · exfalso
        have hij : ids[ids[m + j]]? = some ids[m + j] := by
          have := congrArg (fun l => l[ids[m + j]]?) hc.1
          simp only [List.getElem?_take_of_lt (show ids[m + j] < m by omega), List.getElem?_range (show ids[m + j] < m by omega)] at this
          exact this
        obtain ⟨hl, hge⟩ := List.getElem?_eq_some_iff.mp hij
        have := (List.getElem_inj (h₀ := hl) (h₁ := hjl) hc.2).mp hge
        omega
      · rw [List.getElem?_append_right (by omega)] at h1
        exact hn a (List.mem_of_getElem? h1)
    · cases e
  · cases e
theorem Af.exitF {W : WX} {fr : Bool} {m : Nat} {d : D} {st : Sr} {v : V} {Z0 H0 : Hp} {Q : VK} (hm : φ.length = m) (af : Af K W Z0 φ H0 (exitF fr m d st) (GE K Q)) (s : Step Z0 φ H0 Z (φ ++ ψ) H) (rs : RS K Z (φ ++ ψ) st H) (r : RepD K Z (φ ++ ψ) d v) : Q v H := by
  have main : ∀ {d : D} {st : Sr} {Z : Hp}, Af K W Z0 φ H0 (exitI m d st) (GE K Q) → Step Z0 φ H0 Z (φ ++ ψ) H → RS K Z (φ ++ ψ) st H → RepD K Z (φ ++ ψ) d v → Q v H := by
    intro d st Z af s rs r
    cases e : exitI m d st with
    | ok a =>
      obtain ⟨d2, st2⟩ := a
      rw [e] at af
      obtain ⟨φ2, s2, rs2, r2⟩ := exitI_ok hm s rs r e
      exact af _ _ _ s2 rs2 v r2
    | exc c fs η st' =>
      unfold exitI at e
      split at e
      · split at e <;> cases e
      · cases e
    | stuck => rw [e] at af; exact af.elim
  cases fr with
  | false => exact main af s rs r
  | true =>
    unfold M.exitF at af
    dsimp only at af
    split at af
    · rename_i d1 st1 e
      cases d with
      | fz p => cases e; exact main af s rs r
      | cell n =>
        replace e : (if n < m then some (D.cell n, st) else (toP st (.cell n)).map fun r => (D.fz r.1, r.2)) = some (d1, st1) := e
        split at e
        · cases e; exact main af s rs r
        · cases q : toP st (.cell n) with
          | none => rw [q] at e; cases e
          | some pr =>
            obtain ⟨p, st'⟩ := pr
            rw [q] at e; cases e
            obtain ⟨Z2, f2, rs2, r2⟩ := toP_ok rs q r
            refine main af (s.trans f2.step) rs2 r2
    · exact af.elim
end
theorem exitI_noexc {m : Nat} {d : D} {st : Sr} {c : Str} {fs : Option (List (Str × P))} {η : Et} {st' : Sr} : exitI m d st ≠ .exc c fs η st' := by
  intro e
  unfold exitI at e
  split at e
  · split at e <;> cases e
  · cases e
theorem slots_start {K : PySem.W.Frag} {Z : Hp} {φ : List Addr} : ∀ {ds : List D} {vs : List V} {k : Nat}, RepDs K Z φ ds vs → Slots K Z φ (ds.map some ++ List.replicate k none) (vs.map some ++ List.replicate k none)
  | [], vs, k, h => by
    cases h
    refine ⟨by simp, fun i d e => ?_⟩
    simp only [List.map_nil, List.nil_append, List.getElem?_replicate] at e
    split at e <;> cases e
  | d :: ds, vs, k, h => by
    obtain ⟨v, ws, rfl, h1, h2⟩ := h
    have ih := slots_start (k := k) h2
    refine ⟨by simpa using ih.len, fun i d' e => ?_⟩
    cases i with
    | zero => simp at e; subst e; exact ⟨v, rfl, h1⟩
    | succ i => simpa using ih.at_ i d' (by simpa using e)
theorem RepDs.length {K : PySem.W.Frag} {Z : Hp} {φ : List Addr} : ∀ {ds : List D} {vs : List V}, RepDs K Z φ ds vs → ds.length = vs.length
  | [], vs, h => by cases h; rfl
  | d :: ds, vs, h => by obtain ⟨v, ws, rfl, _, h2⟩ := h; simp [RepDs.length h2]
/-- from a body's meaning to the def's -/
theorem spF_len {K : PySem.W.Frag} {n np : Nat} {fr : Bool} {b : DS} {vs : List V} {H : Hp} {Q : VK} {E : XK} (h : spF K (runF np n fr b) vs H Q E) : vs.length = np := by
  obtain ⟨Z, φ, st, ds, rs, rd, af⟩ := h
  unfold runF at af
  split at af
  · rename_i hl; rw [← rd.length]; exact hl
  · exact af.elim
theorem body_ok {K : PySem.W.Frag} {n np : Nat} {fr : Bool} {b : DS} {N : List Str} {vs : List V} {H : Hp} {Q : VK} {E : XK} (hN : N.length = n) (h : spF K (runF np n fr b) vs H Q E) :
    tS K (fun c d _ H => E c d H) b { nx := fun _ H' => Q .non H', rt := Q } (L2.start N vs) H := by
  have hv := spF_len h
  obtain ⟨Z, φ, st, ds, rs, rd, af⟩ := h
  have hl := rd.length
  refine ⟨Z, φ, ds.map some ++ List.replicate (n - np) none, st, rs, by unfold L2.start; rw [hN, hv]; exact slots_start rd, ?_⟩
  unfold runF at af
  rw [if_pos (hl.trans hv)] at af
  cases e : b (ds.map some ++ List.replicate (n - np) none) st with
  | ok r =>
    obtain ⟨fl, η', st'⟩ := r
    rw [e] at af
    intro Z' φ' H' s rs'
    obtain ⟨psi, rfl, hn⟩ := s.pre
    cases fl with
    | nx => exact fun σ' _ => Af.exitF rs.len af s rs' rep_non
    | rt d => exact fun v r => Af.exitF rs.len af s rs' r
    | bk => exact af.elim
    | ct => exact af.elim
  | exc c fs η' st' =>
    rw [e] at af
    intro σ' H' Z' φ' s rs' sl
    obtain ⟨psi, rfl, hn⟩ := s.pre
    have af2 : Af K (fun c d _ H => E c d H) Z φ H (exitX st.length c fs st') (GE K Q) := af
    unfold exitX at af2
    split at af2
    · rename_i d2 st2 e2
      obtain ⟨φ2, s2, rs2, _⟩ := exitI_ok rs.len s rs' rep_non e2
      exact af2 [] H' Z' φ2 s2 rs2 ⟨rfl, fun i d e => by simp at e⟩
    · exact af2.elim
  | stuck => rw [e] at af; exact af.elim
/-! ## A call -/
def bkN (ids : List Nat) (n : Nat) (i : Nat) : Nat := match ids[i]? with
  | some k => k
  | none => n + (i - ids.length)
def bkD (ids : List Nat) (n : Nat) : D → D
  | .fz p => .fz p
  | .cell i => .cell (bkN ids n i)
def bkF (ids : List Nat) (n : Nat) : List (Str × D) → List (Str × D)
  | [] => []
  | (k, d) :: fs => (k, bkD ids n d) :: bkF ids n fs
def bkC (ids : List Nat) (n : Nat) : Ct → Ct
  | .obj c fs => .obj c (bkF ids n fs)
  | .lst xs => .lst xs
  | .dct xs => .dct xs
  | .frz p => .frz p
def putAll (st : Sr) : List Nat → Sr → Sr
  | [], _ => st
  | _, [] => st
  | i :: is, c :: cs => putAll (st.set i c) is cs
def backS (ids : List Nat) (st st2 : Sr) : Sr := putAll st ids ((st2.take ids.length).map (bkC ids st.length)) ++ (st2.drop ids.length).map (bkC ids st.length)
def callI (F : DF) (ids : List Nat) (ds : List D) (η : Et) (st : Sr) : R (D × Sr) :=
  if ids.Nodup then match renA ids ds, subS ids st with
    | some ds1, some st1 => match F ds1 st1 with
      | .ok (d, st2) => if ids.length ≤ st2.length then .ok (bkD ids st.length d, backS ids st st2) else .stuck
      | .exc c fs _ st2 => if ids.length ≤ st2.length then .exc c fs η (backS ids st st2) else .stuck
      | .stuck => .stuck
    | _, _ => .stuck
  else .stuck
def callF (F : DF) (ds : List D) (η : Et) (st : Sr) : R (D × Sr) := callI F (reach st (cellsA ds)) ds η st
def dCall (F : DF) (g : DA) : DE := fun η st => (g η st).bind fun a => callF F a.1 η a.2
section
variable {K : PySem.W.Frag} {Z Z2 H H2 : Hp} {φ ψ χ : List Addr} {ids : List Nat}
theorem bkD_ok {d : D} {v : V} (at_ : AtIds φ ψ ids) (r : RepD K Z (ψ ++ χ) d v) : RepD K Z (φ ++ χ) (bkD ids φ.length d) v := by
  cases d with
  | fz p => exact r
  | cell i =>
    obtain ⟨a, h1, rfl⟩ := r
    refine ⟨a, ?_, rfl⟩
    unfold bkN
    cases q : ids[i]? with
    | some k =>
      obtain ⟨b, h2, h3⟩ := at_.2 i k q
      have hi : i < ψ.length := (List.getElem?_eq_some_iff.mp h3).1
      rw [List.getElem?_append_left hi, h3] at h1
      cases h1
      dsimp only
      rw [List.getElem?_append_left (List.getElem?_eq_some_iff.mp h2).1]
      exact h2
    | none =>
      have hi : ids.length ≤ i := List.getElem?_eq_none_iff.mp q
      rw [List.getElem?_append_right (by rw [at_.1]; exact hi), at_.1] at h1
      dsimp only
      rw [List.getElem?_append_right (by omega)]
      rw [show φ.length + (i - ids.length) - φ.length = i - ids.length by omega]
      exact h1
theorem bkF_ok (at_ : AtIds φ ψ ids) : ∀ {fs : List (Str × D)} {gs : List (Str × V)}, RepDF K Z (ψ ++ χ) fs gs → RepDF K Z (φ ++ χ) (bkF ids φ.length fs) gs
  | [], gs, r => r
  | (k, d) :: fs, gs, r => by
    obtain ⟨v, ws, rfl, r1, r2⟩ := r
    exact ⟨v, ws, rfl, bkD_ok at_ r1, bkF_ok at_ r2⟩
theorem bkC_ok {a : Addr} {c : Ct} (at_ : AtIds φ ψ ids) (r : RelC K Z (ψ ++ χ) H a c) : RelC K Z (φ ++ χ) H a (bkC ids φ.length c) := by
  cases c with
  | lst xs => exact r
  | dct xs => exact r
  | frz xs => exact r
  | obj c fs =>
    obtain ⟨hz, dx, gs, h1, h2⟩ := r
    exact ⟨hz, dx, gs, h1, bkF_ok at_ h2⟩
theorem putAll_len : ∀ {ids : List Nat} {cs st : Sr}, (putAll st ids cs).length = st.length
  | [], _, _ => by unfold putAll; rfl
  | _ :: _, [], _ => by unfold putAll; rfl
  | i :: is, c :: cs, st => by unfold putAll; rw [putAll_len]; simp
theorem putAll_get : ∀ {ids : List Nat} {cs st : Sr} {k : Nat}, ids.Nodup → ids.length = cs.length → k < st.length → (putAll st ids cs)[k]? = match idx k ids with | some j => cs[j]? | none => st[k]?
  | [], cs, st, k, _, _, _ => by unfold putAll idx; rfl
  | _ :: _, [], _, _, _, h, _ => by simp at h
  | i :: is, c :: cs, st, k, nd, hl, hk => by
    unfold putAll idx
    rw [putAll_get (List.nodup_cons.mp nd).2 (by simpa using hl) (by simpa using hk)]
    by_cases e : i = k
    · subst e
      rw [if_pos rfl]
      cases q : idx i is with
      | some j => exact absurd (List.mem_of_getElem? (idx_get q)) (List.nodup_cons.mp nd).1
      | none => simp [hk]
    · rw [if_neg e]
      cases q : idx k is with
      | some j => simp
      | none => simp [List.getElem?_set_ne e]
theorem idx_none : ∀ {ids : List Nat} {n : Nat}, idx n ids = none → n ∉ ids
  | [], _, _ => by simp
  | m :: ms, n, h => by
    unfold idx at h
    split at h
    · cases h
    · rename_i e
      cases q : idx n ms with
      | some k => rw [q] at h; cases h
      | none => simp only [List.mem_cons, not_or]; exact ⟨fun z => e z.symm, idx_none q⟩
theorem call_back {st st1 st2 : Sr} (rs : RS K Z φ st H) (nd : ids.Nodup) (at_ : AtIds φ ψ ids) (hl : ids.length ≤ st2.length) (s : Step Z ψ H Z2 (ψ ++ χ) H2) (rs2 : RS K Z2 (ψ ++ χ) st2 H2) :
    RS K Z2 (φ ++ χ) (backS ids st st2) H2 ∧ Step Z φ H Z2 (φ ++ χ) H2 := by
  have hψ : ∀ a ∈ ψ, a ∈ φ := fun a ha => by
    obtain ⟨j, hj⟩ := List.getElem?_of_mem ha
    have hjl : j < ids.length := by rw [← at_.1]; exact (List.getElem?_eq_some_iff.mp hj).1
    obtain ⟨b, h1, h2⟩ := at_.2 j _ (List.getElem?_eq_getElem hjl)
    rw [hj] at h2; cases h2
    exact List.mem_of_getElem? h1
  obtain ⟨χ', he, hn⟩ := s.pre
  obtain rfl := List.append_cancel_left he
  have hlen2 : χ.length = st2.length - ids.length := by have := rs2.len; rw [List.length_append, at_.1] at this; omega
  refine ⟨⟨rs2.same, ?_, ?_, fun i a c hi hc => ?_, rs2.tb, rs2.zd⟩, ⟨s.hz, ⟨χ, rfl, hn⟩, fun b o hb hnb ht => s.fr b o hb (fun z => hnb (hψ b z)) ht, fun b hb => ?_, s.up⟩⟩
  · unfold backS
    rw [List.length_append, List.length_append, putAll_len, rs.len, List.length_map, List.length_drop, hlen2]
  · have nd2 := List.nodup_append.mp rs2.nd
    exact List.nodup_append.mpr ⟨rs.nd, nd2.2.1, fun x hx y hy => by
      rintro rfl
      obtain ⟨i, hi⟩ := List.getElem?_of_mem hx
      obtain ⟨c, _, r⟩ := rs.at_ hi
      obtain ⟨o, ho, hd⟩ := r.at2
      exact (hn x hy).no ho hd.1⟩
  · unfold backS at hc
    by_cases hil : i < φ.length
    · rw [List.getElem?_append_left hil] at hi
      rw [List.getElem?_append_left (by rw [putAll_len, ← rs.len]; exact hil), putAll_get nd (by simp; omega) (by rw [← rs.len]; exact hil)] at hc
      cases q : idx i ids with
      | some j =>
        rw [q] at hc
        dsimp only at hc
        have hj := idx_get q
        have hjl : j < ids.length := (List.getElem?_eq_some_iff.mp hj).1
        rw [List.getElem?_map, List.getElem?_take_of_lt hjl, ← rs.len] at hc
        obtain ⟨b, h1, h2⟩ := at_.2 j i hj
        rw [hi] at h1; cases h1
        cases q2 : st2[j]? with
        | none => rw [q2] at hc; cases hc
        | some c2 =>
          rw [q2] at hc; cases hc
          have hjψ : j < ψ.length := by rw [at_.1]; exact hjl
          exact bkC_ok at_ (rs2.cells j a c2 (by rw [List.getElem?_append_left hjψ]; exact h2) q2)
      | none =>
        rw [q] at hc
        dsimp only at hc
        have hni := idx_none q
        have rc := rs.cells i a c hi hc
        have haψ : a ∉ ψ := fun ha => by
          obtain ⟨j, hj⟩ := List.getElem?_of_mem ha
          have hjl : j < ids.length := by rw [← at_.1]; exact (List.getElem?_eq_some_iff.mp hj).1
          obtain ⟨b, h1, h2⟩ := at_.2 j _ (List.getElem?_eq_getElem hjl)
          rw [hj] at h2; cases h2
          have := RS.write.nodup_ix' rs.nd hi h1
          exact hni (this ▸ List.getElem_mem hjl)
        refine rc.keep s.hz ⟨χ, rfl⟩ (fun hf => ?_) fun o ho hd => s.fr a o ho haψ hd.1
        cases q3 : Z2 a with
        | none => rfl
        | some o =>
          exfalso
          rcases s.zn a (by rw [q3]; exact fun z => nomatch z) with z | z | z
          · exact z (rc.free hf)
          · obtain ⟨o', ho, hd⟩ := rc.at2; exact z.no ho hd.1
          · exact haψ z
    · rw [List.getElem?_append_right (by omega)] at hi
      rw [List.getElem?_append_right (by rw [putAll_len, ← rs.len]; omega), putAll_len, ← rs.len, List.getElem?_map, List.getElem?_drop] at hc
      cases q2 : st2[ids.length + (i - φ.length)]? with
      | none => rw [q2] at hc; cases hc
      | some c2 =>
        rw [q2] at hc; cases hc
        refine bkC_ok at_ (rs2.cells (ids.length + (i - φ.length)) a c2 ?_ q2)
        rw [List.getElem?_append_right (by rw [at_.1]; omega), at_.1, show ids.length + (i - φ.length) - ids.length = i - φ.length by omega]
        exact hi
  · rcases s.zn b hb with z | z | z
    · exact .inl z
    · exact .inr (.inl z)
    · exact .inr (.inr (hψ b z))
/-- a call's meaning gives the callee's promise -/
theorem call_sp {W : WX} {F : DF} {ds : List D} {vs : List V} {η : Et} {σ : St} {st : Sr} {Q : VK} (rs : RS K Z φ st H) (sl : Slots K Z φ η σ) (rd : RepDs K Z φ ds vs) (af : Af K W Z φ H (callF F ds η st) (GE K Q)) : spF K F vs H Q (WE W σ) := by
  unfold callF callI at af
  generalize reach st (cellsA ds) = ids at af
  split at af
  · rename_i nd
    split at af
    · rename_i ds1 st1 e1 e2
      obtain ⟨ψ, at_, rs1⟩ := subS_ok rs nd e2
      refine ⟨Z, ψ, st1, ds1, rs1, renA_ok at_ e1 rd, ?_⟩
      cases e : F ds1 st1 with
      | ok r =>
        obtain ⟨d, st2⟩ := r
        rw [e] at af
        dsimp only at af
        split at af
        · rename_i hl
          intro Z' φ' H' s rs2 v r
          obtain ⟨χ, rfl, _⟩ := id s.pre
          obtain ⟨q1, q2⟩ := call_back (st1 := st1) rs nd at_ hl s rs2
          exact af _ _ _ q2 q1 v (by rw [← rs.len]; exact bkD_ok at_ r)
        · exact af.elim
      | exc c fs η' st2 =>
        rw [e] at af
        dsimp only at af
        split at af
        · rename_i hl
          intro σ' H' Z' φ' s rs2 _
          obtain ⟨χ, rfl, _⟩ := id s.pre
          obtain ⟨q1, q2⟩ := call_back (st1 := st1) rs nd at_ hl s rs2
          exact af σ H' Z' _ q2 q1 (sl.mono q2)
        · exact af.elim
      | stuck => rw [e] at af; exact af.elim
    · exact af.elim
  · exact af.elim
end
section
variable {X : Cx} {W : WX} {k : Nat} {f : Addr} {fd : FuncData} {ps : List Str} {x : Str} {p pos : Pos} {e : Expr} {es : List Expr} {fs : DA} {F : DF}
/-- f(e, ..) -/
theorem de_call (tk : Takes X W) (Fo : FnOk X.prog X.w X.K X.mg X.base (L2.CX X.prog X.w) k f fd ps (spF X.K F)) (hr : Room k X.A) (hg : Gl X x) (hm : X.mg x = some (.ref f)) (hk : PySem.W.keepIn X.K (.ref f) = true) (hb : Binds X.K fd ps []) (ha : PA X (e :: es) (tA X.K W fs))
    (hdb : (x == ("__debug__" : Str)) = false := by decide)
    (he : starEach (e :: es) X.env = (false, eval e X.env) :: starEach es X.env := by rfl) (hpl : (backTo pos (starEach es X.env)).any (·.1) = false := by rfl) : PE X (.Call (.Name x p) (e :: es) [] pos) (tE X.K W (dCall F fs)) := by
  refine (pe_callS Fo hr hg hm hk hb (fun σ => passAt tk σ) ha hdb he hpl).to fun σ H Q h => ?_
  obtain ⟨Z, φ, η, st, rs, sl, af⟩ := h
  exact ⟨Z, φ, η, st, rs, sl, af.bind.mono fun a Z' φ' H' t g' rs' vs r => call_sp rs' (sl.mono t) r g'⟩
end
/-- THE RULE for a def: its body's meaning gives the def's -/
theorem fn_D {P : Program} {w : World} {K : PySem.W.Frag} {mg : Str → Option Value} {base : Heap} {x qual : Str} {params : Arguments} {body : List Stmt} {scope : Scope} {dvs : List V} {kws : List (Str × V)} {f : Addr} {fd : FuncData} {N ps : List Str} {k np n : Nat} {fr : Bool} {b : DS}
    (F : FunD K x qual params body scope dvs kws f fd) (S : FnScope N ps scope) (hps : ps.length = np) (hN : N.length = n)
    (hbody : ∀ (cdv : Value) (A : Around) (outer : List Env) (s : Shared) (H : Hp) (E : XK), Room k (cxOf (L2.CX P w) P w K mg base N qual scope f cdv A outer s H E).A →
      PassesOwn (model P w) (cxOf (L2.CX P w) P w K mg base N qual scope f cdv A outer s H E).A (cxOf (L2.CX P w) P w K mg base N qual scope f cdv A outer s H E).env (cxOf (L2.CX P w) P w K mg base N qual scope f cdv A outer s H E).xe →
      Takes (cxOf (L2.CX P w) P w K mg base N qual scope f cdv A outer s H E) (fun c d _ H => E c d H) →
      PSs (cxOf (L2.CX P w) P w K mg base N qual scope f cdv A outer s H E) body (tS K (fun c d _ H => E c d H) b)) : FnOk P w K mg base (L2.CX P w) (k + 1) f fd ps (spF K (runF np n fr b)) := by
  refine F.ok S (fun vs H Q E h => by rw [hps]; exact spF_len h) fun cdv A outer s H vs Q E hr h => ⟨_, hbody cdv A outer s H E hr (passes_of rfl) (takes_of rfl rfl rfl rfl), body_ok hN h⟩
end M

end
section
set_option Elab.async false
set_option linter.all false
set_option maxRecDepth 100000
set_option maxHeartbeats 0
namespace M
open PySem L2
/-! ## What the top has left -/
/-- a def keeps its meaning F -/
structure Okd (P : Program) (w : World) (K : PySem.W.Frag) (mg : Str → Option Value) (base : Heap) (k : Nat) (p : Str × Option Str) (ps : List Str) (F : DF) : Prop where
  ex : ∃ fd, FnOk P w K mg base (L2.CX P w) k (He.fAd K p) fd ps (spF K F) ∧ Binds K fd ps []
  kp : PySem.W.keepIn K (.ref (He.fAd K p)) = true
section
variable {X : Cx} {W : WX} {k j : Nat} {ps : List Str} {x : Str} {p pos : Pos} {e : Expr} {es : List Expr} {fs : DA} {F : DF}
theorem de_callG (tk : Takes X W) (o : Okd X.prog X.w X.K X.mg X.base k (x, none) ps F) (hr : Room j X.A) (hm : X.mg x = some (.ref (He.ga X.K x))) (ha : PA X (e :: es) (tA X.K W fs)) (hk : k ≤ j := by decide) (hg : Gl X x := by rfl)
    (hdb : (x == ("__debug__" : Str)) = false := by decide)
    (he : starEach (e :: es) X.env = (false, eval e X.env) :: starEach es X.env := by rfl) (hpl : (backTo pos (starEach es X.env)).any (·.1) = false := by rfl) : PE X (.Call (.Name x p) (e :: es) [] pos) (tE X.K W (dCall F fs)) := by
  obtain ⟨fd, h1, h2⟩ := o.ex
  exact de_call tk h1 (hr.mono hk) hg hm o.kp h2 ha hdb he hpl
theorem okd_of {P : Program} {w : World} {K : PySem.W.Frag} {mg : Str → Option Value} {base : Heap} {d : He.DefD} {k : Nat} {N ps : List Str} {np n : Nat} {fr : Bool} {b : DS} (hd : d.dfl = []) (hkw : d.kwd = [])
    (h : ∃ fd, FunD K d.name d.qual d.params d.body d.scope (d.dvs K) (d.kws K) (He.fAd K d.at_) fd) (S : FnScope N ps d.scope) (hps : ps.length = np) (hN : N.length = n)
    (hb : ∀ (kV doc pm : Value) (an : Option Addr) (cdv ct : Value) (us : List Value), us.length = ps.length → bindArgs (PySem.W.fnOf d.name d.qual d.params d.body d.scope .none kV doc pm an cdv ct) ⟨us, []⟩ = pure (ps.zip us))
    (hbody : ∀ (f : Addr) (cdv : Value) (A : Around) (outer : List Env) (s : Shared) (H : Hp) (E : XK), Room k (cxOf (L2.CX P w) P w K mg base N d.qual d.scope f cdv A outer s H E).A →
      PassesOwn (model P w) (cxOf (L2.CX P w) P w K mg base N d.qual d.scope f cdv A outer s H E).A (cxOf (L2.CX P w) P w K mg base N d.qual d.scope f cdv A outer s H E).env (cxOf (L2.CX P w) P w K mg base N d.qual d.scope f cdv A outer s H E).xe →
      Takes (cxOf (L2.CX P w) P w K mg base N d.qual d.scope f cdv A outer s H E) (fun c d _ H => E c d H) →
      PSs (cxOf (L2.CX P w) P w K mg base N d.qual d.scope f cdv A outer s H E) d.body (tS K (fun c d _ H => E c d H) b)) :
    Okd P w K mg base (k + 1) d.at_ ps (runF np n fr b) := by
  obtain ⟨fd, F⟩ := h
  refine ⟨⟨fd, fn_D F S hps hN fun cdv A outer s H E hr hp tk => hbody _ cdv A outer s H E hr hp tk, ?_⟩, F.kp⟩
  have F' : FunD K d.name d.qual d.params d.body d.scope [] (d.kws K) (He.fAd K d.at_) fd := by
    have e : d.dvs K = [] := by unfold He.DefD.dvs; rw [hd]; rfl
    rw [← e]; exact F
  exact F'.bindsN hb
end
theorem bt_len : bootBuiltins "len" = some (.builtin "len") := by decide +kernel
theorem bt_abs : bootBuiltins "abs" = some (.builtin "abs") := by decide +kernel
theorem bt_int : bootBuiltins "int" = some (.type "int") := by decide +kernel
theorem bt_list : bootBuiltins "list" = some (.type "list") := by decide +kernel
theorem bt_tuple : bootBuiltins "tuple" = some (.type "tuple") := by decide +kernel
theorem bt_min : bootBuiltins "min" = some (.builtin "min") := by decide +kernel
theorem bt_max : bootBuiltins "max" = some (.builtin "max") := by decide +kernel
end M

end
section
set_option Elab.async false
set_option linter.all false
set_option maxRecDepth 100000
set_option maxHeartbeats 0
namespace M
open PySem L2
/-! ## List comprehensions -/
def dYes : DT := fun _ st => .ok (true, st)
def lcD (i : Nat) (t : DT) (fe : DE) (η : Et) : List P → List P → Sr → R (List P × Sr)
  | [], acc, st => .ok (acc, st)
  | x :: xs, acc, st => (t (η.set i (some (.fz x))) st).bind fun a => if a.1 = true then (fe (η.set i (some (.fz x))) a.2).bind fun b => match toP b.2 b.1 with
      | some (p, st2) => if acc.length < szL then lcD i t fe η xs (acc ++ [p]) st2 else .stuck
      | none => .stuck
    else lcD i t fe η xs acc a.2
/-- an exception inside is not carried -/
def R.calm {α : Type} : R α → R α
  | .exc _ _ _ _ => .stuck
  | r => r
def lcF (r : R (List P × Sr)) : R (D × Sr) := r.calm.bind fun a => .ok (.cell a.2.length, a.2 ++ [.lst a.1])
def dLcL (f : DE) (i : Nat) (t : DT) (fe : DE) : DE := fun η st => (f η st).bind fun a => match toP a.2 a.1 with
  | some (p, st') => match itemsP p with
    | some xs => lcF (lcD i t fe η xs [] st')
    | none => .stuck
  | none => .stuck
def dLcR1 (f : DA) (i : Nat) (t : DT) (fe : DE) : DE := fun η st => (f η st).bind fun a => match a.1 with
  | [.fz (.int j)] => if -(2 ^ 62) ≤ j ∧ j < 2 ^ 62 then lcF (lcD i t fe η (rangeP 0 j.toNat) [] a.2) else .stuck
  | _ => .stuck
abbrev W0 : WX := fun _ _ _ _ => False
section
variable {K : PySem.W.Frag} {Z H : Hp} {φ : List Addr}
theorem RS.adopt {st : Sr} {p : Addr} {xs : List P} {vs : List V} (rs : RS K Z φ st H) (h1 : p ∉ φ) (h2 : Z p = none) (h3 : H p = some (.lst vs)) (h4 : Reps K Z xs vs) : RS K Z (φ ++ [p]) (st ++ [.lst xs]) H := by
  refine ⟨rs.same, by simp [rs.len], ?_, fun i b c' hi hc' => ?_, rs.tb, rs.zd⟩
  · exact List.nodup_append.mpr ⟨rs.nd, by simp, fun x hx y hy => by simp at hy; subst hy; rintro rfl; exact h1 hx⟩
  · by_cases hl : i < φ.length
    · rw [List.getElem?_append_left hl] at hi
      rw [List.getElem?_append_left (by rw [← rs.len]; exact hl)] at hc'
      exact (rs.cells i b c' hi hc').keep (Same.refl _) ⟨[p], rfl⟩ (fun q => (rs.cells i b c' hi hc').free q) fun u hu _ => hu
    · rw [List.getElem?_append_right (by omega)] at hi
      rw [List.getElem?_append_right (by rw [← rs.len]; omega), ← rs.len] at hc'
      cases hk : i - φ.length with
      | zero => rw [hk] at hi hc'; simp at hi hc'; subst hi hc'; exact ⟨h2, vs, h3, h4⟩
      | succ k => rw [hk] at hi; simp at hi
/-- the list that is being made, beside the store -/
structure Mk1 (K : PySem.W.Frag) (Z : Hp) (φ : List Addr) (H : Hp) (p : Addr) (acc : List P) : Prop where
  out : p ∉ φ
  zn : Z p = none
  at_ : ∃ vs, H p = some (.lst vs) ∧ Reps K Z acc vs
theorem Mk1.step {Z' H' : Hp} {φ' : List Addr} {p : Addr} {acc : List P} (m : Mk1 K Z φ H p acc) (s : Step Z φ H Z' φ' H') : Mk1 K Z' φ' H' p acc := by
  obtain ⟨vs, h1, h2⟩ := m.at_
  refine ⟨fun hm => ?_, ?_, vs, s.fr p _ h1 m.out dat_lst.1, h2.mono s.hz⟩
  · obtain ⟨psi, rfl, hn⟩ := s.pre
    rcases List.mem_append.mp hm with hm | hm
    · exact m.out hm
    · exact (hn p hm).no h1 dat_lst.1
  · cases q : Z' p with
    | none => rfl
    | some o =>
      exfalso
      rcases s.zn p (by rw [q]; exact fun z => nomatch z) with z | z | z
      · exact z m.zn
      · exact z.no h1 dat_lst.1
      · exact m.out z
/-- one more item -/
theorem Mk1.push {st : Sr} {p : Addr} {acc : List P} {x : P} {v : V} {vs : List V} (m : Mk1 K Z φ H p acc) (rs : RS K Z φ st H) (h1 : H p = some (.lst vs)) (r : Rep K Z x v) :
    RS K Z φ st (upd H p (.lst (vs ++ [v]))) ∧ Mk1 K Z φ (upd H p (.lst (vs ++ [v]))) p (acc ++ [x]) := by
  obtain ⟨ws, h2, h3⟩ := m.at_
  rw [h1] at h2; cases h2
  refine ⟨⟨fun b u hb => ?_, rs.len, rs.nd, fun i b c hi hc => ?_, tabs_upd rs.tb (fun u hu => by rw [h1] at hu; cases hu; exact dat_lst), rs.zd⟩, m.out, m.zn, _, upd_same, h3.append (.one r)⟩
  · rw [upd_ne (by rintro rfl; rw [m.zn] at hb; cases hb)]; exact rs.same b u hb
  · have nb : b ≠ p := by rintro rfl; exact m.out (List.mem_of_getElem? hi)
    exact (rs.cells i b c hi hc).keep (Same.refl _) ⟨[], by simp⟩ (fun q => (rs.cells i b c hi hc).free q) fun u hu _ => by rw [upd_ne nb]; exact hu
end
section
variable {X : Cx} {W : WX}
def LcI (K : PySem.W.Frag) (W : WX) (i : Nat) (t : DT) (fe : DE) (η : Et) (Q : VK) (σ : St) (Z0 : Hp) (φ0 : List Addr) (H0 : Hp) (p : Addr) (Ex : Hp → Prop) (ys : List P) (H : Hp) : Prop :=
  ∃ Z φ st acc, RS K Z φ st H ∧ Slots K Z φ η σ ∧ Ex Z ∧ Mk1 K Z φ H p acc ∧ Step Z0 φ0 H0 Z φ H ∧ Af K W Z0 φ0 H0 (lcF (lcD i t fe η ys acc st)) (GE K Q)
variable {K : PySem.W.Frag} {i : Nat} {t : DT} {fe : DE} {η : Et} {Q : VK} {σ : St} {Z0 H0 : Hp} {φ0 : List Addr} {p : Addr} {Ex : Hp → Prop}
theorem LcI.done {H : Hp} (h0 : H0 p = none) (h : LcI K W i t fe η Q σ Z0 φ0 H0 p Ex [] H) : Q (.ref p) H := by
  obtain ⟨Z, φ, st, acc, rs, sl, ex, m, s, af⟩ := h
  obtain ⟨vs, h1, h2⟩ := m.at_
  have af2 : Af K W Z0 φ0 H0 (.ok (.cell st.length, st ++ [.lst acc])) (GE K Q) := af
  obtain ⟨psi, rfl, hn⟩ := s.pre
  refine af2 Z (φ0 ++ psi ++ [p]) H ⟨s.hz, ⟨psi ++ [p], by simp, fun a ha => ?_⟩, s.fr, s.zn, s.up⟩ (rs.adopt m.out m.zn h1 h2) _ ⟨p, by rw [← rs.len]; simp, rfl⟩
  rcases List.mem_append.mp ha with ha | ha
  · exact hn a ha
  · simp at ha; subst ha; exact .of h0
theorem lcF_some {r : R (List P × Sr)} {Z : Hp} {φ : List Addr} {H : Hp} (h : Af K W Z φ H (lcF r) (GE K Q)) : ∃ a, r = .ok a := by
  cases r with
  | ok a => exact ⟨a, rfl⟩
  | exc => exact h.elim
  | stuck => exact h.elim
theorem LcI.turn (h0 : H0 p = none) (hm : ∀ Z Z', Same Z Z' → Ex Z → Ex Z') {x : P} {ys : List P} {H : Hp} {v : V} (h : LcI K W i t fe η Q σ Z0 φ0 H0 p Ex (x :: ys) H) (hv : ∀ Z, Same Z H → Ex Z → Rep K Z x v) :
    tT K W0 t (σ.set i (some v)) H (fun b H3 => if b = true then tE K W0 fe (σ.set i (some v)) H3 (fun y H4 => ∃ acc, H4 p = some (.lst acc) ∧ acc.length < sizeLine ∧ LcI K W i t fe η Q σ Z0 φ0 H0 p Ex ys (upd H4 p (.lst (acc ++ [y])))) else LcI K W i t fe η Q σ Z0 φ0 H0 p Ex ys H3) := by
  obtain ⟨Z, φ, st, acc, rs, sl, ex, m, s, af⟩ := h
  have slv : Slots K Z φ (η.set i (some (.fz x))) (σ.set i (some v)) := sl.set (hv Z rs.same ex)
  refine ⟨Z, φ, _, st, rs, slv, ?_⟩
  obtain ⟨⟨acc', st'⟩, he⟩ := lcF_some af
  have he0 := he
  unfold lcD at he
  cases e1 : t (η.set i (some (.fz x))) st with
  | exc => rw [e1] at he; cases he
  | stuck => rw [e1] at he; cases he
  | ok a =>
    rw [e1] at he
    intro Z1 φ1 H1 s1 rs1
    have he1 : (if a.1 = true then (fe (η.set i (some (.fz x))) a.2).bind fun b => match toP b.2 b.1 with
      | some (p, st2) => if acc.length < szL then lcD i t fe η ys (acc ++ [p]) st2 else .stuck
      | none => .stuck
    else lcD i t fe η ys acc a.2) = .ok (acc', st') := he
    have m1 := m.step s1
    by_cases ha : a.1 = true
    · rw [if_pos ha] at he1 ⊢
      refine ⟨Z1, φ1, _, a.2, rs1, slv.mono s1, ?_⟩
      cases e2 : fe (η.set i (some (.fz x))) a.2 with
      | exc => rw [e2] at he1; cases he1
      | stuck => rw [e2] at he1; cases he1
      | ok b =>
        rw [e2] at he1
        intro Z2 φ2 H2 s2 rs2 y ry
        have he2 : (match toP b.2 b.1 with
          | some (p, st2) => if acc.length < szL then lcD i t fe η ys (acc ++ [p]) st2 else .stuck
          | none => .stuck) = .ok (acc', st') := he1
        have m2 := m1.step s2
        obtain ⟨vs, h1, h2⟩ := m2.at_
        cases e3 : toP b.2 b.1 with
        | none => rw [e3] at he2; cases he2
        | some pr =>
          obtain ⟨q, st3⟩ := pr
          rw [e3] at he2
          dsimp only at he2
          split at he2
          · rename_i hz
            obtain ⟨Z3, f3, rs3, r3⟩ := toP_ok rs2 e3 ry
            have m3 := m2.step f3.step
            obtain ⟨rs4, m4⟩ := m3.push rs3 h1 r3
            have s3 := ((s.trans s1).trans s2).trans f3.step
            refine ⟨vs, h1, by rw [← h2.length, ← szL_eq]; exact hz, Z3, φ2, st3, acc ++ [q], rs4, ((sl.mono s1).mono s2).mono f3.step, hm _ _ f3.hz (hm _ _ s2.hz (hm _ _ s1.hz ex)), m4, ?_, ?_⟩
            · refine ⟨s3.hz, s3.pre, fun b o hb hn ht => ?_, s3.zn, fun b hb => ?_⟩
              · rw [upd_ne]
                · exact s3.fr b o hb hn ht
                · rintro rfl
                  rw [h0] at hb; cases hb
              · by_cases q : b = p
                · subst q; exact .of h0
                · exact s3.up b fun o ho => hb o (by rw [upd_ne q]; exact ho)
            · rw [he2]; rw [he0] at af; exact af
          · cases he2
    · rw [if_neg ha] at he1 ⊢
      exact ⟨Z1, φ1, a.2, acc, rs1, sl.mono s1, hm _ _ s1.hz ex, m1, s.trans s1, by rw [he1]; rw [he0] at af; exact af⟩
end
section
variable {X : Cx} {W : WX} {elt iter a : Expr} {scope : Scope} {x : Str} {i : Nat} {tpos pos p2 : Pos} {ifs : List Expr} {f fe : DE} {fs : DA} {t : DT}
theorem dts_nil : PTs X [] (tT X.K W dYes) := ⟨fun pins s σ H Q I ⟨Z, φ, η, st, rs, sl, af⟩ => pts_nil.run pins s σ H Q I (af.hereT rs)⟩
theorem dts_one {c : Expr} (h : PT X c (tT X.K W t)) : PTs X [c] (tT X.K W t) := pts_one h
theorem wipe1 (σ : St) (i : Nat) (v : V) : wipe ((wipe σ [i]).set i (some v)) [i] = wipe σ [i] := by
  show (((σ.set i none).set i (some v)).set i none) = σ.set i none
  rw [List.set_set, List.set_set]
theorem wipe1s (σ : St) (i : Nat) (v : V) : (wipe σ [i]).set i (some v) = σ.set i (some v) := by
  show ((σ.set i none).set i (some v)) = σ.set i (some v)
  rw [List.set_set]
/-- what a comprehension over frozen items asks -/
theorem lc_read {D : Addr} {σ : St} {η : Et} {H Z : Hp} {φ : List Addr} {st : Sr} {xs : List P} {Q : VK} {Ex : Hp → Prop} (hD : H D = none) (rs : RS X.K Z φ st H) (sl : Slots X.K Z φ η σ) (ex : Ex Z) (af : Af X.K W Z φ H (lcF (lcD i t fe η xs [] st)) (GE X.K Q)) :
    LcI X.K W i t fe η Q σ Z φ H D Ex xs (upd H D (.lst [])) := by
  have hz : Z D = none := rs.same.free hD
  have na : D ∉ φ := fun hm => by obtain ⟨u, hu⟩ := rs.some_ hm; rw [hD] at hu; cases hu
  refine ⟨Z, φ, st, [], ⟨fun b u hb => ?_, rs.len, rs.nd, fun j b c hj hc => ?_, tabs_upd rs.tb (fun u hu => by rw [hD] at hu; cases hu), rs.zd⟩, sl, ex, ⟨na, hz, [], upd_same, .nil⟩, ⟨Same.refl _, ⟨[], by simp, by simp⟩, fun b u hb hn _ => ?_, fun b hb => .inl hb, fun b hb => ?_⟩, af⟩
  · rw [upd_ne (by rintro rfl; rw [hz] at hb; cases hb)]; exact rs.same b u hb
  · have nb : b ≠ D := by rintro rfl; exact na (List.mem_of_getElem? hj)
    exact (rs.cells j b c hj hc).keep (Same.refl _) ⟨[], by simp⟩ (fun q => (rs.cells j b c hj hc).free q) fun u hu _ => by rw [upd_ne nb]; exact hu
  · rw [upd_ne (by rintro rfl; rw [hD] at hb; cases hb)]; exact hb
  · by_cases q : b = D
    · subst q; exact .of hD
    · exact fun o ho => hb o (by rw [upd_ne q]; exact ho)
theorem lcL_to {σ : St} {H : Hp} {Q : VK} (hh : tE X.K W (dLcL f i t fe) σ H Q) :
    tLc (fun σ H R => tE X.K W f σ H fun x H1 => ∃ a, x = .ref a ∧ (((∃ xs, SqL X.K H1 a xs) ∧ R (Itl X.K a) H1) ∨ ((∃ xs, SqT X.K H1 a xs) ∧ R (Itt X.K a) H1))) (gName i) (tT X.K W0 t) (tE X.K W0 fe) [i] σ H Q := by
  obtain ⟨Z, φ, η, st, rs, sl, af⟩ := hh
  refine ⟨Z, φ, η, st, rs, sl, af.bind.mono fun a Z' φ' H' t' g' rs' v r => ?_⟩
  split at g'
  · rename_i p st' e1
    split at g'
    · rename_i xs e2
      obtain ⟨Z2, f2, rs2, q2⟩ := toP_ok rs' e1 r
      obtain ⟨a', vs, rfl, h2, h3⟩ := pk_itemsZ q2 e2
      have af2 := g'.later f2.step
      have sl2 := (sl.mono t').mono f2.step
      rcases h2 with h2 | h2
      · refine ⟨a', rfl, .inl ⟨⟨vs, rs2.same.seq h2⟩, fun D hD => ?_⟩⟩
        refine lc_list (K := X.K) (a := a') (xs := vs) (Qd := fun H => Q (.ref D) H) (fun j H => LcI X.K W i t fe η Q σ Z2 φ' H' D (fun Z => SqL X.K Z a' vs ∧ Reps X.K Z xs vs) (xs.drop j) H) (by rw [List.drop_zero]; exact lc_read hD rs2 sl2 ⟨h2, h3⟩ af2) (fun j H _ hh => ?_) (fun j x H hx hh => ?_) (fun H hh => ?_)
        · obtain ⟨Z3, _, _, _, rs3, _, ⟨e3, _⟩, _⟩ := hh; exact rs3.same.seq e3
        · have hl : j < xs.length := by rw [h3.length]; exact (List.getElem?_eq_some_iff.mp hx).1
          rw [drop_cons (List.getElem?_eq_getElem hl)] at hh
          refine ⟨wipe1 _ _ _, ?_⟩
          rw [wipe1s]
          refine hh.turn hD (fun Z Z' s ⟨e1, e2⟩ => ⟨s.seq e1, e2.mono s⟩) fun Z _ ⟨_, e2⟩ => ?_
          obtain ⟨v, hv, rv⟩ := e2.get (List.getElem?_eq_getElem hl)
          rw [hx] at hv; cases hv; exact rv
        · rw [← h3.length, List.drop_length] at hh
          exact hh.done hD
      · refine ⟨a', rfl, .inr ⟨⟨vs, same_sqT rs2.same h2⟩, fun D hD => ?_⟩⟩
        refine lc_tup (K := X.K) (a := a') (xs := vs) (Qd := fun H => Q (.ref D) H) (fun j H => LcI X.K W i t fe η Q σ Z2 φ' H' D (fun Z => SqT X.K Z a' vs ∧ Reps X.K Z xs vs) (xs.drop j) H) (by rw [List.drop_zero]; exact lc_read hD rs2 sl2 ⟨h2, h3⟩ af2) (fun j H _ hh => ?_) (fun j x H hx hh => ?_) (fun H hh => ?_)
        · obtain ⟨Z3, _, _, _, rs3, _, ⟨e3, _⟩, _⟩ := hh; exact same_sqT rs3.same e3
        · have hl : j < xs.length := by rw [h3.length]; exact (List.getElem?_eq_some_iff.mp hx).1
          rw [drop_cons (List.getElem?_eq_getElem hl)] at hh
          refine ⟨wipe1 _ _ _, ?_⟩
          rw [wipe1s]
          refine hh.turn hD (fun Z Z' s ⟨e1, e2⟩ => ⟨same_sqT s e1, e2.mono s⟩) fun Z _ ⟨_, e2⟩ => ?_
          obtain ⟨v, hv, rv⟩ := e2.get (List.getElem?_eq_getElem hl)
          rw [hx] at hv; cases hv; exact rv
        · rw [← h3.length, List.drop_length] at hh
          exact hh.done hD
    · exact g'.elim
  · exact g'.elim
theorem lcR1_to {σ : St} {H : Hp} {Q : VK} (hh : tE X.K W (dLcR1 fs i t fe) σ H Q) : tLc (iRng1 (tA X.K W fs)) (gName i) (tT X.K W0 t) (tE X.K W0 fe) [i] σ H Q := by
  obtain ⟨Z, φ, η, st, rs, sl, af⟩ := hh
  refine ⟨Z, φ, η, st, rs, sl, af.bind.mono fun a Z' φ' H' t' g' rs' vs r => ?_⟩
  split at g'
  · rename_i j ej
    rw [ej] at r
    obtain ⟨v, rfl, rj⟩ := r.one
    obtain rfl := fz_int rj
    split at g'
    · rename_i hz
      refine ⟨j, rfl, hz.1, hz.2, fun D hD => ?_⟩
      refine lc_range (lo := 0) (n := j.toNat) (Qd := fun H => Q (.ref D) H) (fun k H => LcI X.K W i t fe η Q σ Z' φ' H' D (fun _ => True) ((rangeP 0 j.toNat).drop k) H) (by rw [List.drop_zero]; exact lc_read hD rs' (sl.mono t') trivial g') (fun k H hk hh => ?_) (fun H hh => ?_)
      · rw [drop_cons (rangeP_get hk)] at hh
        refine ⟨wipe1 _ _ _, ?_⟩
        rw [wipe1s]
        exact hh.turn hD (fun _ _ _ _ => trivial) fun Z _ _ => by rw [Rep]
      · rw [List.drop_eq_nil_of_le (by rw [rangeP_len]; exact Nat.le_refl _)] at hh
        exact hh.done hD
    · exact g'.elim
  · exact g'.elim
/-- [elt for x in iter if ..] -/
theorem de_lcL (hc : X.calm = true) (hN : X.N.Nodup) (hl : PE X iter (tE X.K W f)) (ok : BlkOk X.N X.env.scope scope [(x, i)])
    (hg : ∀ (s : Shared) (H : Hp) (C : Addr) (cl : List (Str × Addr)) (fp : List Addr), PG (X.blk s H scope (compEnvC scope cl C X.env) fp) (.Name x tpos) (gName i)) (ht : ∀ (s : Shared) (H : Hp) (C : Addr) (cl : List (Str × Addr)) (fp : List Addr), PTs (X.blk s H scope (compEnvC scope cl C X.env) fp) ifs (tT X.K W0 t))
    (he : ∀ (s : Shared) (H : Hp) (C : Addr) (cl : List (Str × Addr)) (fp : List Addr), PE (X.blk s H scope (compEnvC scope cl C X.env) fp) elt (tE X.K W0 fe)) (hs : ∀ x, foldedSetIterable iter X.env x = pure x := by intro _; rfl) :
    PE X (.ListComp elt [⟨.Name x tpos, iter, ifs, 0⟩] scope pos) (tE X.K W (dLcL f i t fe)) := (pe_lc (own := [(x, i)]) hc hN (pi_seq hl) ok hg ht he hs).to fun σ H Q hh => lcL_to hh
theorem de_lcR1 {p pos' : Pos} (hc : X.calm = true) (hN : X.N.Nodup) (hgl : Gl X "range") (hm : X.mg "range" = none) (ha : PA X [a] (tA X.K W fs)) (ok : BlkOk X.N X.env.scope scope [(x, i)])
    (hg : ∀ (s : Shared) (H : Hp) (C : Addr) (cl : List (Str × Addr)) (fp : List Addr), PG (X.blk s H scope (compEnvC scope cl C X.env) fp) (.Name x tpos) (gName i)) (ht : ∀ (s : Shared) (H : Hp) (C : Addr) (cl : List (Str × Addr)) (fp : List Addr), PTs (X.blk s H scope (compEnvC scope cl C X.env) fp) ifs (tT X.K W0 t))
    (he : ∀ (s : Shared) (H : Hp) (C : Addr) (cl : List (Str × Addr)) (fp : List Addr), PE (X.blk s H scope (compEnvC scope cl C X.env) fp) elt (tE X.K W0 fe)) (hss : starEach [a] X.env = [(false, eval a X.env)] := by rfl) (hs : ∀ x, foldedSetIterable (.Call (.Name "range" p) [a] [] pos) X.env x = pure x := by intro _; rfl) :
    PE X (.ListComp elt [⟨.Name x tpos, .Call (.Name "range" p) [a] [] pos, ifs, 0⟩] scope pos') (tE X.K W (dLcR1 fs i t fe)) := (pe_lc (own := [(x, i)]) hc hN (pi_range1 hgl hm ha hss) ok hg ht he hs).to fun σ H Q hh => lcR1_to hh
theorem dAsg_to {j : Nat} {g : DE} {D : Ends} {σ : St} {H : Hp} (hh : tS X.K W (dAsg g (gNm j)) D σ H) : tE X.K W g σ H (fun x H1 => gName j x σ H1 D.nx) := by
  obtain ⟨Z, φ, η, st, rs, sl, af⟩ := hh
  exact ⟨Z, φ, η, st, rs, sl, af.bind.mono fun a Z' φ' H' t g' rs' v r => g' _ _ _ .refl rs' _ ((sl.mono t).set r)⟩
theorem ds_lcL {j : Nat} {y : Str} {py spos : Pos} (hc : X.calm = true) (hN : X.N.Nodup) (hl : PE X iter (tE X.K W f)) (ok : BlkOk X.N X.env.scope scope [(x, i)])
    (hg : ∀ (s : Shared) (H : Hp) (C : Addr) (cl : List (Str × Addr)) (fp : List Addr), PG (X.blk s H scope (compEnvC scope cl C X.env) fp) (.Name x tpos) (gName i)) (ht : ∀ (s : Shared) (H : Hp) (C : Addr) (cl : List (Str × Addr)) (fp : List Addr), PTs (X.blk s H scope (compEnvC scope cl C X.env) fp) ifs (tT X.K W0 t))
    (he : ∀ (s : Shared) (H : Hp) (C : Addr) (cl : List (Str × Addr)) (fp : List Addr), PE (X.blk s H scope (compEnvC scope cl C X.env) fp) elt (tE X.K W0 fe))
    (hsw : swapsWith (.ListComp elt [⟨.Name x tpos, iter, ifs, 0⟩] scope pos) (some (.Name y py)) spos.line X.env = pure true) (hy : X.N[j]? = some y := by rfl) (hyl : X.env.scope.names.lookup y = some .local := by rfl) (hs : ∀ x, foldedSetIterable iter X.env x = pure x := by intro _; rfl) :
    PS X (.Assign [.Name y py] (.ListComp elt [⟨.Name x tpos, iter, ifs, 0⟩] scope pos) spos) (tS X.K W (dAsg (dLcL f i t fe) (gNm j))) := (ps_setLc (own := [(x, i)]) hc hN hy hyl hsw (pi_seq hl) ok hg ht he hs).to fun D σ H hh => lcL_to (dAsg_to hh)
theorem ds_lcR1 {j : Nat} {y : Str} {py spos p pos' : Pos} (hc : X.calm = true) (hN : X.N.Nodup) (hgl : Gl X "range") (hm : X.mg "range" = none) (ha : PA X [a] (tA X.K W fs)) (ok : BlkOk X.N X.env.scope scope [(x, i)])
    (hg : ∀ (s : Shared) (H : Hp) (C : Addr) (cl : List (Str × Addr)) (fp : List Addr), PG (X.blk s H scope (compEnvC scope cl C X.env) fp) (.Name x tpos) (gName i)) (ht : ∀ (s : Shared) (H : Hp) (C : Addr) (cl : List (Str × Addr)) (fp : List Addr), PTs (X.blk s H scope (compEnvC scope cl C X.env) fp) ifs (tT X.K W0 t))
    (he : ∀ (s : Shared) (H : Hp) (C : Addr) (cl : List (Str × Addr)) (fp : List Addr), PE (X.blk s H scope (compEnvC scope cl C X.env) fp) elt (tE X.K W0 fe))
    (hsw : swapsWith (.ListComp elt [⟨.Name x tpos, .Call (.Name "range" p) [a] [] pos, ifs, 0⟩] scope pos') (some (.Name y py)) spos.line X.env = pure true) (hy : X.N[j]? = some y := by rfl) (hyl : X.env.scope.names.lookup y = some .local := by rfl) (hss : starEach [a] X.env = [(false, eval a X.env)] := by rfl) (hs : ∀ x, foldedSetIterable (.Call (.Name "range" p) [a] [] pos) X.env x = pure x := by intro _; rfl) :
    PS X (.Assign [.Name y py] (.ListComp elt [⟨.Name x tpos, .Call (.Name "range" p) [a] [] pos, ifs, 0⟩] scope pos') spos) (tS X.K W (dAsg (dLcR1 fs i t fe) (gNm j))) := (ps_setLc (own := [(x, i)]) hc hN hy hyl hsw (pi_range1 hgl hm ha hss) ok hg ht he hs).to fun D σ H hh => lcR1_to (dAsg_to hh)
end
end M

end
section
set_option Elab.async false
set_option linter.all false
set_option maxRecDepth 100000
set_option maxHeartbeats 0
namespace M
open PySem L2
/-! ## A def with a closure (the class's own cell) -/
theorem cellsFrom_app : ∀ (names : List (Str × NameKind)) (n : Nat) (acc : List (Str × Addr)), cellsFrom n names acc = cellsFrom n names [] ++ acc
  | [], n, acc => by unfold cellsFrom; rfl
  | (x, k) :: r, n, acc => by
    unfold cellsFrom
    split
    · rw [cellsFrom_app r (n + 1) ((x, n) :: acc), cellsFrom_app r (n + 1) [(x, n)], List.append_assoc]; rfl
    · exact cellsFrom_app r n acc
theorem lookup_app {α : Type} {x : Str} {c : α} : ∀ {a b : List (Str × α)}, a.lookup x = some c → (a ++ b).lookup x = some c
  | (y, d) :: r, b, h => by
    rw [List.cons_append, List.lookup_cons]
    rw [List.lookup_cons] at h
    cases q : x == y with
    | true => rw [q] at h; exact h
    | false => rw [q] at h; exact lookup_app h
theorem lookup_app_none {α : Type} {x : Str} : ∀ {a b : List (Str × α)}, a.lookup x = none → (a ++ b).lookup x = b.lookup x
  | [], b, h => rfl
  | (y, d) :: r, b, h => by
    rw [List.cons_append, List.lookup_cons]
    rw [List.lookup_cons] at h
    cases q : x == y with
    | true => rw [q] at h; cases h
    | false => rw [q] at h; exact lookup_app_none h
section
variable {M : Model} {A : Around} {E : Value → Shared → Prop} {s₀ s : Shared} {m cm : Str → Option Value} {env : Env} {own cl : List (Str × Addr)}
theorem bindParams_clo (he : env.cells = own ++ cl) (f : Str × Value → PUnit → Sem (ForInStep PUnit)) (hf : ∀ n v u, f (n, v) u = (do storeName env n v; pure (.yield ⟨⟩))) (hk : env.scope.kind = .function) :
    ∀ (binds : List (Str × Value)) (m cm : Str → Option Value) (s : Shared) (Q : PUnit → Shared → Prop), InCallC s₀ env.locals m own cm s →
      (∀ x ∈ binds, env.kindOf x.1 = some .local ∨ (env.kindOf x.1 = some .cell ∧ (own.lookup x.1).isSome = true)) →
      (∀ s', InCallC s₀ env.locals (bindL env.kindOf binds m) own (bindC env.kindOf binds cm) s' → Q ⟨⟩ s') → wpAny M A (forIn binds ⟨⟩ f) Q E s
  | [], m, cm, s, Q, x, _, h => by rw [List.forIn_nil]; exact wpAny_pure (h s x)
  | (n, v) :: r, m, cm, s, Q, x, hkind, h => by
    rw [List.forIn_cons, hf]
    have hr : ∀ y ∈ r, env.kindOf y.1 = some .local ∨ (env.kindOf y.1 = some .cell ∧ (own.lookup y.1).isSome = true) := fun y hy => hkind y (List.mem_cons_of_mem _ hy)
    rcases hkind (n, v) List.mem_cons_self with hl | ⟨hl, hc⟩
    · refine wpAny_bind (wpAny_bind (wpAny_storeName_local hl x.toInCall.ns (fun h' hn' hs' => ?_) (by rw [hk]; rfl)))
      have x' : InCallC s₀ env.locals (fun y => if y = n then some v else m y) own cm { s with heap := h', toks := s.toks + 1 } := ⟨⟨by obtain ⟨h₁, tk, rfl⟩ := x.toInCall.same; exact ⟨h', _, rfl⟩, hn', fun b o e => hs'.extBut b o (Nat.ne_of_lt (Nat.lt_of_lt_of_le (Heap.lt_size e) x.toInCall.fresh)) (x.toInCall.keep b o e), x.toInCall.fresh⟩,
        fun k c hc => (x.cell k c hc).sameBut hs' (Nat.ne_of_gt (x.above k c (PySem.mem_of_lookup hc))), x.apart, x.above⟩
      refine wpAny_pure (bindParams_clo he f hf hk r _ _ _ Q x' hr fun s'' x'' => h s'' ?_)
      unfold bindL bindC; rw [if_pos hl, if_pos hl]; exact x''
    · obtain ⟨c, hc⟩ := Option.isSome_iff_exists.mp hc
      have hnl : ¬ env.kindOf n = some .local := by rw [hl]; decide
      have hLc := x.above n c (PySem.mem_of_lookup hc)
      refine wpAny_bind (wpAny_bind (wpAny_storeName_cell hk hl (by rw [he]; exact lookup_app hc) (x.cell n c hc) fun h' hc' hs' => ?_))
      have x' : InCallC s₀ env.locals m own (fun y => if y = n then some v else cm y) { s with heap := h' } := ⟨⟨by obtain ⟨h₁, tk, rfl⟩ := x.toInCall.same; exact ⟨h', _, rfl⟩, x.toInCall.ns.sameBut hs' (Nat.ne_of_lt hLc), fun b o e => hs'.extBut b o (Nat.ne_of_lt (Nat.lt_trans (Nat.lt_of_lt_of_le (Heap.lt_size e) x.toInCall.fresh) hLc)) (x.toInCall.keep b o e), x.toInCall.fresh⟩,
        fun k c' hk' => by
          by_cases hkn : k = n
          · subst hkn
            rw [hc] at hk'; cases hk'
            simpa using hc'
          · rw [if_neg hkn]
            exact (x.cell k c' hk').sameBut hs' fun e => hkn (name_of_addr x.apart (PySem.mem_of_lookup hk') (e ▸ PySem.mem_of_lookup hc)), x.apart, x.above⟩
      refine wpAny_pure (bindParams_clo he f hf hk r _ _ _ Q x' hr fun s'' x'' => h s'' ?_)
      unfold bindL bindC; rw [if_neg hnl, if_neg hnl]; exact x''
theorem newEnv_clo {scope : Scope} {globals : Addr} {binds : List (Str × Value)} {qual : Str} {func : Option Addr} {code : Value} {builtins : Addr} {Q : Env → Shared → Prop}
    (hk : scope.kind = .function)
    (hkind : ∀ x ∈ binds, scope.names.lookup x.1 = some .local ∨ (scope.names.lookup x.1 = some .cell ∧ ((cellsFrom (s.heap.objs.size + 1) scope.names []).lookup x.1).isSome = true))
    (hQ : ∀ env, env = newEnv scope s.heap.objs.size globals (cellsFrom (s.heap.objs.size + 1) scope.names [] ++ cl) qual func code none builtins →
      ∀ s', InCallC s env.locals (bindL env.kindOf binds fun _ => none) (cellsFrom (s.heap.objs.size + 1) scope.names []) (bindC env.kindOf binds fun _ => none) s' → Q env s') :
    wpAny M A (newFunctionEnv scope globals cl binds qual func code none builtins) Q E s := by
  simp only [newFunctionEnv, Option.isSome_none, Bool.false_eq_true, if_false]
  refine wpAny_bind (wpAny_alloc ?_)
  refine wpAny_bind (wpAny_layCells _ (fun name kind cells => by cases hkc : kind == NameKind.cell <;> simp [hkc]) _ _ _ _ ?_)
  have ok := cellsFrom_ok scope.names (s.heap.push { cls := .type "frame", data := .dict #[] }) (s.heap.objs.size + 1) [] ⟨fun _ _ hm => (nomatch hm), List.Pairwise.nil⟩ (by rw [Heap.size_push]; exact Nat.le_refl _)
  rw [Heap.size_push] at ok
  rw [show ({ s with heap := s.heap.push { cls := .type "frame", data := .dict #[] } } : Shared).heap.objs.size = s.heap.objs.size + 1 from Heap.size_push .., cellsFrom_app]
  refine wpAny_bind (bindParams_clo (s₀ := s) (own := cellsFrom (s.heap.objs.size + 1) scope.names []) (cl := cl) (env := newEnv scope s.heap.objs.size globals (cellsFrom (s.heap.objs.size + 1) scope.names [] ++ cl) qual func code none builtins) rfl
    _ (fun _ _ _ => rfl) hk binds (fun _ => none) (fun _ => none) _ _
    ⟨⟨⟨_, _, rfl⟩, (Heap.Ns.new s.heap (.type "frame")).keeps (pushCells_keeps _ _), fun b o e => pushCells_keeps _ _ b o (Heap.get?_push_of_some _ e), Nat.le_refl _⟩,
      fun n c hc => (ok.empty n c (PySem.mem_of_lookup hc)).1, ok.apart, fun n c hm => (ok.empty n c hm).2⟩
    hkind fun s' x => wpAny_pure (hQ _ rfl s' x))
end
abbrev envC (qual : Str) (scope : Scope) (L f : Addr) (cd : Value) (cc : Addr) : Env := PySem.W.envX qual scope L f cd (cellsFrom (L + 1) scope.names [] ++ [(("__class__" : Str), cc)])
structure FnScopeC (N ps : List Str) (sc : Scope) : Prop where
  kind : sc.kind = .function
  co : sc.isCoroutine = false
  gen : sc.isGenerator = false
  nd : N.Nodup
  pre : N.take ps.length = ps
  par : ∀ x ∈ ps, sc.names.lookup x = some .local ∨ sc.names.lookup x = some .cell
  fre : ∀ y ∈ sc.names, y.2 = .free → y.1 = "__class__"
  ncc : ∀ y ∈ sc.names, y.2 = .cell → y.1 ≠ "__class__"
  ncl : sc.names.lookup ("__class__" : Str) = some .free
def cxC (CX : CXT) (P : Program) (w : World) (K : PySem.W.Frag) (mg : Str → Option Value) (base : Heap) (N : List Str) (qual : Str) (scope : Scope) (cc f : Addr) (cd : Value) (A : Around) (outer : List Env) (s : Shared) (H : Hp) (E : XK) : Cx where
  prog := P
  w := w
  K := K
  mg := mg
  base := base
  A := A.deeper (envC qual scope s.heap.objs.size f cd cc)
  N := N
  s_0 := s
  H_0 := H
  env := envC qual scope s.heap.objs.size f cd cc
  outer := outer
  stack := envC qual scope s.heap.objs.size f cd cc :: outer
  ex := []
  calm := true
  fn := fun x => scope.names.lookup x == some .cell
  pn := []
  xe := fun e s' => wpAny (model P w) (A.deeper (envC qual scope s.heap.objs.size f cd cc)) (leaving (envC qual scope s.heap.objs.size f cd cc) e) (fun _ s'' => CX outer H s E e s'') (fun e' s'' => CX outer H s E e' s'') s'
theorem own_has {sc : Scope} {n : Nat} {x : Str} (h : sc.names.lookup x = some .cell) : ∃ c, (cellsFrom n sc.names []).lookup x = some c := Option.isSome_iff_exists.mp (PySem.W.cellsFrom_some sc.names n [] (.inl h))
theorem own_cell : ∀ {names : List (Str × NameKind)} {n : Nat} {acc : List (Str × Addr)} {x : Str} {c : Addr}, (x, c) ∈ cellsFrom n names acc → (x, NameKind.cell) ∈ names ∨ (x, c) ∈ acc
  | [], n, acc, x, c, h => .inr h
  | (y, k) :: r, n, acc, x, c, h => by
    unfold cellsFrom at h
    split at h
    · rename_i hk
      have hk' : k = .cell := beq_iff_eq.mp hk
      subst hk'
      rcases own_cell h with h | h
      · exact .inl (List.mem_cons_of_mem _ h)
      · rcases List.mem_cons.mp h with e | h
        · cases e; exact .inl List.mem_cons_self
        · exact .inr h
    · rcases own_cell h with h | h
      · exact .inl (List.mem_cons_of_mem _ h)
      · exact .inr h
theorem inv_startC {CX : CXT} {P : Program} {w : World} {K : PySem.W.Frag} {mg : Str → Option Value} {base : Heap} {N ps : List Str} {qual : Str} {scope : Scope} {f cc : Addr} {ov : Option Value} {co : Value} {cdd : Option Addr} {csl : Array (Option Value)} {cd : Value} {A : Around} {outer : List Env} {s s1 : Shared} {H : Hp} {E : XK} {us : List Value} {vs : List V}
    (S : FnScopeC N ps scope) (hcc : K.lookup cc = some ⟨co, cdd, .cell ov, csl⟩) (hncl : (cellsFrom (s.heap.objs.size + 1) scope.names []).lookup ("__class__" : Str) = none) (hd : A.handled = none) (e0 : Env0 P w K mg base A outer s H) (hl : vs.length = ps.length) (r : Vals vs us)
    (x : InCallC s s.heap.objs.size (bindL (envC qual scope s.heap.objs.size f cd cc).kindOf (ps.zip us) fun _ => none) (cellsFrom (s.heap.objs.size + 1) scope.names []) (bindC (envC qual scope s.heap.objs.size f cd cc).kindOf (ps.zip us) fun _ => none) s1) :
    Inv (cxC CX P w K mg base N qual scope cc f cd A outer s H E) [] (L2.start N vs) H s1 := by
  have hpl : ps.length ≤ N.length := by have := congrArg List.length S.pre; rw [List.length_take] at this; omega
  obtain ⟨h1, tk, rfl, hk⟩ := x.done
  have bcc : base.get? cc = some ⟨co, cdd, .cell ov, csl⟩ := e0.mod.kin _ _ hcc
  have scc : s.heap.get? cc = some ⟨co, cdd, .cell ov, csl⟩ := (e0.bs _ _ bcc).1
  have hccL : cc < s.heap.objs.size := Heap.lt_size scc
  have noA : ∀ b : Addr, b ∉ (cxC CX P w K mg base N qual scope cc f cd A outer s H E).ex := fun b z => absurd (show b ∈ ([] : List Addr) from z) (by simp)
  -- a name's cell: an own one, or the class's
  have look : ∀ {y : Str} {c : Addr}, (envC qual scope s.heap.objs.size f cd cc).cells.lookup y = some c → ((cellsFrom (s.heap.objs.size + 1) scope.names []).lookup y = some c ∧ s.heap.objs.size < c) ∨ (y = "__class__" ∧ c = cc) := fun {y c} h => by
    have h' : (cellsFrom (s.heap.objs.size + 1) scope.names [] ++ [(("__class__" : Str), cc)]).lookup y = some c := h
    cases q : (cellsFrom (s.heap.objs.size + 1) scope.names []).lookup y with
    | some c' =>
      rw [lookup_app q] at h'
      cases h'
      exact .inl ⟨rfl, x.above y c (PySem.mem_of_lookup q)⟩
    | none =>
      rw [lookup_app_none q, List.lookup_cons] at h'
      cases q2 : y == ("__class__" : Str) with
      | true => rw [q2] at h'; cases h'; exact .inr ⟨beq_iff_eq.mp q2, rfl⟩
      | false => rw [q2] at h'; cases h'
  refine ⟨⟨e0.mod, S.kind, rfl, rfl, Nat.le_refl _, fun y z c h1 h2 => ?_, fun y hy => ?_, fun y c hf h => ?_, fun _ => hd, Around.frames_deeper e0.frames, .inr ⟨rfl, rfl⟩, fun b z => absurd z (noA b), e0.bs, e0.bsz, fun b _ _ => noA b, fun b z => absurd z (noA b), e0.funs, e0.frf⟩,
    rfl, e0.bare, Un.kept hk, ⟨_, x.toInCall.ns, fun i y v h1 h2 h3 => ?_⟩, fun y c h => ?_, e0.hok.fresh (Nat.le_refl _), fun y c h => ?_, fun p hp => absurd (show p ∈ ([] : List (Addr × Obj)) from hp) (by simp), e0.hok.kept hk, ?_⟩
  · rcases look h1 with ⟨a1, b1⟩ | ⟨a1, b1⟩ <;> rcases look h2 with ⟨a2, b2⟩ | ⟨a2, b2⟩
    · exact name_of_addr x.apart (PySem.mem_of_lookup a1) (PySem.mem_of_lookup a2)
    · subst b2; exact absurd b1 (Nat.not_lt.mpr (Nat.le_of_lt hccL))
    · subst b1; exact absurd b2 (Nat.not_lt.mpr (Nat.le_of_lt hccL))
    · rw [a1, a2]
  · have hy : scope.names.lookup y = some .cell ∨ scope.names.lookup y = some .free := hy
    rcases hy with hy | hy
    · obtain ⟨c, hc⟩ := own_has (n := s.heap.objs.size + 1) hy
      exact ⟨c, lookup_app hc⟩
    · have := S.fre _ (PySem.mem_of_lookup hy) rfl
      have hy' : y = ("__class__" : Str) := this
      subst hy'
      exact ⟨cc, by show (cellsFrom (s.heap.objs.size + 1) scope.names [] ++ [(("__class__" : Str), cc)]).lookup ("__class__" : Str) = some cc; rw [lookup_app_none hncl]; rfl⟩
  · rcases look h with ⟨_, b1⟩ | ⟨a1, _⟩
    · exact Nat.le_of_lt b1
    · subst a1
      have hf' : (scope.names.lookup ("__class__" : Str) == some NameKind.cell) = true := hf
      rw [S.ncl] at hf'
      cases hf'
  · have hi : i < vs.length := by
      unfold L2.start at h2
      by_cases hi : i < vs.length
      · exact hi
      · rw [List.getElem?_append_right (by simpa using hi)] at h2
        rw [List.getElem?_replicate] at h2
        split at h2 <;> cases h2
    have ha : vs[i]? = some v := by
      unfold L2.start at h2
      rw [List.getElem?_append_left (by simpa using hi), List.getElem?_map] at h2
      cases e : vs[i]? with
      | none => rw [e] at h2; cases h2
      | some a => rw [e] at h2; cases h2; rfl
    obtain ⟨u, hu, rv⟩ := r.get ha
    have hp : ps[i]? = some y := by
      rw [← S.pre, List.getElem?_take_of_lt (by omega)]; exact h1
    have ndP : ps.Nodup := by rw [← S.pre]; exact S.nd.sublist (List.take_sublist _ _)
    refine ⟨u, rv, ?_⟩
    rcases S.par y (List.mem_of_getElem? hp) with k | k
    · exact .inl ⟨k, bindL_get ndP hp hu k⟩
    · obtain ⟨c, e⟩ := own_has (n := s.heap.objs.size + 1) k
      refine .inr ⟨.inl k, c, lookup_app e, ?_⟩
      have q := x.cell y c e
      rw [bindC_get ndP hp hu (by show scope.names.lookup y ≠ _; rw [k]; decide)] at q
      exact q
  · rcases look h with ⟨a1, _⟩ | ⟨_, b1⟩
    · exact ⟨_, x.cell y c a1⟩
    · subst b1; exact ⟨ov, _, hk _ _ scc, rfl⟩
  · rcases look h with ⟨a1, b1⟩ | ⟨_, b1⟩
    · exact e0.hok.fresh (Nat.le_of_lt b1)
    · subst b1; exact (e0.bs _ _ bcc).2
  · unfold L2.start
    show _ = N.length
    rw [List.length_append, List.length_map, List.length_replicate]
    omega
end M

end
section
set_option Elab.async false
set_option linter.all false
set_option maxRecDepth 100000
set_option maxHeartbeats 0
namespace M
open PySem L2
/-! ## Judgements at a def's own code (for super()) -/
structure PEa (X : Cx) (c : Code) (e : Expr) (t : TE) : Prop where
  run : ∀ (pins : List (Addr × Obj)) (s : Shared) (σ : St) (H : Hp) (Q : VK), Inv X pins σ H s → t σ H Q → _root_.PySem.wpAt (model X.prog X.w) X.A c (eval e X.env) (EP X pins σ Q) X.xe s
structure PSa (X : Cx) (c : Code) (e : Stmt) (t : TS) : Prop where
  run : ∀ (pins : List (Addr × Obj)) (s : Shared) (σ : St) (H : Hp) (D : Ends), Inv X pins σ H s → t D σ H → _root_.PySem.wpAt (model X.prog X.w) X.A c (exec e X.env) (SP X pins D) X.xe s
structure PSsa (X : Cx) (c : Code) (e : List Stmt) (t : TS) : Prop where
  run : ∀ (pins : List (Addr × Obj)) (s : Shared) (σ : St) (H : Hp) (D : Ends), Inv X pins σ H s → t D σ H → _root_.PySem.wpAt (model X.prog X.w) X.A c (execs e X.env) (SP X pins D) X.xe s
theorem thnA {α : Type} {t : Sem α} {Q Q' : α → Shared → Prop} {M : Model} {A : Around} {c : Code} {E : Value → Shared → Prop} {s : Shared} (h : _root_.PySem.wpAt M A c t Q E s) (hQ : ∀ a s, Q a s → Q' a s) : _root_.PySem.wpAt M A c t Q' E s := _root_.PySem.wpAt_mono h hQ fun _ _ x => x
section
variable {X : Cx} {W : WX} {c : Code} {e : Expr} {st : Stmt} {rest : List Stmt} {pos : Pos} {t t' : TE} {u u' : TS}
theorem PEa.of (h : PE X e t) : PEa X c e t := ⟨fun pins s σ H Q I q => _root_.PySem.wpAt_of_wpAny (h.run pins s σ H Q I q)⟩
theorem PSa.of (h : PS X st u) : PSa X c st u := ⟨fun pins s σ H Q I q => _root_.PySem.wpAt_of_wpAny (h.run pins s σ H Q I q)⟩
theorem PSsa.of (h : PSs X rest u) : PSsa X c rest u := ⟨fun pins s σ H Q I q => _root_.PySem.wpAt_of_wpAny (h.run pins s σ H Q I q)⟩
theorem PEa.to (h : PEa X c e t) (i : ∀ σ H Q, t' σ H Q → t σ H Q) : PEa X c e t' := ⟨fun pins s σ H Q I q => h.run pins s σ H Q I (i σ H Q q)⟩
theorem PSa.to (h : PSa X c st u) (i : ∀ D σ H, u' D σ H → u D σ H) : PSa X c st u' := ⟨fun pins s σ H D I q => h.run pins s σ H D I (i D σ H q)⟩
theorem PSsa.to (h : PSsa X c rest u) (i : ∀ D σ H, u' D σ H → u D σ H) : PSsa X c rest u' := ⟨fun pins s σ H D I q => h.run pins s σ H D I (i D σ H q)⟩
theorem psa_cons (h1 : PSa X c st u) (h2 : PSsa X c rest u') : PSsa X c (st :: rest) (tSeq u u') := by
  refine ⟨fun pins s σ H D I h => ?_⟩
  refine ks_wpAt_execs_cons (thnA (h1.run pins s σ H { D with nx := u' D } I h) fun f s1 q => ?_)
  cases f with
  | next => obtain ⟨σ', H', I', q⟩ := q; exact h2.run pins s1 σ' H' D I' q
  | ret v => exact q
  | brk => exact q
  | cont => exact q
theorem psa_one (h1 : PSa X c st u) : PSsa X c [st] u := by
  refine ⟨fun pins s σ H D I h => ?_⟩
  refine ks_wpAt_execs_cons (thnA (h1.run pins s σ H D I h) fun f s1 q => ?_)
  cases f with
  | next => exact _root_.PySem.wpAt_of_wpAny (wpAny_execs_nil q)
  | ret v => exact q
  | brk => exact q
  | cont => exact q
theorem psa_ret (he : PEa X c e t) : PSa X c (.Return (some e) pos) (tRet t) :=
  ⟨fun pins s σ H D I h => ks_wpAt_Return_some (thnA (he.run pins s σ H _ I h) fun v s1 ⟨x, H1, I1, r1, q1⟩ => ⟨x, σ, H1, I1, r1, q1⟩)⟩
theorem psa_expr (he : PEa X c e t) (hs : swapsWith e none pos.line X.env = pure false := by rfl) : PSa X c (.Expr e pos) (tDrop t) :=
  ⟨fun pins s σ H D I h => ks_wpAt_Expr_any (thnA (he.run pins s σ H _ I h) fun v s1 ⟨x, H1, I1, r1, q1⟩ => ⟨σ, H1, I1, q1⟩) I.quiet hs⟩
theorem psa_set {i : Nat} {x : Str} {pos' : Pos} (hN : X.N.Nodup) (hi : X.N[i]? = some x) (hx : Loc X.env.scope x) (he : PEa X c e t) (hs : swapsWith e (some (.Name x pos')) pos.line X.env = pure false := by rfl) (hf : X.fn x = true ∨ X.env.scope.names.lookup x = some .local := by first | exact .inl rfl | exact .inr rfl | assumption) :
    PSa X c (.Assign [.Name x pos'] e pos) (tAsg t (gName i)) :=
  ⟨fun pins s σ H D I h => ks_wpAt_Assign_Name (thnA (he.run pins s σ H _ I h) fun v s1 ⟨x, H1, I1, r1, q1⟩ => store_ok I1 hN hi hx r1 (fun s' I' => ⟨_, H1, I', q1⟩) hf) hs⟩
theorem at_For {Mo : Model} {A : Around} {E : Value → Shared → Prop} {s : Shared} {env : Env} {target iter : Expr} {body orelse : List Stmt} {Q : Flow → Shared → Prop}
    (h : _root_.PySem.wpAt Mo A c (eval iter env) (fun x s₁ => wpAny Mo A (pyIter x) (fun it s₂ => codeAny Mo A (.forLoop target it body orelse env) (fun r s' => match r with | .ok f => Q f s' | .error e => cameBackBy Mo A env E e s') s₂) E s₁) E s)
    (hs : ∀ x, foldedSetIterable iter env x = pure x := by intro _; rfl) : _root_.PySem.wpAt Mo A c (exec (.For target iter body orelse pos) env) Q E s := by
  rw [exec_For]
  refine _root_.PySem.wpAt_bind (_root_.PySem.wpAt_of_wpAny (wpAny_standAt (_root_.PySem.wpAt_bind (thnA h fun x s1 h1 => _root_.PySem.wpAt_of_wpAny ?_))))
  refine wpAny_bind (wpAny_of_eq (hs x) (wpAny_bind (wpAny_standAt (wpAny_bind (wpAny_holding (thn h1 fun it s2 h2 => ?_))))))
  exact wpAny_runOwn h2
/-- a list at hand, walked -/
theorem psa_for {tg l : Expr} {body : List Stmt} {g : TG} {tb : TS} (hp : PassesOwn (model X.prog X.w) X.A X.env X.xe) (hc : X.calm = true) (hl : PEa X c l t) (hg : PG X tg g) (hb : PSs X body tb) (hs : ∀ x, foldedSetIterable l X.env x = pure x := by intro _; rfl) :
    PSa X c (.For tg l body [] pos) (fun D σ H => t σ H fun x H1 => ∃ a, x = .ref a ∧ (∃ xs, SqL X.K H1 a xs) ∧ ∃ W' : Nat → Nat → St → Hp → Prop, (∃ m, W' 0 m σ H1) ∧ ∀ i m σ H, W' i m σ H →
      ((Itl X.K a).stop i H ∧ D.nx σ H) ∨ ((Itl X.K a).go i H ∧ ∃ N : St → Hp → Prop, (∀ σ' H', N σ' H' → ∃ m', m' < m ∧ W' (i + 1) m' σ' H') ∧ ∀ x H', (Itl X.K a).yld i H x H' → g x σ H' fun σ2 H2 => tb { D with nx := N, ct := N, bk := D.nx } σ2 H2)) := by
  refine ⟨fun pins s σ H D I h => ?_⟩
  refine at_For (thnA (hl.run pins s σ H _ I h) fun v s1 ⟨x, H1, I1, r1, a, e, ⟨xs, hq⟩, W, ⟨m0, w0⟩, turn⟩ => ?_) hs
  subst e
  cases r1
  obtain ⟨its, rv, p, hz⟩ := I1.list hq
  refine wpAny_pyIter_list p.isList ?_
  have I2 : Inv X pins σ H1 { s1 with heap := s1.heap.push { cls := .type "list_iterator", data := .fields #[.ref a, rawInt 0] } } := I1.kept (t' := s1.toks) fun b o e => Heap.get?_push_of_some _ e
  have T := turn_list (P := X.prog) (w := X.w) (K := X.K) (tg := tg) a s1.heap.objs.size
  have f2 : ∀ b ∈ [s1.heap.objs.size], FpOk X pins H1 b := fun b hb => by
    have e : b = s1.heap.objs.size := by simpa using hb
    subst e
    exact I1.fpOk (Nat.le_refl _) (I1.hok.fresh (Nat.le_refl _))
  have stat : ∀ {H' : Hp}, (∀ b ∈ [s1.heap.objs.size], H' b = none) → ∀ b ∈ [s1.heap.objs.size], FpOk X pins H' b := fun hn b hb => ⟨hn b hb, (f2 b hb).2⟩
  refine codeAny_forLoop_any (fun n s' => ∃ i σ' H', Inv X pins σ' H' s' ∧ s'.heap.IsListIter s1.heap.objs.size a i ∧ (∀ b ∈ [s1.heap.objs.size], H' b = none) ∧ W i n σ' H') ?_ m0 ⟨0, σ, H1, I2, ⟨_, Heap.get?_push_size _ rfl, rfl, rfl⟩, fun b hb => (f2 b hb).1, w0⟩
  rintro n s3 ⟨i, σ3, H3, I3, st3, fr3, w3⟩
  rcases turn i n σ3 H3 w3 with ⟨stop, qn⟩ | ⟨go, N, hN, step⟩
  · refine wpAny_passesOwn hp (thn (T.done X rfl rfl rfl hc i pins s3 σ3 H3 X.xe I3 (stat fr3) st3 stop) fun r s4 ⟨hr, I4⟩ => ?_)
    subst hr
    exact wpAny_execs_nil ⟨σ3, H3, I4, qn⟩
  · refine wpAny_passesOwn hp (thn (T.item X rfl rfl rfl hc i pins s3 σ3 H3 X.xe I3 (stat fr3) st3 go) fun r s4 ⟨u, hr, h4⟩ => ?_)
    subst hr
    refine wpAny_passesOwn hp (thn h4 fun _ s5 ⟨x, H5, I5, r5, y5, st5, fr5⟩ => ?_)
    have I5' := I5.pinned (stat fr5) (T.obj _ _ st5)
    refine wpAny_passesOwn hp (thn (hg.run _ s5 σ3 H5 x u _ I5' r5 (step x H5 y5)) fun _ s6 ⟨σ6, H6, I6, q6⟩ => ?_)
    refine wpAny_passesOwn hp (thn (hb.run _ s6 σ6 H6 _ I6 q6) fun f s7 q7 => ?_)
    have again : ∀ {σ7 : St} {H7 : Hp}, Inv X (pins ++ pinsAt [s1.heap.objs.size] s5.heap) σ7 H7 s7 → N σ7 H7 → ∃ m, m < n ∧ ∃ i σ' H', Inv X pins σ' H' s7 ∧ s7.heap.IsListIter s1.heap.objs.size a i ∧ (∀ b ∈ [s1.heap.objs.size], H' b = none) ∧ W i m σ' H' := fun {σ7 H7} I7 n7 => by
      obtain ⟨m', hm, w7⟩ := hN σ7 H7 n7
      have pin := fun b hb o e => I7.pin (b, o) (List.mem_append_right _ (List.mem_append_right _ (mem_pinsAt (fp := [s1.heap.objs.size]) (h := s5.heap) hb e)))
      refine ⟨m', hm, i + 1, σ7, H7, I7.unpinned, T.keep _ _ _ st5 fun b hb o e => (pin b hb o e).1, fun b hb => ?_, w7⟩
      obtain ⟨o, e, d⟩ := T.obj _ _ st5 b hb
      exact (pin b hb o e).2.1
    cases f with
    | next => obtain ⟨σ7, H7, I7, n7⟩ := q7; exact again I7 n7
    | cont => obtain ⟨σ7, H7, I7, n7⟩ := q7; exact again I7 n7
    | brk => obtain ⟨σ7, H7, I7, q7⟩ := q7; exact ⟨σ7, H7, I7.unpinned, q7⟩
    | ret v => obtain ⟨x7, σ7, H7, I7, r7, q7⟩ := q7; exact ⟨x7, σ7, H7, I7.unpinned, r7, q7⟩
end
/-- THE RULE for a def with the class's cell -/
theorem fn_ofC {CX : CXT} {P : Program} {w : World} {K : PySem.W.Frag} {mg : Str → Option Value} {base : Heap} {k : Nat} {f cc : Addr} {name qual : Str} {params : Arguments} {body : List Stmt} {scope : Scope} {dV kV doc pm cdv ct oc : Value} {an od : Option Addr}
    {osl : Array (Option Value)} {ov : Option Value} {co : Value} {cdd : Option Addr} {csl : Array (Option Value)} {N ps : List Str} {sp : Sp} (lk : K.lookup f = some ⟨oc, od, .func (PySem.W.fnX name qual params body scope [("__class__", cc)] dV kV doc pm an cdv ct), osl⟩) (hcd : PySem.W.codeIn K cdv qual = true) (hcc : K.lookup cc = some ⟨co, cdd, .cell ov, csl⟩) (S : FnScopeC N ps scope)
    (len : ∀ vs H Q E, sp vs H Q E → vs.length = ps.length)
    (hbody : ∀ (A : Around) (outer : List Env) (s : Shared) (H : Hp) (vs : List V) (Q : VK) (E : XK), Room k (A.deeper (envC qual scope s.heap.objs.size f cdv cc)) → sp vs H Q E →
      ∃ t, PSsa (cxC CX P w K mg base N qual scope cc f cdv A outer s H E) (.func body (envC qual scope s.heap.objs.size f cdv cc)) body t ∧ t { nx := fun _ H' => Q .non H', rt := Q } (L2.start N vs) H) :
    FnOk P w K mg base CX (k + 1) f (PySem.W.fnX name qual params body scope [("__class__", cc)] dV kV doc pm an cdv ct) ps sp := by
  refine ⟨len, fun A outer s H args us vs Q E hr e0 hb r hsp => ?_⟩
  have hl := len _ _ _ _ hsp
  have KX : K.In s.heap := e0.mod.kin.keeps fun b o e => (e0.bs b o e).1
  have lim : s.heap.NoLimit := e0.mod.nolimit.keeps fun b o e => (e0.bs b o e).1
  have hncl : (cellsFrom (s.heap.objs.size + 1) scope.names []).lookup ("__class__" : Str) = none := by
    cases q : (cellsFrom (s.heap.objs.size + 1) scope.names []).lookup ("__class__" : Str) with
    | none => rfl
    | some c =>
      exfalso
      rcases own_cell (PySem.mem_of_lookup q) with h | h
      · exact S.ncc _ h rfl rfl
      · cases h
  have hkind : ∀ y ∈ ps.zip us, scope.names.lookup y.1 = some .local ∨ (scope.names.lookup y.1 = some .cell ∧ ((cellsFrom (s.heap.objs.size + 1) scope.names []).lookup y.1).isSome = true) := fun ⟨n, v⟩ hy => by
    rcases S.par n (List.of_mem_zip hy).1 with q | q
    · exact .inl q
    · exact .inr ⟨q, PySem.W.cellsFrom_some _ _ _ (.inl q)⟩
  refine codeAny_call_function hr.depth (KX _ _ lk) rfl S.co S.gen rfl (PySem.W.codeRec_of KX hcd) (hb _ _ _ _ ?_)
  refine newEnv_clo S.kind hkind fun env he s1 x => ?_
  subst he
  refine ⟨lim.keeps x.toInCall.keep, ks_codeAny_funcAt ?_⟩
  obtain ⟨t, ht, hq⟩ := hbody A outer s H vs Q E (hr.deeper _) hsp
  have I : Inv (cxC CX P w K mg base N qual scope cc f cdv A outer s H E) [] (L2.start N vs) H s1 := inv_startC S hcc hncl hr.hd e0 hl r x
  refine _root_.PySem.wpAt_mono (ht.run [] s1 (L2.start N vs) H _ I hq) (fun fl s' hs => ?_) fun e s' hs => hs
  have fin : ∀ {σ' : St} {H' : Hp} {v : V} {u : Value}, Inv (cxC CX P w K mg base N qual scope cc f cdv A outer s H E) [] σ' H' s' → RelV v u → Q v H' → CE outer P w H s Q u s' :=
    fun {σ' H' v u} J rv q => ⟨v, H', J.os, J.bare, J.base, J.hok, rv, q⟩
  cases fl with
  | ret u => obtain ⟨v, σ', H', J, rv, q⟩ := hs; exact fin J rv q
  | next => obtain ⟨σ', H', J, q⟩ := hs; exact fin (v := V.non) (u := Value.none) J rfl q
  | brk => obtain ⟨_, _, _, q⟩ := hs; exact False.elim q
  | cont => obtain ⟨_, _, _, q⟩ := hs; exact False.elim q
end M

end
section
set_option Elab.async false
set_option linter.all false
set_option maxRecDepth 100000
set_option maxHeartbeats 0
namespace M
open PySem L2
/-! ## super().m(..) -/
structure SupK (K : PySem.W.Frag) (P : Program) (mg : Str → Option Value) (f cda cc D : Addr) (par : Str) : Prop where
  fn : ∃ oc od fd osl ar, K.lookup f = some ⟨oc, od, .func fd, osl⟩ ∧ (fd.params.posonlyargs ++ fd.params.args).head? = some ar ∧ ar.arg = par
  code : ∃ ccl cdd vs ccs file tf, K.lookup cda = some ⟨ccl, cdd, .fields vs, ccs⟩ ∧ vs[2]? = some (.str file tf) ∧ ((P.main.file : Str) == file) = true
  cell : ∃ cl cld csl, K.lookup cc = some ⟨cl, cld, .cell (some (.ref D)), csl⟩
  cls : ∃ cd, PySem.W.clsIn K D = some cd
  opq : PySem.W.nsIn K cStatics "thirdparty.any" = some none
  top : (P.main.scope.names.lookup ("super" : Str)).isSome = false
  free : mg "super" = none
structure SupM (K : PySem.W.Frag) (C D : Addr) (m : Str) (f2 : Addr) : Prop where
  mro : PySem.W.mroIn K C (.ref D) = some true
  sup : PySem.W.ks_superIn K C D m = some (some (.ref f2))
  ty : PySem.W.typeIn K (.ref f2) = some (.type "function")
  fn : PySem.W.fnIn K f2 = true
theorem bt_super : bootBuiltins "super" = some (.type "super") := by decide +kernel
section
variable {X : Cx} {pins : List (Addr × Obj)} {σ : St} {H : Hp} {s : Shared}
theorem load_slot {E : Value → Shared → Prop} {i : Nat} {x : Str} {v : V} {Q : Value → Shared → Prop} (I : Inv X pins σ H s) (hN : X.N[i]? = some x) (e : σ[i]? = some (some v)) (hv : Vis X.env.scope x) (hcd : (x == ("__classdict__" : Str)) = false) (h : ∀ u, RelV v u → Q u s) : wpAny (model X.prog X.w) X.A (loadName X.env x) Q E s := by
  obtain ⟨m, hn, hl⟩ := I.loc
  obtain ⟨u, r, l⟩ := hl i x v hN e hv
  rcases l with ⟨hk, hm⟩ | ⟨hk, c, hc, hcell⟩
  · exact wpAny_loadName_local I.ok.kind hk hn hm (h u r)
  · rcases hk with hk | hk
    · exact wpAny_loadName_cell I.ok.kind hk hc hcell (h u r)
    · exact wpAny_loadName_free I.ok.kind hk hc hcell (h u r) hcd
/-- one more object, not tracked, pinned -/
theorem Inv.pin1 {a : Addr} {o : Obj} (I : Inv X pins σ H s) (h1 : s.heap.get? a = some o) (h2 : X.s_0.heap.objs.size ≤ a) (h3 : a ≠ X.env.locals) (h4 : H a = none) (h5 : ∀ v, o.data ≠ .cell v) : Inv X ((a, o) :: pins) σ H s := by
  refine I.pins_of fun p hp => ?_
  rcases List.mem_cons.mp hp with rfl | hp
  · refine ⟨h1, h4, h3, fun hb => ?_, h5⟩
    obtain ⟨_, o', ho', _⟩ := I.ok.funs.mem hb
    exact absurd (Nat.lt_of_lt_of_le (Heap.lt_size ho') h2) (Nat.lt_irrefl _)
  · exact I.pin p (List.mem_append_right _ hp)
theorem Inv.unpin1 {p : Addr × Obj} (I : Inv X (p :: pins) σ H s) : Inv X pins σ H s := I.pins_of fun q hq => I.pin q (List.mem_append_right _ (List.mem_cons_of_mem _ hq))
/-- super(), then its method's call: by values -/
theorem run_super {W : WX} {k j : Nat} {f cda cc D C x dx f2 : Addr} {fd : FuncData} {ps : List Str} {m par : Str} {gs : List (Str × V)} {e : Expr} {es : List Expr} {t : TA} {p0 p1 apos pos : Pos} {body : List Stmt} {sp : Sp} {Q : VK} {pl : Sem Bool}
    (S : SupK X.K X.prog X.mg f cda cc D par) (hks : X.env.kindOf "super" = some .globalImplicit) (hkc : X.env.kindOf "__class__" = some .free) (hfu : X.env.func = some f) (hco : X.env.code = .ref cda) (hcl : X.env.cells.lookup ("__class__" : Str) = some cc) (hat : (m == ("__class__" : Str)) = false)
    (hN : X.N[0]? = some par) (hv : Vis X.env.scope par) (hcd : (par == ("__classdict__" : Str)) = false)
    (hx : σ[0]? = some (some (.ref x))) (ho : H x = some (.ins C dx gs)) (SM : SupM X.K C D m f2) (tk : Takes X W) (Fo : FnOk X.prog X.w X.K X.mg X.base (L2.CX X.prog X.w) k f2 fd ps sp) (hr : Room j X.A) (hk : k ≤ j) (hb : Binds X.K fd ps [])
    (ha : PA X (e :: es) t) (I : Inv X pins σ H s) (h : t σ H fun vs H1 => sp (.ref x :: vs) H1 Q (WE W σ))
    (he : eval (.Call (.Attribute (.Call (.Name "super" p0) [] [] p1) m apos) (e :: es) [] pos) X.env = (do
      let ov ← attributeBase (.Call (.Name "super" p0) [] [] p1) m X.env (eval (.Call (.Name "super" p0) [] [] p1) X.env)
      standAt apos.atName
      let (f, first) ← holding [ov] (getMethod ov m pl)
      callWith pos f first (backTo pos (starEach (e :: es) X.env)) []))
    (hst : starEach (e :: es) X.env = (false, eval e X.env) :: starEach es X.env) (hpl : (backTo pos (starEach es X.env)).any (·.1) = false) :
    _root_.PySem.wpAt (model X.prog X.w) X.A (.func body X.env) (eval (.Call (.Attribute (.Call (.Name "super" p0) [] [] p1) m apos) (e :: es) [] pos) X.env) (EP X pins σ Q) X.xe s := by
  obtain ⟨oc, od, fd0, osl, ar, hf, hp, har⟩ := S.fn
  obtain ⟨ccl, cdd, vs0, ccs, file, tf, hcode, hvs, hfile⟩ := S.code
  obtain ⟨cl, cld, csl, hcell⟩ := S.cell
  obtain ⟨cdD, hD⟩ := S.cls
  have KX := I.kIn
  obtain ⟨oD, hD1, hD2⟩ : ∃ oD, s.heap.get? D = some oD ∧ oD.data = .cls cdD := by
    unfold PySem.W.clsIn at hD
    split at hD
    · rename_i c d cd' sl hk
      cases hD
      exact ⟨_, KX _ _ hk, rfl⟩
    · cases hD
  obtain ⟨cdC, hC⟩ : ∃ cdC, PySem.W.clsIn X.K C = some cdC := by
    have q := SM.sup
    unfold PySem.W.ks_superIn at q
    cases z : PySem.W.clsIn X.K C with
    | none => rw [z] at q; cases q
    | some cd => exact ⟨cd, rfl⟩
  obtain ⟨mA, OM, _⟩ := ins_get I.hok ho
  have hxo : s.heap.get? x = some (PySem.W.instObj C dx) := OM.obj
  have hxC : x ≠ C := by
    rintro rfl
    unfold PySem.W.clsIn at hC
    split at hC
    · rename_i c d cd' sl hk
      have z := KX _ _ hk
      rw [hxo] at z
      cases z
    · cases hC
  refine ks_wpAt_MethodCall (pl := pl) ?_ he
  refine ks_wpAt_super_base (env := X.env) hks hkc hat hfu (KX _ _ hf) rfl hp hco (KX _ _ hcode) rfl hvs hfile S.top ?_
  obtain ⟨mb, hb1, hb2⟩ := I.mod.blt
  refine PySem.W.ks_loadName_global I.ok.kind hks (Calls.loadGlobal_builtin (by rw [I.ok.glob]; exact I.mod.glob.keeps I.bk) S.free (by rw [I.ok.blt]; exact hb1.keeps I.bk) ((hb2 _ (by decide)).trans bt_super) ⟨rfl, ?_⟩)
  refine wpAny_loadName_free I.ok.kind hkc hcl ⟨_, KX _ _ hcell, rfl⟩ ?_
  rw [har]
  refine load_slot I hN hx hv hcd fun u ru => ?_
  cases ru
  refine ks_wpAny_isType_cls hD1 hD2 ⟨rfl, ?_⟩
  obtain ⟨hp0, g0, d0, t0, os0⟩ := s
  refine ks_wpAny_call_super hD1 hD2 hxo rfl (fun c z => by cases z) (PySem.W.looks_mroIn KX SM.mro) fun h' e' k' => ?_
  have I2 : Inv X pins σ H ⟨h', g0, d0, t0, os0⟩ := I.kept (t' := t0) k'
  obtain ⟨of, hof, hofc⟩ : ∃ of, h'.get? f2 = some of ∧ of.cls = .type "function" := by
    have ht' : (X.K.lookup f2).map (·.cls) = some (.type "function") := SM.ty
    cases z : X.K.lookup f2 with
    | none => rw [z] at ht'; cases ht'
    | some of => rw [z] at ht'; exact ⟨of, I2.kIn _ _ z, Option.some.inj ht'⟩
  have hsup : PySem.W.alongIn X.K m ((cdC.mro.dropWhile (· != .ref D)).drop 1) = some (some (.ref f2)) := by
    have q := SM.sup
    unfold PySem.W.ks_superIn at q
    rw [hC] at q
    exact q
  refine ks_wpAny_getMethod_super e' (PySem.W.looks_opaque I2.kIn S.opq) (l₀ := cdC.mro) (fun A Q E s k q => wpAny_bind ((PySem.W.looks_clsIn I2.kIn hC) A _ E s k (wpAny_pure q))) rfl I2.kIn hsup hof hofc hxC hat ?_
  -- the bound method is pinned while the arguments are read
  have hsz : X.s_0.heap.objs.size ≤ h'.objs.size := I2.sz
  have I3 : Inv X pins σ H ⟨h'.push (PySem.W.methodObj (.ref f2) (.ref x)), g0, d0, t0 + 1, os0⟩ := I2.kept (t' := t0 + 1) fun b o e => Heap.get?_push_of_some _ e
  have hget : (h'.push (PySem.W.methodObj (.ref f2) (.ref x))).get? h'.objs.size = some (PySem.W.methodObj (.ref f2) (.ref x)) := Heap.get?_push_size _ rfl
  have I4 := M.Inv.pin1 I3 hget hsz (Nat.ne_of_gt I2.lt) (I2.hok.fresh (Nat.le_refl _)) (fun v z => by cases z)
  show wpAny _ _ (callWith pos (.ref h'.objs.size) [] (backTo pos (starEach (e :: es) X.env)) []) _ _ _
  have main : wpAny (model X.prog X.w) X.A (spliced (backTo pos (starEach (e :: es) X.env))) (fun vs s1 => PySem.W.MethP X.K h'.objs.size f2 (.ref x) s1.heap ∧ wpAny (model X.prog X.w) X.A (call (.ref h'.objs.size) ([] ++ vs)) (EP X pins σ Q) X.xe s1) X.xe ⟨h'.push (PySem.W.methodObj (.ref f2) (.ref x)), g0, d0, t0 + 1, os0⟩ := by
    refine thn (ha.run pos _ _ σ H _ I4 h) fun us s5 ⟨vs, H5, I5, r5, q5⟩ => ⟨⟨(I5.pin _ (List.mem_append_right _ List.mem_cons_self)).1, I5.kIn⟩, ?_⟩
    have I6 := M.Inv.unpin1 I5
    have r6 : Vals (.ref x :: vs) (.ref x :: us) := .cons rfl r5
    have hl : (Value.ref x :: us).length = ps.length := by rw [← r6.length]; exact Fo.len _ _ _ _ q5
    have bb := hb s5 (.ref x :: us) I6.kIn (by rw [List.append_nil]; exact hl)
    rw [List.append_nil] at bb
    refine wpAny_call (ks_codeAny_call_bound (b := h'.objs.size) (f := f2) (x := .ref x) (I5.pin _ (List.mem_append_right _ List.mem_cons_self)).1 ?_)
    refine codeAny_mono (Fo.run X.A X.stack s5 H5 ⟨.ref x :: us, []⟩ (.ref x :: us) (.ref x :: vs) Q (WE W σ) (hr.mono hk) I6.env0 bb r6 q5) fun r s' hq => ?_
    cases r with
    | error e => exact passAt tk σ pins H5 s5 e s' I6 hq
    | ok fl =>
      cases fl with
      | ret u => exact I6.after hq
      | next => exact False.elim hq
      | brk => exact False.elim hq
      | cont => exact False.elim hq
  rw [hst] at main ⊢
  exact PySem.W.callWith_of (P := PySem.W.MethP X.K h'.objs.size f2 (.ref x)) (by show ((false || (backTo pos (starEach es X.env)).any (·.1)) || false) = false; rw [hpl]; rfl) (PySem.W.keeps_M SM.fn) (Calls.evalArgs_plain main)
end
/-! ### by the store -/
def clsOf (st : Sr) : D → Option Str
  | .fz (.obj c _) => some c
  | .cell n => match st[n]? with
    | some (.obj c _) => some c
    | some (.frz (.obj c _)) => some c
    | _ => none
  | _ => none
theorem clsOf_ok {K : PySem.W.Frag} {Z H : Hp} {φ : List Addr} {st : Sr} {d : D} {c : Str} {v : V} (rs : RS K Z φ st H) (e : clsOf st d = some c) (r : RepD K Z φ d v) : ∃ x dx gs, v = .ref x ∧ H x = some (.ins (He.ga K c) dx gs) := by
  have fzc : ∀ {c' : Str} {fs : List (Str × P)} {v : V}, Rep K Z (.obj c' fs) v → ∃ x dx gs, v = .ref x ∧ H x = some (.ins (He.ga K c') dx gs) := fun {c' fs v} h => by
    rw [Rep] at h
    obtain ⟨a, dx, gs, rfl, h2, _⟩ := h
    exact ⟨a, dx, gs, rfl, rs.same _ _ h2⟩
  cases d with
  | fz p =>
    cases p with
    | obj c' fs => cases e; exact fzc r
    | _ => cases e
  | cell n =>
    obtain ⟨a, h1, rfl⟩ := r
    obtain ⟨ct, hc, rc⟩ := rs.at_ h1
    have e' : (match st[n]? with
      | some (.obj c _) => some c
      | some (.frz (.obj c _)) => some c
      | _ => none) = some c := e
    rw [hc] at e'
    cases ct with
    | obj c' fs => cases e'; obtain ⟨_, dx, gs, h2, _⟩ := rc; exact ⟨a, dx, gs, rfl, h2⟩
    | frz p =>
      cases p with
      | obj c' fs => cases e'; exact fzc rc.1
      | _ => cases e'
    | lst xs => cases e'
    | dct xs => cases e'
def look1 {α : Type} (c : Str) : List (Str × α) → Option α
  | [] => none
  | (x, F) :: r => if x = c then some F else look1 c r
theorem look1_mem {α : Type} {c : Str} {F : α} : ∀ {l : List (Str × α)}, look1 c l = some F → (c, F) ∈ l
  | (x, G) :: r, h => by
    unfold look1 at h
    split at h
    · rename_i e; cases h; subst e; exact List.mem_cons_self
    · exact List.mem_cons_of_mem _ (look1_mem h)
def dSup (tab : List (Str × DF)) (g : DA) : DE := fun η st => match η[0]? with
  | some (some d) => match (clsOf st d).bind fun c => look1 c tab with
    | some F => (g η st).bind fun b => callF F (d :: b.1) η b.2
    | none => .stuck
  | _ => .stuck
section
variable {X : Cx} {W : WX} {k j : Nat} {f cda cc D : Addr} {ps : List Str} {m par : Str} {e : Expr} {es : List Expr} {fs : DA} {p0 p1 apos pos : Pos} {body : List Stmt} {pl : Sem Bool} {tab : List (Str × DF)}
/-- what a class's super() finds -/
def SupT (P : Program) (w : World) (K : PySem.W.Frag) (mg : Str → Option Value) (base : Heap) (k : Nat) (D : Addr) (m : Str) (ps : List Str) (c : Str) (F : DF) : Prop :=
  ∃ f2 fd, SupM K (He.ga K c) D m f2 ∧ FnOk P w K mg base (L2.CX P w) k f2 fd ps (spF K F) ∧ Binds K fd ps []
theorem de_super (tk : Takes X W) (S : SupK X.K X.prog X.mg f cda cc D par) (hT : ∀ c F, (c, F) ∈ tab → SupT X.prog X.w X.K X.mg X.base k D m ps c F) (hr : Room j X.A) (ha : PA X (e :: es) (tA X.K W fs)) (hk : k ≤ j := by decide)
    (hks : X.env.kindOf "super" = some .globalImplicit := by rfl) (hkc : X.env.kindOf "__class__" = some .free := by rfl) (hfu : X.env.func = some f := by rfl) (hco : X.env.code = .ref cda := by rfl) (hcl : X.env.cells.lookup ("__class__" : Str) = some cc := by rfl) (hat : (m == ("__class__" : Str)) = false := by decide)
    (hN : X.N[0]? = some par := by rfl) (hv : Vis X.env.scope par := by first | exact Or.inl rfl | exact Or.inr (Or.inl rfl)) (hcd : (par == ("__classdict__" : Str)) = false := by decide)
    (he : eval (.Call (.Attribute (.Call (.Name "super" p0) [] [] p1) m apos) (e :: es) [] pos) X.env = (do
      let ov ← attributeBase (.Call (.Name "super" p0) [] [] p1) m X.env (eval (.Call (.Name "super" p0) [] [] p1) X.env)
      standAt apos.atName
      let (f, first) ← holding [ov] (getMethod ov m pl)
      callWith pos f first (backTo pos (starEach (e :: es) X.env)) []) := by rfl)
    (hst : starEach (e :: es) X.env = (false, eval e X.env) :: starEach es X.env := by rfl) (hpl : (backTo pos (starEach es X.env)).any (·.1) = false := by rfl) :
    PEa X (.func body X.env) (.Call (.Attribute (.Call (.Name "super" p0) [] [] p1) m apos) (e :: es) [] pos) (tE X.K W (dSup tab fs)) := by
  refine ⟨fun pins s σ H Q I h => ?_⟩
  obtain ⟨Z, φ, η, st, rs, sl, af⟩ := h
  unfold dSup at af
  split at af
  · rename_i d ed
    split at af
    · rename_i F eF
      obtain ⟨c, ec, el⟩ := Option.bind_eq_some_iff.mp eF
      obtain ⟨v, hs0, rv⟩ := sl.at_ 0 d ed
      obtain ⟨x, dx, gs, rfl, hx⟩ := clsOf_ok rs ec rv
      obtain ⟨f2, fd, SM, Fo, hb⟩ := hT c F (look1_mem el)
      refine run_super S hks hkc hfu hco hcl hat hN hv hcd hs0 hx SM tk Fo hr hk hb ha I ?_ he hst hpl
      exact ⟨Z, φ, η, st, rs, sl, af.bind.mono fun a Z' φ' H' t g' rs' vs r => call_sp (ds := d :: a.1) rs' (sl.mono t) ⟨_, vs, rfl, rv.mono t.hz t.app, r⟩ g'⟩
    · exact af.elim
  · exact af.elim
end
end M

end
section
set_option Elab.async false
set_option linter.all false
set_option maxRecDepth 100000
set_option maxHeartbeats 0
namespace M
open PySem PySem.Spec PyProof.Rows L2
theorem at_Subscript {Mo : Model} {A : Around} {c : Code} {E : Value → Shared → Prop} {s : Shared} {env : Env} {value slice : Expr} {pos : Pos} {Q : Value → Shared → Prop}
    (h : _root_.PySem.wpAt Mo A c (eval value env) (fun o s₁ => wpAny Mo A (eval slice env) (fun i s₂ => wpAny Mo A (subscriptTail value slice o i) Q E s₂) E s₁) E s) :
    _root_.PySem.wpAt Mo A c (eval (.Subscript value slice pos) env) Q E s := by
  rw [eval_Subscript]
  refine _root_.PySem.wpAt_bind (thnA h fun o s1 h1 => _root_.PySem.wpAt_of_wpAny ?_)
  exact wpAny_bind (wpAny_holding (thn h1 fun i s2 h2 => wpAny_bind (wpAny_standAt h2)))
section
variable {X : Cx} {W : WX} {c : Code} {e : Expr} {lo hi : Option Expr} {te : TE} {tl th : TO} {pos p1 p2 p3 : Pos}
theorem pea_slice {r : V → Option Int → Option Int → Hp → VK → Prop} (hr : SlR X r) (he : PEa X c e te) (hl : PO X lo tl) (hu : PO X hi th) : PEa X c (.Subscript e (.Slice lo hi none p2) pos) (tSl r te tl th) := by
  refine ⟨fun pins s σ H Q I h => at_Subscript (thnA (he.run pins s σ H _ I h) fun v s1 ⟨x, H1, I1, r1, q1⟩ => ?_)⟩
  refine wpAny_Slice (thn (hl.run pins s1 σ H1 _ I1 q1) fun vl s2 ⟨l, H2, I2, pl, q2⟩ => thn (hu.run pins s2 σ H2 _ I2 q2) fun vu s3 ⟨u, H3, I3, pu, q3⟩ => ?_)
  rw [evalPart_none]
  refine wpAny_pure ?_
  have I4 := I3.kept (h' := s3.heap.push { cls := .type "slice", data := .fields #[vl, vu, .none] }) (t' := s3.toks) fun b ob q => Heap.get?_push_of_some _ q
  obtain ⟨T, id, hT, ht, hg⟩ := hr pins _ σ H3 x v vl vu l u s3.heap.objs.size Q I4 r1 (Heap.IsSliceOf.new ..) pl pu q3
  exact tail_any (ops := [.ref s3.heap.objs.size, v]) ht hT hg (by with_unfolding_all rfl)
end
/-! ### by the store -/
def revO (d : D) (st : Sr) : R (D × Sr) := match peek st d with
  | some (.lst xs) => .ok (.cell st.length, st ++ [.lst xs.reverse])
  | some (.rol xs) => .ok (.cell st.length, st ++ [.lst xs.reverse])
  | _ => .stuck
def dRev (f : DE) : DE := fun η st => (f η st).bind fun a => revO a.1 a.2
section
variable {X : Cx} {W : WX} {c : Code} {e l tg : Expr} {st : Stmt} {rest body : List Stmt} {lo hi : Option Expr} {f : DE} {g h b : DS} {gg : DG} {lu uu : DO} {pos p1 p2 p3 : Pos} {k : Nat}
theorem de_rev (he : PE X e (tE X.K W f)) : PE X (.Subscript e (.Slice none none (some (.UnaryOp .USub (.Constant (.int 1) k p1) p2)) p3) pos) (tE X.K W (dRev f)) := by
  refine (pe_revL he).to fun σ H Q h => ?_
  obtain ⟨Z, φ, η, st, rs, sl, af⟩ := h
  refine ⟨Z, φ, η, st, rs, sl, af.bind.mono fun a Z' φ' H' t g' rs' v r => ?_⟩
  unfold revO at g'
  split at g'
  · rename_i xs e1
    obtain ⟨a', vs, rfl, h2, h3⟩ := peek_pk rs' e1 r
    exact ⟨a', vs, rfl, SqL.of h2, fun p hp => g'.lst rs' hp h3.reverse⟩
  · rename_i xs e1
    obtain ⟨a', vs, rfl, h2, h3⟩ := peek_pk rs' e1 r
    exact ⟨a', vs, rfl, h2, fun p hp => g'.lst rs' hp h3.reverse⟩
  · exact g'.elim
theorem dea_sl (ha : PEa X c e (tE X.K W f)) (hl : PO X lo (tO X.K W lu)) (hu : PO X hi (tO X.K W uu)) : PEa X c (.Subscript e (.Slice lo hi none p2) pos) (tE X.K W (dSl f lu uu)) := by
  refine (pea_slice (s_sl (W := W)) ha hl hu).to fun σ H Q h => ?_
  obtain ⟨Z, φ, η, st, rs, sl, af⟩ := h
  refine ⟨Z, φ, η, st, rs, sl, af.bind.mono fun a Z' φ' H' t g' rs' v r => ?_⟩
  refine ⟨Z', φ', η, a.2, rs', sl.mono t, g'.bind.mono fun b Z2 φ2 H2 t2 g2 rs2 => ?_⟩
  refine ⟨Z2, φ2, η, b.2, rs2, (sl.mono t).mono t2, g2.bind.mono fun c Z3 φ3 H3 t3 g3 rs3 => ?_⟩
  exact ⟨a.1, Z3, φ3, c.2, rs3, (r.mono t2.hz t2.app).mono t3.hz t3.app, g3⟩
theorem dsa_of (h1 : PS X st (tS X.K W g)) : PSa X c st (tS X.K W g) := PSa.of h1
theorem dsa_one (h1 : PSa X c st (tS X.K W g)) : PSsa X c [st] (tS X.K W g) := psa_one h1
theorem dsa_cons (h1 : PSa X c st (tS X.K W g)) (h2 : PSsa X c rest (tS X.K W h)) : PSsa X c (st :: rest) (tS X.K W (dSeq g h)) := by
  refine (psa_cons h1 h2).to fun D σ H hh => ?_
  obtain ⟨Z, φ, η, st, rs, sl, af⟩ := hh
  refine ⟨Z, φ, η, st, rs, sl, af.bind.mono fun r Z' φ' H' t g' rs' => ?_⟩
  obtain ⟨fl, η1, st1⟩ := r
  cases fl with
  | nx => exact fun σ' sl' => ⟨Z', φ', η1, st1, rs', sl', g'⟩
  | rt d => exact g' _ _ _ .refl rs'
  | bk => exact g' _ _ _ .refl rs'
  | ct => exact g' _ _ _ .refl rs'
theorem dsa_ret (he : PEa X c e (tE X.K W f)) : PSa X c (.Return (some e) pos) (tS X.K W (dRet f)) := by
  refine (psa_ret he).to fun D σ H hh => ?_
  obtain ⟨Z, φ, η, st, rs, sl, af⟩ := hh
  exact ⟨Z, φ, η, st, rs, sl, af.bind.mono fun a Z' φ' H' t g' rs' v r => g' _ _ _ .refl rs' v r⟩
theorem dsa_set {i : Nat} {x : Str} {pos' : Pos} (hN : X.N.Nodup) (he : PEa X c e (tE X.K W f)) (hi : X.N[i]? = some x := by rfl) (hx : Loc X.env.scope x := by first | exact Or.inl rfl | exact Or.inr rfl) (hs : swapsWith e (some (.Name x pos')) pos.line X.env = pure false := by rfl) (hf : X.fn x = true ∨ X.env.scope.names.lookup x = some .local := by first | exact .inl rfl | exact .inr rfl | assumption) :
    PSa X c (.Assign [.Name x pos'] e pos) (tS X.K W (dAsg f (gNm i))) := by
  refine (psa_set (i := i) hN hi hx he hs hf).to fun D σ H hh => ?_
  obtain ⟨Z, φ, η, st, rs, sl, af⟩ := hh
  exact ⟨Z, φ, η, st, rs, sl, af.bind.mono fun a Z' φ' H' t g' rs' v r => g' _ _ _ .refl rs' _ ((sl.mono t).set r)⟩
/-- for x in <a list at hand>: the list is frozen -/
def lstP : P → Option (List P)
  | .lst xs => some xs
  | .rol xs => some xs
  | _ => none
def dForA (f : DE) (g : DG) (b : DS) : DS := fun η st => (f η st).bind fun a => match toP a.2 a.1 with
  | some (p, st') => match lstP p with
    | some xs => loopD g b xs η st'
    | none => .stuck
  | none => .stuck
theorem lstP_Z {K : PySem.W.Frag} {Z : Hp} {p : P} {v : V} {xs : List P} (h : Rep K Z p v) (e : lstP p = some xs) : ∃ a vs, v = .ref a ∧ SqL K Z a vs ∧ Reps K Z xs vs := by
  cases p with
  | lst ys => cases e; rw [Rep] at h; obtain ⟨a, vs, h1, h2, h3⟩ := h; exact ⟨a, vs, h1, SqL.of h2, h3⟩
  | rol ys => cases e; rw [Rep] at h; exact h
  | _ => cases e
theorem dsa_for (hp : PassesOwn (model X.prog X.w) X.A X.env X.xe) (hc : X.calm = true) (hl : PEa X c l (tE X.K W f)) (hg : PG X tg (tG X.K gg)) (hb : PSs X body (tS X.K W b)) (hs : ∀ x, foldedSetIterable l X.env x = pure x := by intro _; rfl) :
    PSa X c (.For tg l body [] pos) (tS X.K W (dForA f gg b)) := by
  refine (psa_for hp hc hl hg hb hs).to fun D σ H hh => ?_
  obtain ⟨Z, φ, η, st, rs, sl, af⟩ := hh
  refine ⟨Z, φ, η, st, rs, sl, af.bind.mono fun a Z' φ' H' t g' rs' v r => ?_⟩
  split at g'
  · rename_i p st' e1
    split at g'
    · rename_i xs e2
      obtain ⟨Z2, f2, rs2, q2⟩ := toP_ok rs' e1 r
      obtain ⟨a', vs, rfl, h2, h3⟩ := lstP_Z q2 e2
      have af2 := g'.later f2.step
      refine ⟨a', rfl, ⟨vs, rs2.same.seq h2⟩, ?_⟩
      refine for_list (K := X.K) (a := a') (xs := vs) (fun i σ' H' => LpI X.K W gg b D (fun Z => SqL X.K Z a' vs ∧ Reps X.K Z xs vs) (xs.drop i) σ' H') ⟨Z2, φ', η, st', rs2, (sl.mono t).mono f2.step, ⟨h2, h3⟩, by rw [List.drop_zero]; exact af2⟩ (fun i σ' H' _ hh => ?_) (fun i x σ' H' hx hh => ?_) (fun σ' H' hh => ?_)
      · obtain ⟨Z3, s3, e3, _⟩ := hh.same; exact s3.seq e3
      · have hl : i < xs.length := by rw [h3.length]; exact (List.getElem?_eq_some_iff.mp hx).1
        rw [drop_cons (List.getElem?_eq_getElem hl)] at hh
        refine hh.turn (fun Z Z' s ⟨e1, e2⟩ => ⟨s.seq e1, e2.mono s⟩) fun Z _ ⟨_, e2⟩ => ?_
        obtain ⟨v, hv, rv⟩ := e2.get (List.getElem?_eq_getElem hl)
        rw [hx] at hv; cases hv; exact rv
      · rw [← h3.length, List.drop_length] at hh
        exact hh.done
    · exact g'.elim
  · exact g'.elim
end
/-! ### a method with the class's cell keeps its meaning -/
/-- where the code and the cell of a method stand -/
structure FunC (K : PySem.W.Frag) (P : Program) (mg : Str → Option Value) (x qual : Str) (params : Arguments) (body : List Stmt) (scope : Scope) (par : Str) (D f : Addr) (fd : FuncData) (cda cc : Addr) : Prop where
  ex : ∃ (oc : Value) (od : Option Addr) (kV doc pm : Value) (an : Option Addr) (ct : Value) (osl : Array (Option Value)),
    fd = PySem.W.fnX x qual params body scope [("__class__", cc)] .none kV doc pm an (.ref cda) ct ∧ K.lookup f = some ⟨oc, od, .func fd, osl⟩ ∧ PySem.W.codeIn K (.ref cda) qual = true
  sup : SupK K P mg f cda cc D par
  kp : PySem.W.keepIn K (.ref f) = true
theorem fn_DC {P : Program} {w : World} {K : PySem.W.Frag} {mg : Str → Option Value} {base : Heap} {x qual par : Str} {params : Arguments} {body : List Stmt} {scope : Scope} {D f cda cc : Addr} {fd : FuncData} {N ps : List Str} {k np n : Nat} {fr : Bool} {b : DS}
    (F : FunC K P mg x qual params body scope par D f fd cda cc) (S : FnScopeC N ps scope) (hps : ps.length = np) (hN : N.length = n)
    (hbody : ∀ (A : Around) (outer : List Env) (s : Shared) (H : Hp) (E : XK), Room k (cxC (L2.CX P w) P w K mg base N qual scope cc f (.ref cda) A outer s H E).A →
      PassesOwn (model P w) (cxC (L2.CX P w) P w K mg base N qual scope cc f (.ref cda) A outer s H E).A (cxC (L2.CX P w) P w K mg base N qual scope cc f (.ref cda) A outer s H E).env (cxC (L2.CX P w) P w K mg base N qual scope cc f (.ref cda) A outer s H E).xe →
      Takes (cxC (L2.CX P w) P w K mg base N qual scope cc f (.ref cda) A outer s H E) (fun c d _ H => E c d H) →
      PSsa (cxC (L2.CX P w) P w K mg base N qual scope cc f (.ref cda) A outer s H E) (.func body (cxC (L2.CX P w) P w K mg base N qual scope cc f (.ref cda) A outer s H E).env) body (tS K (fun c d _ H => E c d H) b)) :
    FnOk P w K mg base (L2.CX P w) (k + 1) f fd ps (spF K (runF np n fr b)) := by
  obtain ⟨oc, od, kV, doc, pm, an, ct, osl, rfl, lk, hcd⟩ := F.ex
  obtain ⟨cl, cld, csl, hcell⟩ := F.sup.cell
  exact fn_ofC lk hcd hcell S (fun vs H Q E h => by rw [hps]; exact spF_len h) fun A outer s H vs Q E hr h => ⟨_, hbody A outer s H E hr (passes_of rfl) (takes_of rfl rfl rfl rfl), body_ok hN h⟩
end M

end
section
set_option Elab.async false
set_option linter.all false
set_option maxRecDepth 100000
set_option maxHeartbeats 0
namespace M
open PySem PySem.Spec PyProof.Rows L2
section
variable {X : Cx} {W : WX} {c : Code} {e : Expr} {f : DE} {te : TE} {k : Nat} {p1 p2 p3 pos : Pos}
theorem pea_rev (he : PEa X c e te) : PEa X c (.Subscript e (.Slice none none (some (.UnaryOp .USub (.Constant (.int 1) k p1) p2)) p3) pos) (tRevL X.K te) := by
  refine ⟨fun pins s σ H Q I h => ?_⟩
  refine at_Subscript (thnA (he.run pins s σ H _ I h) fun v s1 ⟨x, H1, I1, r1, q1⟩ => ?_)
  obtain ⟨a, xs, ex, hx, q⟩ := q1
  subst ex
  cases r1
  have hst : PO X (some (.UnaryOp .USub (.Constant (.int 1) k p1) p2)) (tPart (tUn (rU fun i => .int (-i)) (tC (.int 1)))) := po_some (pe_un un_neg pe_int)
  refine wpAny_Slice (thn (po_none.run pins s1 σ H1 (fun o H2 => o = none ∧ H2 = H1) I1 ⟨rfl, rfl⟩) fun vl s2 ⟨l, H2, I2, pl, el, e2⟩ => ?_)
  subst el e2
  refine thn (po_none.run pins s2 σ H2 (fun o H3 => o = none ∧ H3 = H2) I2 ⟨rfl, rfl⟩) fun vu s3 ⟨u, H3, I3, pu, eu, e3⟩ => ?_
  subst eu e3
  refine thn (hst.run pins s3 σ H3 (fun o H4 => o = some (-1) ∧ H4 = H3) I3 ⟨1, rfl, -1, rfl, rfl, rfl⟩) fun vs s4 ⟨o, H4, I4, ps, eo, e4⟩ => ?_
  subst eo e4
  have I5 : Inv X pins σ H4 { s4 with heap := s4.heap.push { cls := .type "slice", data := .fields #[vl, vu, vs] } } := I4.kept (t' := s4.toks) fun b ob q => Heap.get?_push_of_some _ q
  obtain ⟨its, r, ht, hz⟩ := I5.list hx
  have hlen := r.length
  show wpAny (model X.prog X.w) X.A (subscriptTail e (.Slice none none (some (.UnaryOp .USub (.Constant (.int 1) k p1) p2)) p3) (.ref a) (.ref s4.heap.objs.size)) (EP X pins σ Q) X.xe { s4 with heap := s4.heap.push { cls := .type "slice", data := .fields #[vl, vu, vs] } }
  refine tail_any (ops := [.ref a, .ref s4.heap.objs.size]) ht.isList.typeIs (PySem.slot_list_getitem.lookup) ?_ (by with_unfolding_all rfl)
  refine wpAny_getItem_list_slice ht.isList (Heap.IsSliceOf.new _ vl vu vs) pl pu ps (by decide) ?_ (by rw [List.size_toArray]; omega)
  rw [PySem.W.krv_pick]
  refine ⟨.ref _, _, I5.laid (t' := s4.toks) (o := .lst xs.reverse) (fun b ob q => Heap.get?_push_of_some _ q) (Nat.le_refl _) ?_, rfl, q _ (I5.hok.fresh (Nat.le_refl _))⟩
  exact ⟨by rw [List.length_reverse]; exact hz, _, 0, r.reverse, Heap.get?_push_size _ rfl⟩
theorem dea_rev (he : PEa X c e (tE X.K W f)) : PEa X c (.Subscript e (.Slice none none (some (.UnaryOp .USub (.Constant (.int 1) k p1) p2)) p3) pos) (tE X.K W (dRev f)) := by
  refine (pea_rev he).to fun σ H Q h => ?_
  obtain ⟨Z, φ, η, st, rs, sl, af⟩ := h
  refine ⟨Z, φ, η, st, rs, sl, af.bind.mono fun a Z' φ' H' t g' rs' v r => ?_⟩
  unfold revO at g'
  split at g'
  · rename_i xs e1
    obtain ⟨a', vs, rfl, h2, h3⟩ := peek_pk rs' e1 r
    exact ⟨a', vs, rfl, SqL.of h2, fun p hp => g'.lst rs' hp h3.reverse⟩
  · rename_i xs e1
    obtain ⟨a', vs, rfl, h2, h3⟩ := peek_pk rs' e1 r
    exact ⟨a', vs, rfl, h2, fun p hp => g'.lst rs' hp h3.reverse⟩
  · exact g'.elim
end
end M

end
section
set_option Elab.async false
set_option linter.all false
set_option maxRecDepth 100000
set_option maxHeartbeats 0
namespace M
open PySem PySem.Spec PyProof.Rows L2
section
variable {Mo : Model} {A : Around} {c : Code} {E : Value → Shared → Prop} {s : Shared} {env : Env} {α : Type}
theorem at_holding {vs : List Value} {m : Sem α} {Q : α → Shared → Prop} (h : _root_.PySem.wpAt Mo A c m Q E s) : _root_.PySem.wpAt Mo A c (holding vs m) Q E s :=
  fun Γ p hc hΓ => by rw [Sem.wp_holding]; exact h Γ p hc hΓ
/-- f(e, k=..): f a built-in function -/
theorem at_callKw {x : Str} {id : String} {p pos : Pos} {e : Expr} {kws : List Keyword} {Q : Value → Shared → Prop}
    (h : wpAny Mo A (eval (.Name x p) env) (fun f s1 => f = .builtin id ∧ _root_.PySem.wpAt Mo A c (eval e env) (fun v s2 => wpAny Mo A (evalAll ((backToKw pos (keywordEach kws env)).map (·.2)))
      (fun kvs s3 => wpAny Mo A (call (.builtin id) [v] (((backToKw pos (keywordEach kws env)).filterMap (·.1)).zip kvs)) Q E s3) E s2) E s1) E s)
    (he : backTo pos (starEach [e] env) = [(false, eval e env)] := by rfl) (hall : (backToKw pos (keywordEach kws env)).all (·.1.isSome) = true := by rfl) (hkw : (backToKw pos (keywordEach kws env)).any (·.1.isNone) = false := by rfl) :
    _root_.PySem.wpAt Mo A c (eval (.Call (.Name x p) [e] kws pos) env) Q E s := by
  rw [arm_eval_Call_Name']
  refine _root_.PySem.wpAt_bind (_root_.PySem.wpAt_of_wpAny (thn h fun f s1 ⟨hf, h1⟩ => ?_))
  subst hf
  unfold callWith
  rw [he]
  have ev : _root_.PySem.wpAt Mo A c (evalArgs (.builtin id) true [(false, eval e env)] (backToKw pos (keywordEach kws env))) (fun a s2 => wpAny Mo A (call (.builtin id) ([] ++ a.pos) a.kw) Q E s2) E s1 := by
    unfold evalArgs
    show _root_.PySem.wpAt Mo A c (spliced [(false, eval e env)] >>= _) _ E s1
    unfold spliced
    simp only [Bool.false_eq_true, if_false]
    refine _root_.PySem.wpAt_bind (_root_.PySem.wpAt_bind (thnA h1 fun v s2 h2 => ?_))
    refine _root_.PySem.wpAt_bind (_root_.PySem.wpAt_of_wpAny (wpAny_pure ?_))
    unfold spliced
    refine _root_.PySem.wpAt_bind (at_holding (_root_.PySem.wpAt_of_wpAny (wpAny_pure ?_)))
    refine _root_.PySem.wpAt_of_wpAny (wpAny_pure ?_)
    refine _root_.PySem.wpAt_of_wpAny (wpAny_holding ?_)
    rw [if_pos hall]
    refine wpAny_bind (thn h2 fun kvs s3 h3 => ?_)
    exact wpAny_bind (wpAny_pure (wpAny_pure h3))
  refine _root_.PySem.wpAt_bind (at_holding (thnA ev fun a s2 h2 => _root_.PySem.wpAt_of_wpAny (wpAny_bind (wpAny_standAt ?_))))
  simp only [List.any_cons, List.any_nil, hkw, Bool.or_false]
  refine wpAny_bind (wpAny_pure ?_)
  exact wpAny_bind (thn h2 fun r s3 hr => wpAny_bind (wpAny_holding (wpAny_point (wpAny_pure hr))))
end
/-! ### lambda i: w[i], called -/
def seqAt (h : Heap) (a : Addr) (its : List Value) : Prop := (h.IsList a its.toArray ∨ IsTup h a its.toArray) ∧ its.length ≤ sizeLine
theorem lam_ix {prog : Program} {w : World} {A : Around} {s : Shared} {f c' cw a : Addr} {q : Str} {params : Arguments} {scope : Scope} {clos : List (Str × Addr)} {pm ctv : Value} {wn ix : Str} {p1 p2 p3 : Pos} {its : List Value} {i : Int} {t : Tok} {u : Value}
    (hd : A.depth < recursionLimit) (lim : s.heap.NoLimit) (hf : s.heap.get? f = some (PySem.W.kla_obj "<lambda>" q params (.Subscript (.Name wn p1) (.Name ix p2) p3) scope clos pm c' ctv)) (hcd : s.heap.CodeRec (.ref c') q)
    (hbind : bindArgs (PySem.W.kla_fn "<lambda>" q params (.Subscript (.Name wn p1) (.Name ix p2) p3) scope clos pm (.ref c') ctv) ⟨[.int i t], []⟩ = pure [(ix, .int i t)])
    (hk : scope.kind = .function) (hco : scope.isCoroutine = false) (hge : scope.isGenerator = false) (hcell : ∀ y ∈ scope.names, y.2 ≠ .cell) (hix : scope.names.lookup ix = some .local) (hwn : scope.names.lookup wn = some .free)
    (hcl : clos.lookup wn = some cw) (hcw : s.heap.IsCell cw (some (.ref a))) (hq : seqAt s.heap a its) (h0 : 0 ≤ i) (hu : its[i.toNat]? = some u)
    (hd1 : (wn == ("__debug__" : Str)) = false) (hd2 : (ix == ("__debug__" : Str)) = false) (hd3 : (wn == ("__classdict__" : Str)) = false) :
    wpAny (model prog w) A (call (.ref f) [.int i t]) (fun v s2 => v = u ∧ ∃ h' tk, s2 = { s with heap := h', toks := tk } ∧ ∀ b o, s.heap.get? b = some o → h'.get? b = some o) (fun _ _ => False) s := by
  have hi : i.toNat < its.length := (List.getElem?_eq_some_iff.mp hu).1
  have hz := hq.2
  have hln := line63
  refine wpAny_call (PySem.W.kla_callFunE hd hf rfl hco hge rfl hcd ?_)
  rw [hbind]
  refine wpAny_pure (wpAny_newFunctionEnv hcell (fun y hy => by simp at hy; subst hy; exact hix) (fun h₁ hns hsb => ?_) hk)
  have kp : ∀ b o, s.heap.get? b = some o → h₁.get? b = some o := fun b o e => hsb.extBut b o (Nat.ne_of_lt (Heap.lt_size e)) (Heap.get?_push_of_some _ e)
  refine ⟨lim.keeps kp, PySem.W.kla_codeExpr ?_⟩
  have hcw1 : h₁.IsCell cw (some (.ref a)) := let ⟨o, ho, hd⟩ := hcw; ⟨o, kp _ _ ho, hd⟩
  refine Subscript_ (wpAny_Name (wpAny_loadName_free hk hwn hcl hcw1 ?_ hd3) hd1)
  refine wpAny_Name (wpAny_loadName_local (v := .int i t) hk hix hns (show [(ix, Value.int i t)].reverse.lookup ix = some (Value.int i t) by simp) ?_) hd2
  have fin : u = u ∧ ∃ h' tk, ({ s with heap := h₁, toks := s.toks + [(ix, Value.int i t)].length } : Shared) = { s with heap := h', toks := tk } ∧ ∀ b o, s.heap.get? b = some o → h'.get? b = some o := ⟨rfl, h₁, _, rfl, kp⟩
  rcases hq.1 with hl | hl
  · have hl1 : h₁.IsList a its.toArray := let ⟨o, ho, r⟩ := hl; ⟨o, kp _ _ ho, r⟩
    exact item_listR hl1 h0 (by omega) (by simpa using hu) fin rfl
  · have hl1 : IsTup h₁ a its.toArray := let ⟨o, ho, r⟩ := hl; ⟨o, kp _ _ ho, r⟩
    exact subscriptTail_builtinR (x := u) hl1.typeIs slot_tuple_getitem.lookup
      (getItem_tuple (j := i.toNat) (Q := fun r s' => r = u ∧ _) hl1 (by omega) (by omega) (by rw [List.size_toArray]; exact seqIndex_of h0 (by omega)) (by simpa using hu) ⟨rfl, fin⟩) rfl
end M

end
section
set_option Elab.async false
set_option linter.all false
set_option maxRecDepth 100000
set_option maxHeartbeats 0
namespace M
open PySem PySem.Spec PyProof.Rows L2
/-! ## sorted(e, key=lambda i: w[i]) -/
def intsP : List P → Option (List Int)
  | [] => some []
  | .int i :: r => match intsP r with
    | some is => some (i :: is)
    | none => none
  | _ => none
theorem intsP_eq : ∀ {xs : List P} {is : List Int}, intsP xs = some is → xs = is.map P.int
  | [], is, h => by cases h; rfl
  | .int i :: r, is, h => by
    unfold intsP at h
    split at h
    · rename_i js e; cases h; rw [List.map_cons, ← intsP_eq e]
    · cases h
  | .non :: _, _, h => by cases h
  | .bl _ :: _, _, h => by cases h
  | .str _ :: _, _, h => by cases h
  | .tup _ :: _, _, h => by cases h
  | .lst _ :: _, _, h => by cases h
  | .rol _ :: _, _, h => by cases h
  | .dct _ :: _, _, h => by cases h
  | .obj _ _ :: _, _, h => by cases h
theorem intsP_map : ∀ (is : List Int), intsP (is.map P.int) = some is
  | [] => rfl
  | i :: r => by rw [List.map_cons]; unfold intsP; rw [intsP_map r]
theorem reps_ints {K : PySem.W.Frag} {Z : Hp} : ∀ {is : List Int} {vs : List V}, Reps K Z (is.map P.int) vs → vs = is.map V.int
  | [], vs, h => by rw [List.map_nil, Reps] at h; exact h
  | i :: r, vs, h => by
    rw [List.map_cons, Reps] at h
    obtain ⟨v, ws, rfl, h1, h2⟩ := h
    rw [Rep] at h1
    rw [List.map_cons, h1, reps_ints h2]
theorem ints_reps {K : PySem.W.Frag} {Z : Hp} : ∀ (is : List Int), Reps K Z (is.map P.int) (is.map V.int)
  | [] => Reps.nil
  | i :: r => Reps.cons (by rw [Rep]) (ints_reps r)
def keyI (ws : List P) (i : Int) : Int := match ws[i.toNat]? with
  | some (.int k) => k
  | _ => 0
def keyOkB (ws : List P) (i : Int) : Bool := decide (0 ≤ i) && match ws[i.toNat]? with
  | some (.int _) => true
  | _ => false
theorem keyOk {ws : List P} {i : Int} (h : keyOkB ws i = true) : 0 ≤ i ∧ ws[i.toNat]? = some (.int (keyI ws i)) := by
  unfold keyOkB at h
  rw [Bool.and_eq_true, decide_eq_true_eq] at h
  refine ⟨h.1, ?_⟩
  have h2 := h.2
  unfold keyI
  split at h2
  · rename_i k e; rw [e]
  · cases h2
def lstP' : P → Option (List P)
  | .lst xs => some xs
  | .rol xs => some xs
  | _ => none
def sortKO (d dw : D) (st : Sr) : R (D × Sr) := match (peek st d).bind lstP', (peek st dw).bind itemsP with
  | some xs, some ws => match intsP xs with
    | some is => if is.all (keyOkB ws) = true then .ok (.cell st.length, st ++ [.lst ((is.mergeSort fun i j => decide (keyI ws i ≤ keyI ws j)).map P.int)]) else .stuck
    | none => .stuck
  | _, _ => .stuck
def dSortK (f : DE) (iw : Nat) : DE := fun η st => (f η st).bind fun a => match η[iw]? with
  | some (some dw) => sortKO a.1 dw a.2
  | _ => .stuck
theorem each_ints : ∀ {is : List Int} {us : List Value}, Vals (is.map V.int) us → PySem.W.EachIs (fun (v : Value) (i : Int) => ∃ t, v = .int i t) us is
  | [], us, h => by cases h; exact .nil
  | i :: r, us, h => by
    cases h with
    | cons h1 h2 => exact .cons h1 (each_ints h2)
theorem ints_each : ∀ {is : List Int} {us : List Value}, PySem.W.EachIs (fun (v : Value) (i : Int) => ∃ t, v = .int i t) us is → Vals (is.map V.int) us
  | _, _, .nil => .nil
  | _, _, .cons h1 h2 => .cons h1 (ints_each h2)
section
variable {X : Cx} {W : WX}
/-- nothing but the tables and new code objects changes -/
theorem RS.extN {K : PySem.W.Frag} {Z H H2 : Hp} {φ : List Addr} {st : Sr} (rs : RS K Z φ st H) (x : LamX.ExtN H H2) (t : LamX.Tabs (tabsOf K) H2) : RS K Z φ st H2 ∧ Step Z φ H Z φ H2 := by
  refine ⟨⟨fun b o e => x b o (rs.same b o e) fun ps z => rs.zd b ps (by rw [e, z]), rs.len, rs.nd, fun i a c hi hc => ?_, t, rs.zd⟩, ⟨Same.refl _, ⟨[], by simp, by simp⟩, fun b o e _ n => x b o e fun ps z => n (.inl ⟨ps, z⟩), fun b h => .inl h, fun b h o e => ?_⟩⟩
  · exact (rs.cells i a c hi hc).keep (Same.refl _) ⟨[], by simp⟩ (fun q => (rs.cells i a c hi hc).free q) fun o e d => x a o e fun ps z => d.1 (.inl ⟨ps, z⟩)
  · by_cases q : Oth o
    · exact q
    · exact (h.no (x b o e fun ps z => q (.inl ⟨ps, z⟩)) q).elim
theorem dea_sortKey {c : Code} {cd P : Addr} {j iw : Nat} {wn ix : Str} {e : Expr} {f : DE} {params : Arguments} {scope : Scope} {p p1 p2 p3 lp kp pos : Pos} (hr : Room (j + 1) X.A) (hg : Gl X "sorted") (hm : X.mg "sorted" = none) (TB : LamX.TabB X.base X.mg cd P) (hmem : (P, X.env.qual ++ "<lambda>") ∈ tabsOf X.K) (hun : ∀ p ∈ tabsOf X.K, p.1 = P → p.2 = X.env.qual ++ "<lambda>")
    (L : ∀ y ∈ scope.names, y.2 ≠ .cell ∧ (y.2 = .free → X.env.scope.names.lookup y.1 = some .cell ∨ X.env.scope.names.lookup y.1 = some .free)) (he : PEa X c e (tE X.K W f))
    (hcode : X.env.code = .ref cd := by rfl) (hdef : defaultsOf params X.env = ([], []) := by rfl) (hk : scope.kind = .function := by rfl) (hco : scope.isCoroutine = false := by rfl) (hge : scope.isGenerator = false := by rfl)
    (hix : scope.names.lookup ix = some .local := by rfl) (hwn : scope.names.lookup wn = some .free := by rfl) (hN : X.N[iw]? = some wn := by rfl) (hwc : X.env.scope.names.lookup wn = some .cell := by rfl)
    (hd1 : (wn == ("__debug__" : Str)) = false := by decide) (hd2 : (ix == ("__debug__" : Str)) = false := by decide) (hd3 : (wn == ("__classdict__" : Str)) = false := by decide)
    (hbind : ∀ (q : Str) (clos : List (Str × Addr)) (pm cv ctv v : Value), bindArgs (PySem.W.kla_fn "<lambda>" q params (.Subscript (.Name wn p1) (.Name ix p2) p3) scope clos pm cv ctv) ⟨[v], []⟩ = pure [(ix, v)] := by intros; rfl)
    (hst : backTo pos (starEach [e] X.env) = [(false, eval e X.env)] := by rfl) :
    PEa X c (.Call (.Name "sorted" p) [e] [⟨some "key", .Lambda params (.Subscript (.Name wn p1) (.Name ix p2) p3) scope lp, kp⟩] pos) (tE X.K W (dSortK f iw)) := by
  refine ⟨fun pins s σ H Q I h => ?_⟩
  obtain ⟨Z, φ, η, st, rs, sl, af⟩ := h
  refine at_callKw (id := "sorted") (ld_blt I hg hm (by decide +kernel) ⟨rfl, ?_⟩) hst rfl rfl
  refine thnA (he.run pins s σ H (fun v H1 => ∃ d dw Z φ st, η[iw]? = some (some dw) ∧ RS X.K Z φ st H1 ∧ Slots X.K Z φ η σ ∧ RepD X.K Z φ d v ∧ Af X.K W Z φ H1 (sortKO d dw st) (GE X.K Q)) I ⟨Z, φ, η, st, rs, sl, af.bind.mono fun a Z' φ' H' t g' rs' v r => ?_⟩) fun u s1 ⟨v, H1, I1, r1, q1⟩ => ?_
  · split at g'
    · rename_i dw e1
      exact ⟨a.1, dw, Z', φ', a.2, e1, rs', sl.mono t, r, g'⟩
    · exact g'.elim
  · obtain ⟨d, dw, Z1, φ1, st1, ew, rs1, sl1, rd, af1⟩ := q1
    have hfree : ∀ y ∈ scope.names, y.2 = .free → ∃ c, X.env.cells.lookup y.1 = some c := fun y hy e => I1.ok.has _ ((L y hy).2 e)
    refine kws_cons ?_
    refine LamX.lam_make2 I1 TB hcode hmem hun rs1.tb hdef hfree fun fa c' pm ctv H2 s2 I2 ex tb hfa hfn hnf hc' => ?_
    refine kws_nil ?_
    obtain ⟨rs2, t2⟩ := rs1.extN ex tb
    have af2 := af1.later t2
    have sl2 := sl1.mono t2
    unfold sortKO at af2
    split at af2
    · rename_i xs ws e1 e2
      split at af2
      · rename_i is e3
        split at af2
        · rename_i hall
          obtain ⟨pd, e1a, e1b⟩ := Option.bind_eq_some_iff.mp e1
          obtain ⟨pw, e2a, e2b⟩ := Option.bind_eq_some_iff.mp e2
          -- the list
          obtain ⟨la, lvs, hv, hls, hli⟩ : ∃ la lvs, v = .ref la ∧ SqL X.K H2 la lvs ∧ Reps X.K Z1 xs lvs := by
            have pk := peek_pk rs2 e1a rd
            cases pd with
            | lst ys => cases e1b; obtain ⟨a, vs, h1, h2, h3⟩ := pk; exact ⟨a, vs, h1, SqL.of h2, h3⟩
            | rol ys => cases e1b; obtain ⟨a, vs, h1, h2, h3⟩ := pk; exact ⟨a, vs, h1, h2, h3⟩
            | _ => cases e1b
          subst hv
          cases r1
          rw [intsP_eq e3] at hli
          have hlv := reps_ints hli
          subst hlv
          obtain ⟨its, rv, hl, hz⟩ := I2.list hls
          have hz' : is.length ≤ sizeLine := by rw [List.length_map] at hz; exact hz
          -- the word
          obtain ⟨vw, hsw, rw1⟩ := sl2.at_ iw dw ew
          obtain ⟨wa, wvs, rfl, hwq, hwr⟩ := pk_items (peek_pk rs2 e2a rw1) e2b
          obtain ⟨m, hn, hloc⟩ := I2.loc
          obtain ⟨uw, ruw, lw⟩ := hloc iw wn _ hN hsw (.inr (.inl hwc))
          cases ruw
          obtain ⟨cw, hcw, hcell⟩ : ∃ cw, X.env.cells.lookup wn = some cw ∧ s2.heap.IsCell cw (some (.ref wa)) := by
            rcases lw with ⟨z, _⟩ | ⟨_, cw, h1, h2⟩
            · have z' : X.env.scope.names.lookup wn = some .local := z
              rw [hwc] at z'; cases z'
            · exact ⟨cw, h1, h2⟩
          obtain ⟨wits, wrv, wseq⟩ : ∃ wits, Vals wvs wits ∧ seqAt s2.heap wa wits := by
            rcases hwq with q | q
            · obtain ⟨a1, a2, a3, a4⟩ := I2.list q; exact ⟨a1, a2, .inl a3.isList, by rw [← a2.length]; exact a4⟩
            · obtain ⟨a1, a2, a3, a4⟩ := I2.tuple q; exact ⟨a1, a2, .inr a3, by rw [← a2.length]; exact a4⟩
          have hclos : (cloFrom X.env.cells scope.names []).lookup wn = some cw := by
            obtain ⟨c2, h2⟩ := mem_lookup (cloFrom_has (cells := X.env.cells) (acc := []) (PySem.mem_of_lookup hwn))
            rcases cloFrom_mem (PySem.mem_of_lookup h2) with z | ⟨_, z⟩
            · cases z
            · have z' : c2 = cw := by rw [z, hcw]; rfl
              rw [h2, z']
          obtain ⟨⟨oc, cvs, ct, hoc, hdc, hvc⟩, _, _⟩ := I2.hok c' _ hc'
          have hun := hr.un
          have hdp := hr.dp
          show wpAny (model X.prog X.w) X.A (call (.builtin "sorted") [.ref la] [(Str.ofString "key", .ref fa)]) _ _ s2
          refine PySem.W.sorted_key_data (β := Int) (R := fun v i => ∃ t, v = .int i t) (b := false) (fun i => .int (keyI ws i)) hl.isList (each_ints rv) (PySem.W.AllAlike.of fun _ _ => by simp [PySem.W.alike]) (PySem.W.Sortable.others fun _ => ⟨by simp, by simp⟩) hz' (fun i _ => ?_) (ksk_s1 _ _) (fun _ => ksk_l1 _ _) (fun _ => ksk_t1 _ _) (fun v i hvi hi h tk kp => ?_) fun out ep h' tk kp _ hD hlen eo => ?_
          · have hd0 : (PyData.int (keyI ws i)).depth = 0 := by simp [PyData.depth]
            rw [hd0]; omega
          · obtain ⟨t, rfl⟩ := hvi
            obtain ⟨h0, hk1⟩ := keyOk (List.all_eq_true.mp hall i hi)
            obtain ⟨kv, hkv, rk⟩ := hwr.get hk1
            rw [Rep] at rk
            subst rk
            obtain ⟨ku, hku, t2', hru⟩ : ∃ ku, wits[i.toNat]? = some ku ∧ ∃ t, ku = .int (keyI ws i) t := by
              obtain ⟨ku, a1, a2⟩ := wrv.get hkv; exact ⟨ku, a1, a2⟩
            have lim : (({ s2 with heap := h, toks := tk } : Shared).heap).NoLimit := I2.nolimit.keeps kp
            refine wpAny_mono (lam_ix (s := { s2 with heap := h, toks := tk }) (A := X.A.in1.in1) (cw := cw) (a := wa) (its := wits) (u := ku) (by show X.A.depth < _; omega) lim (kp _ _ hfa) ⟨c', oc, cvs, ct, rfl, kp _ _ hoc, hdc, hvc⟩ (hbind _ _ _ _ _ _) hk hco hge (fun y hy => (L y hy).1) hix hwn hclos (let ⟨o, ho, hd⟩ := hcell; ⟨o, kp _ _ ho, hd⟩) ?_ h0 hku hd1 hd2 hd3) (fun v2 s3 ⟨hv2, h2, tk2, hs3, kp2⟩ => ?_) fun _ _ z => z
            · refine ⟨?_, wseq.2⟩
              rcases wseq.1 with q | q
              · exact .inl (let ⟨o, ho, r⟩ := q; ⟨o, kp _ _ ho, r⟩)
              · exact .inr (let ⟨o, ho, r⟩ := q; ⟨o, kp _ _ ho, r⟩)
            · subst hv2 hs3
              refine ⟨h2, tk2, rfl, kp2, ?_⟩
              rw [hru]
              exact .int _ _
          · rw [PySem.W.dataLe_int] at eo
            have ro := ints_each eo
            have hms : (is.mergeSort fun i j => decide (keyI ws i ≤ keyI ws j)).length = is.length := List.length_mergeSort _
            refine ⟨.ref _, upd H2 (s2.heap.objs.size + 1) (.lst ((is.mergeSort fun i j => decide (keyI ws i ≤ keyI ws j)).map V.int)), I2.laid (t' := tk) kp (Nat.le_succ _) ⟨by rw [List.length_map, hms]; exact hz', out, ep, ro, hD⟩, rfl, ?_⟩
            exact af2.lst rs2 (I2.hok.fresh (Nat.le_succ _)) (ints_reps _)
        · exact af2.elim
      · exact af2.elim
    · exact af2.elim
end
end M

end
section
set_option Elab.async false
set_option linter.all false
set_option maxRecDepth 100000
set_option maxHeartbeats 0
namespace M
open PySem PySem.Spec PyProof.Rows L2
/-! ## match -/
abbrev DM := D → DS
def dmNil : DM := fun _ η st => .ok (.nx, η, st)
def dmVal (f : DE) (b : DS) (r : DM) : DM := fun d η st => (f η st).bind fun a => (eqO d a.1 a.2).bind fun c => (truO c.1 c.2).bind fun t => if t.1 = true then b η t.2 else r d η t.2
def dmAny (b : DS) : DM := fun _ => b
def dMatch (f : DE) (m : DM) : DS := fun η st => (f η st).bind fun a => m a.1 η a.2
def rdM (K : PySem.W.Frag) (W : WX) (m : DM) (v : V) (E : Ends) (σ : L2.St) (H : Hp) : Prop := ∃ d, ∃ Z φ η st, RS K Z φ st H ∧ Slots K Z φ η σ ∧ RepD K Z φ d v ∧ Af K W Z φ H (m d η st) (GS K E)
structure PM (X : Cx) (W : WX) (cs : List MatchCase) (m : DM) : Prop where
  run : ∀ (pins : List (Addr × Obj)) (s : Shared) (σ : L2.St) (H : Hp) (E : Ends) (v : V) (u : Value) (fst : Bool), Inv X pins σ H s → RelV v u → rdM X.K W m v E σ H → wpAny (model X.prog X.w) X.A (matchCases cs X.env u fst) (SP X pins E) X.xe s
section
variable {X : Cx} {W : WX} {e : Expr} {body : List Stmt} {rest : List MatchCase} {pos p1 : Pos} {f : DE} {b : DS} {m : DM}
theorem dm_nil : PM X W [] dmNil := ⟨fun pins s σ H E v u fst I r ⟨d, Z, φ, η, st, rs, sl, rd, af⟩ => wpAny_matchCases_nil ⟨σ, H, I, af _ _ _ .refl rs σ sl⟩⟩
theorem dm_any (hb : PSs X body (tS X.K W b)) : PM X W (⟨.MatchAs none none pos, none, body⟩ :: rest) (dmAny b) := by
  refine ⟨fun pins s σ H E v u fst I r ⟨d, Z, φ, η, st, rs, sl, rd, af⟩ => ?_⟩
  refine wpAny_matchCases_cons (wpAny_matchPattern_Capture ?_)
  exact wpAny_assignInOrder_none (hb.run pins s σ H E I ⟨Z, φ, η, st, rs, sl, af⟩)
theorem dm_val (hu : X.A.units + 64 < cLine) (he : PE X e (tE X.K W f)) (hb : PSs X body (tS X.K W b)) (hm : PM X W rest m) : PM X W (⟨.MatchValue e pos, none, body⟩ :: rest) (dmVal f b m) := by
  refine ⟨fun pins s σ H E v u fst I r ⟨d, Z, φ, η, st, rs, sl, rd, af⟩ => ?_⟩
  refine wpAny_matchCases_cons (wpAny_matchPattern_Value ?_)
  refine thn (he.run pins s σ H (fun w H1 => ∃ x, ∃ Z φ st, RS X.K Z φ st H1 ∧ Slots X.K Z φ η σ ∧ RepD X.K Z φ d v ∧ RepD X.K Z φ x w ∧ Af X.K W Z φ H1 ((eqO d x st).bind fun c => (truO c.1 c.2).bind fun t => if t.1 = true then b η t.2 else m d η t.2) (GS X.K E)) I ⟨Z, φ, η, st, rs, sl, af.bind.mono fun a Z' φ' H' t g' rs' w rw' => ⟨a.1, Z', φ', a.2, rs', sl.mono t, rd.mono t.hz t.app, rw', g'⟩⟩) fun uw s1 ⟨w, H1, I1, r1, q1⟩ => ?_
  obtain ⟨x, Z1, φ1, st1, rs1, sl1, rd1, rx1, af1⟩ := q1
  refine thn (o_eq hu pins s1 σ H1 v w u uw (fun c H2 => ∃ k, TruV X.K c H2 k ∧ ∃ Z φ st, RS X.K Z φ st H2 ∧ Slots X.K Z φ η σ ∧ RepD X.K Z φ d v ∧ Af X.K W Z φ H2 (if k = true then b η st else m d η st) (GS X.K E)) I1 r r1 ⟨d, x, Z1, φ1, st1, rs1, rd1, rx1, af1.bind.mono fun a Z' φ' H' t g' rs' c rc => ?_⟩) fun c s2 ⟨z, H2, I2, r2, k, tv, q2⟩ => ?_
  · have g2 := g'.bind
    unfold truO at g2
    split at g2
    · rename_i p e1
      split at g2
      · rename_i k e2
        exact ⟨k, tru_pk (peek_pk rs' e1 rc) e2, Z', φ', a.2, rs', sl1.mono t, rd1.mono t.hz t.app, g2 _ _ _ .refl⟩
      · exact g2.elim
    · exact g2.elim
  · refine thn (tru_ok pins s2 σ H2 z c (fun k' H3 => k' = k ∧ H3 = H2) I2 r2 ⟨k, tv, rfl, rfl⟩) fun k' s3 ⟨H3, I3, hk, hH⟩ => ?_
    subst hk hH
    obtain ⟨Z3, φ3, st3, rs3, sl3, rd3, af3⟩ := q2
    cases k' with
    | true => exact wpAny_assignInOrder_none (hb.run pins s3 σ H3 E I3 ⟨Z3, φ3, η, st3, rs3, sl3, af3⟩)
    | false => exact hm.run pins s3 σ H3 E v u false I3 r ⟨d, Z3, φ3, η, st3, rs3, sl3, rd3, af3⟩
theorem ds_match {cs : List MatchCase} (he : PE X e (tE X.K W f)) (hm : PM X W cs m) : PS X (.Match e cs pos) (tS X.K W (dMatch f m)) := by
  refine ⟨fun pins s σ H E I ⟨Z, φ, η, st, rs, sl, af⟩ => ?_⟩
  refine wpAny_Match (thn (he.run pins s σ H (fun v H1 => rdM X.K W m v E σ H1) I ⟨Z, φ, η, st, rs, sl, af.bind.mono fun a Z' φ' H' t g' rs' v r => ⟨a.1, Z', φ', η, a.2, rs', sl.mono t, r, g'⟩⟩) fun u s1 ⟨v, H1, I1, r1, q1⟩ => hm.run pins s1 σ H1 E v u true I1 r1 q1)
end
end M

end
section
set_option Elab.async false
set_option linter.all false
set_option maxRecDepth 100000
set_option maxHeartbeats 0
namespace M
open PySem L2
/-! ## Instances of a class without an own __init__ -/
structure Mk0 (K : PySem.W.Frag) (C : Addr) : Prop where
  makes : PySem.W.makesIn K C = true
  init : PySem.W.findIn K (.ref C) "__init__" = some (some (.builtin "object.__init__"))
  top : PySem.W.mroIn K C (.type "object") = some true
  kp : PySem.W.keepIn K (.ref C) = true
section
variable {X : Cx} {W : WX} {pins : List (Addr × Obj)} {σ : St} {H : Hp} {s : Shared} {C : Addr}
theorem run_make0 {Q : VK} (mk : Mk0 X.K C) (I : Inv X pins σ H s) (h : ∀ x dx, H x = none → H dx = none → dx ≠ x → Q (.ref x) (upd (upd H dx (.own x)) x (.ins C dx []))) :
    wpAny (model X.prog X.w) X.A (call (.ref C) []) (EP X pins σ Q) X.xe s := by
  have hq := h (s.heap.objs.size + 1) s.heap.objs.size (I.hok.fresh (Nat.le_succ _)) (I.hok.fresh (Nat.le_refl _)) (Nat.ne_of_lt (Nat.lt_succ_self _))
  have I2 := Inv.made (C := C) I
  refine wpAny_call (make_map0 I.kIn mk.makes mk.init (fun self => PySem.W.Looks.of_pure (PySem.W.oi_bind _)) ?_)
  have X2 := I2.kIn
  have ho : ((s.heap.push PySem.W.emptyDict).push (PySem.W.instObj C s.heap.objs.size)).get? (s.heap.objs.size + 1) = some (PySem.W.instObj C s.heap.objs.size) := by
    have e := Heap.get?_push_size (s.heap.push PySem.W.emptyDict) (o := PySem.W.instObj C s.heap.objs.size) rfl
    rw [Heap.size_push] at e
    exact e
  have t1 : PySem.W.Looks (model X.prog X.w) ((s.heap.push PySem.W.emptyDict).push (PySem.W.instObj C s.heap.objs.size)) (typeOf (.ref (s.heap.objs.size + 1))) (.ref C) := NwA.type_at ho rfl
  have t2 : PySem.W.Looks (model X.prog X.w) ((s.heap.push PySem.W.emptyDict).push (PySem.W.instObj C s.heap.objs.size)) (isInstance (.ref (s.heap.objs.size + 1)) (.type "object")) true := t1.andThen (PySem.W.looks_mroIn X2 mk.top)
  refine PySem.codeAny_call_builtin PySem.W.oi_plain PySem.W.entry_oi (@PySem.W.check_slot (model X.prog X.w) _ _ { s with heap := (s.heap.push PySem.W.emptyDict).push (PySem.W.instObj C s.heap.objs.size) } "object.__init__" "object" "__init__" (.ref (s.heap.objs.size + 1)) [] [] _ PySem.W.oi_kind PySem.W.oi_split t2 (PySem.W.oi_args _) ?_)
  rw [PySem.W.oi_run]
  exact wpAny_pure (And.intro rfl ⟨V.ref (s.heap.objs.size + 1), _, I2, rfl, hq⟩)
end
/-- one more object that belongs to none of the values -/
theorem RS.more {K : PySem.W.Frag} {Z H : Hp} {φ : List Addr} {st : Sr} {a : Addr} {o : HO} (h : RS K Z φ st H) (ha : H a = none) : RS K Z φ st (upd H a o) ∧ Step Z φ H Z φ (upd H a o) := by
  have hz : Z a = none := h.same.free ha
  have na : a ∉ φ := fun hm => by obtain ⟨u, hu⟩ := h.some_ hm; rw [ha] at hu; cases hu
  refine ⟨⟨fun b u hb => ?_, h.len, h.nd, fun i b c' hi hc' => ?_, tabs_upd h.tb (fun u hu => by rw [ha] at hu; cases hu), h.zd⟩, ⟨Same.refl _, ⟨[], by simp, by simp⟩, fun b u hb hn _ => ?_, fun b hb => .inl hb, fun b hb => ?_⟩⟩
  · rw [upd_ne (by rintro rfl; rw [hz] at hb; cases hb)]; exact h.same b u hb
  · have nb : b ≠ a := by rintro rfl; exact na (List.mem_of_getElem? hi)
    exact (h.cells i b c' hi hc').keep (Same.refl _) ⟨[], by simp⟩ (fun q => (h.cells i b c' hi hc').free q) fun u hu _ => by rw [upd_ne nb]; exact hu
  · rw [upd_ne (by rintro rfl; rw [ha] at hb; cases hb)]; exact hb
  · by_cases q : b = a
    · subst q; exact .of ha
    · exact fun o ho => hb o (by rw [upd_ne q]; exact ho)
section
variable {X : Cx} {W : WX} {x c : Str} {p pos apos : Pos} {e o : Expr} {es : List Expr} {f : DE} {fs : DA} {k : Nat} {ps : List Str} {m : Str}
/-- C() -/
theorem de_make0 (mk : Mk0 X.K (He.ga X.K c)) (hg : Gl X x) (hm : X.mg x = some (.ref (He.ga X.K c))) (hdb : (x == ("__debug__" : Str)) = false := by decide) : PE X (.Call (.Name x p) [] [] pos) (tE X.K W (dK (.obj c []))) := by
  refine ⟨fun pins s σ H Q I ⟨Z, φ, η, st, rs, sl, af⟩ => ?_⟩
  refine wpAny_Call_Name_kw (ld_glob I hg hm ?_ hdb)
  refine PySem.W.callWith_K0 I.kIn mk.kp (run_make0 mk I fun y dy hy hdy hne => ?_)
  obtain ⟨rs1, s1⟩ := rs.more (o := .own y) hdy
  exact (af.later s1).newZ rs1 (by rw [upd_ne (Ne.symm hne)]; exact hy) fun sz => by rw [Rep]; exact ⟨y, dy, [], rfl, upd_same, by rw [RepF]⟩
/-! ## Methods of the texts' classes -/
def noF {α : Type} (m : Str) : List (Str × α) → Bool
  | [] => true
  | (k, _) :: r => !(m == k) && noF m r
theorem noF_F {K : PySem.W.Frag} {Z : Hp} {m : Str} : ∀ {fs : List (Str × P)} {gs : List (Str × V)}, noF m fs = true → RepF K Z fs gs → gs.lookup m = none
  | [], gs, _, h => by rw [RepF] at h; subst h; rfl
  | (k, p) :: r, gs, e, h => by
    rw [RepF] at h
    obtain ⟨v, ws, rfl, _, h2⟩ := h
    unfold noF at e
    rw [Bool.and_eq_true, Bool.not_eq_true'] at e
    rw [List.lookup_cons, e.1]
    exact noF_F e.2 h2
theorem noF_D {K : PySem.W.Frag} {Z : Hp} {φ : List Addr} {m : Str} : ∀ {fs : List (Str × D)} {gs : List (Str × V)}, noF m fs = true → RepDF K Z φ fs gs → gs.lookup m = none
  | [], gs, _, h => by cases h; rfl
  | (k, p) :: r, gs, e, h => by
    obtain ⟨v, ws, rfl, _, h2⟩ := h
    unfold noF at e
    rw [Bool.and_eq_true, Bool.not_eq_true'] at e
    rw [List.lookup_cons, e.1]
    exact noF_D e.2 h2
/-- the class of an instance that has no attribute m of its own -/
def clsM (m : Str) (st : Sr) : D → Option Str
  | .fz (.obj c fs) => if noF m fs then some c else none
  | .cell n => match st[n]? with
    | some (.obj c fs) => if noF m fs then some c else none
    | some (.frz (.obj c fs)) => if noF m fs then some c else none
    | _ => none
  | _ => none
theorem clsM_ok {K : PySem.W.Frag} {Z H : Hp} {φ : List Addr} {st : Sr} {d : D} {c m : Str} {v : V} (rs : RS K Z φ st H) (e : clsM m st d = some c) (r : RepD K Z φ d v) : ∃ x dx gs, v = .ref x ∧ H x = some (.ins (He.ga K c) dx gs) ∧ gs.lookup m = none := by
  have fzc : ∀ {c' : Str} {fs : List (Str × P)} {v : V}, noF m fs = true → Rep K Z (.obj c' fs) v → ∃ x dx gs, v = .ref x ∧ H x = some (.ins (He.ga K c') dx gs) ∧ gs.lookup m = none := fun {c' fs v} hn h => by
    rw [Rep] at h
    obtain ⟨a, dx, gs, rfl, h2, h3⟩ := h
    exact ⟨a, dx, gs, rfl, rs.same _ _ h2, noF_F hn h3⟩
  cases d with
  | fz p =>
    cases p with
    | obj c' fs =>
      have e' : (if noF m fs then some c' else none) = some c := e
      split at e'
      · rename_i hn; cases e'; exact fzc hn r
      · cases e'
    | _ => cases e
  | cell n =>
    obtain ⟨a, h1, rfl⟩ := r
    obtain ⟨ct, hc, rc⟩ := rs.at_ h1
    have e' : (match st[n]? with
      | some (.obj c fs) => if noF m fs then some c else none
      | some (.frz (.obj c fs)) => if noF m fs then some c else none
      | _ => none) = some c := e
    rw [hc] at e'
    cases ct with
    | obj c' fs =>
      dsimp only at e'
      split at e'
      · rename_i hn; cases e'; obtain ⟨_, dx, gs, h2, h3⟩ := rc; exact ⟨a, dx, gs, rfl, h2, noF_D hn h3⟩
      · cases e'
    | frz p =>
      cases p with
      | obj c' fs =>
        dsimp only at e'
        split at e'
        · rename_i hn; cases e'; exact fzc hn rc.1
        · cases e'
      | _ => cases e'
    | lst xs => cases e'
    | dct xs => cases e'
def dMeth (m : Str) (tab : List (Str × DF)) (f : DE) (g : DA) : DE := fun η st => (f η st).bind fun a => match (clsM m a.2 a.1).bind fun c => look1 c tab with
  | some F => (g η a.2).bind fun b => callF F (a.1 :: b.1) η b.2
  | none => .stuck
/-- what a class's method is -/
def MethT (P : Program) (w : World) (K : PySem.W.Frag) (mg : Str → Option Value) (base : Heap) (k : Nat) (m : Str) (ps : List Str) (c : Str) (F : DF) : Prop :=
  ∃ f2 fd, Cls K (He.ga K c) ∧ Meth K (He.ga K c) m f2 ∧ FnOk P w K mg base (L2.CX P w) k f2 fd ps (spF K F) ∧ Binds K fd ps []
theorem de_meth {tab : List (Str × DF)} {pl : Sem Bool} {j : Nat} (tk : Takes X W) (hT : ∀ c F, (c, F) ∈ tab → MethT X.prog X.w X.K X.mg X.base k m ps c F) (hr : Room j X.A) (he : PE X o (tE X.K W f)) (ha : PA X (e :: es) (tA X.K W fs)) (hk : k ≤ j := by decide)
    (hst : starEach (e :: es) X.env = (false, eval e X.env) :: starEach es X.env := by rfl) (hpl : (backTo pos (starEach es X.env)).any (·.1) = false := by rfl)
    (ht : eval (.Call (.Attribute o m apos) (e :: es) [] pos) X.env = (do
      let ov ← eval o X.env
      standAt apos.atName
      let (f, first) ← holding [ov] (getMethod ov m pl)
      callWith pos f first (backTo pos (starEach (e :: es) X.env)) (backToKw pos (keywordEach [] X.env))) := by rfl) :
    PE X (.Call (.Attribute o m apos) (e :: es) [] pos) (tE X.K W (dMeth m tab f fs)) := by
  refine ⟨fun pins s σ H Q I h => ?_⟩
  obtain ⟨Z, φ, η, st, rs, sl, af⟩ := h
  refine PySem.W.methodCall_KW (pl := pl) (thn (he.run pins s σ H (fun v H1 => ∃ d Z φ st, RS X.K Z φ st H1 ∧ Slots X.K Z φ η σ ∧ RepD X.K Z φ d v ∧ Af X.K W Z φ H1 (match (clsM m st d).bind fun c => look1 c tab with
    | some F => (fs η st).bind fun b => callF F (d :: b.1) η b.2
    | none => .stuck) (GE X.K Q)) I ⟨Z, φ, η, st, rs, sl, af.bind.mono fun a Z' φ' H' t g' rs' v r => ⟨a.1, Z', φ', a.2, rs', sl.mono t, r, g'⟩⟩) fun u s1 ⟨v, H1, I1, r1, q1⟩ => ?_) ht
  obtain ⟨d, Z1, φ1, st1, rs1, sl1, rd, af1⟩ := q1
  split at af1
  · rename_i F eF
    obtain ⟨c, ec, el⟩ := Option.bind_eq_some_iff.mp eF
    obtain ⟨x, dx, gs, rfl, hx, hn⟩ := clsM_ok rs1 ec rd
    obtain ⟨f2, fd, hc, hm, Fo, hb⟩ := hT c F (look1_mem el)
    obtain rfl : u = Value.ref x := r1
    refine getmeth_ok I1 hx hc hm hn ?_
    refine PySem.W.callWith_K (first := [.ref x]) (h₀ := X.base) I.ok.mod.kin hm.kp (thn (ha.run pos pins s1 σ H1 (fun vs H2 => spF X.K F (.ref x :: vs) H2 Q (WE W σ)) I1 ⟨Z1, φ1, η, st1, rs1, sl1, af1.bind.mono fun a Z' φ' H' t g' rs' vs r => call_sp (ds := d :: a.1) rs' (sl1.mono t) ⟨_, vs, rfl, rd.mono t.hz t.app, r⟩ g'⟩) fun us s2 ⟨vs, H2, I2, r, q2⟩ => ⟨I2.kIn, ?_⟩) hst hpl
    have r6 : Vals (.ref x :: vs) (.ref x :: us) := .cons rfl r
    have hl : (Value.ref x :: us).length = ps.length := by rw [← r6.length]; exact Fo.len _ _ _ _ q2
    have bb := hb s2 (.ref x :: us) I2.kIn (by rw [List.append_nil]; exact hl)
    rw [List.append_nil] at bb
    refine wpAny_call (codeAny_mono (Fo.run X.A X.stack s2 H2 ⟨.ref x :: us, []⟩ (.ref x :: us) (.ref x :: vs) Q (WE W σ) (hr.mono hk) I2.env0 bb r6 q2) fun r s' hq => ?_)
    cases r with
    | error e => exact passAt tk σ pins H2 s2 e s' I2 hq
    | ok fl =>
      cases fl with
      | ret u => exact I2.after hq
      | next => exact False.elim hq
      | brk => exact False.elim hq
      | cont => exact False.elim hq
  · exact af1.elim
end
end M

end
section
set_option Elab.async false
set_option linter.all false
set_option maxRecDepth 100000
set_option maxHeartbeats 0
namespace M
open PySem PySem.W PySem.Calls PyProof.Rows PySem.HandSPX
/-! ## An own error whose __init__ says super().__init__(text); self.f = f -/
def exB (f msg : Str) (j : Nat) (a1 a2 a3 a4 a5 a6 b1 b2 b3 b4 : Pos) : List Stmt :=
  [.Expr (.Call (.Attribute (.Call (.Name "super" a1) [] [] a2) "__init__" a3) [.Constant (.str msg) j a4] [] a5) a6, .Assign [.Attribute (.Name "self" b1) f b2] (.Name f b3) b4]
structure XCls (K : Frag) (c : Str) (C : Addr) : Prop where
  cls : ∃ nm q N bs bm sn sub ab col dd k0 k1 k2 k3 k5, K.lookup C = some (excClassObj nm q C N bs bm true sn sub ab col dd k0 k1 k2 k3 k5 "ValueError.__new__") ∧ refsVE bm = true
  kC : keepIn K (.ref C) = true
  exC : subIn K (.ref C) (.type "BaseException") = some true
  tyC : typeIn K (.ref C) = some (.type "type")
structure XTxt (K : Frag) (P : Program) (mg : Str → Option Value) (c f msg qual : Str) (params : Arguments) (body : List Stmt) (scope : Scope) (C fI cda cc : Addr) (fd : FuncData) : Prop where
  xc : XCls K c C
  sa : findIn K (.ref C) "__setattr__" = some (some (.builtin "object.__setattr__"))
  noN : findIn K (.ref C) f = some none
  iC : findIn K (.ref C) "__init__" = some (some (.ref fI))
  tC : typeIn K (.ref fI) = some (.type "function")
  sup : ks_superIn K C C "__init__" = some (some (.builtin "ValueError.__init__"))
  isV : subIn K (.ref C) (.type "ValueError") = some true
  me : mroIn K C (.ref C) = some true
  ga : findIn K (.ref C) "__getattribute__" = some (some (.builtin "BaseException.__getattribute__"))
  gg : findIn K (.ref C) "__getattr__" = some none
  hdC : hasDictIn K C = true
  fn : FunC K P mg "__init__" qual params body scope "self" C fI fd cda cc
/-- what a def's text says of its names -/
structure XScope (f : Str) (params : Arguments) (scope : Scope) : Prop where
  kind : scope.kind = .function
  co : scope.isCoroutine = false
  gen : scope.isGenerator = false
  nc : ∀ y ∈ scope.names, y.2 ≠ .cell
  sl : scope.names.lookup ("self" : Str) = some .local
  fl : scope.names.lookup f = some .local
  su : scope.names.lookup ("super" : Str) = some .globalImplicit
  cl : scope.names.lookup ("__class__" : Str) = some .free
  ne : f ≠ "self"
  nd : (f == ("__debug__" : Str)) = false
/-- what __init__ leaves of a fresh exception at x -/
structure InitEnd (h h' : Heap) (x C dx t1 : Addr) (f : Str) (v : Value) : Prop where
  keep : ∀ b o, b ≠ x → h.get? b = some o → h'.get? b = some o
  obj : h'.get? x = some { cls := .ref C, dict := some dx, data := .fields #[.ref t1, .none, .none, .none, .bool false, .none] }
  dbig : h.objs.size ≤ dx
  dne : dx ≠ x
  ns : h'.Ns1 dx (fun y => if y = f then some v else none)
structure OwnMade (h h' : Heap) (e C d : Addr) (f : Str) (v : Value) : Prop where
  keep : ∀ b o, h.get? b = some o → h'.get? b = some o
  new : h.objs.size ≤ e
  obj : ∃ oe vs, h'.get? e = some oe ∧ oe.cls = .ref C ∧ oe.dict = some d ∧ oe.data = .fields vs ∧ vs[1]? = some .none
  dbig : h.objs.size ≤ d
  dne : d ≠ e
  ns : h'.Ns1 d (fun y => if y = f then some v else none)
theorem quiet_fn {env : Env} (h : env.scope.kind = .function) : interactive env = false := by
  unfold interactive
  rw [h]
  rfl
theorem one_size (v : Value) : [v].length ≤ sizeLine := by
  rw [sizeLine_eq]
  exact (by decide : 1 ≤ 16777216)
theorem ldE {Mo : Model} {A : Around} {E : Value → Shared → Prop} {s : Shared} {env : Env} {m : Str → Option Value} {x : Str} {pos : Pos} {v : Value} {Q : Value → Shared → Prop} (hk : env.scope.kind = .function) (hl : env.kindOf x = some .local) (hn : s.heap.Ns env.locals m) (hv : m x = some v) (hd : (x == ("__debug__" : Str)) = false) (h : Q v s) :
    wpAny Mo A (eval (.Name x pos) env) Q E s := wpAny_Name (wpAny_loadName_local hk hl hn hv h) hd
section
variable {prog : Program} {w : World} {A : Around} {R : Result → Shared → Prop} {s : Shared} {K : Frag} {mg mb : Str → Option Value} {C fI cda cc : Addr} {fd : FuncData} {c f msg qual : Str} {params : Arguments} {scope : Scope} {j : Nat} {a1 a2 a3 a4 a5 a6 b1 b2 b3 b4 : Pos}
/-- the bound ValueError.__init__ called on a fresh exception -/
theorem call_mw {E : Value → Shared → Prop} {u x t0 : Addr} {rest : List Value} {Q : Value → Shared → Prop} {nm q : Str} {N : Addr} {bs bm : List Value} {hdct : Bool} {sn : List Str} {sub : List Value} {ab : Bool} {col : Option Bool} {dd : Option Addr} {k0 k1 k2 k3 k5 : Option Value}
    (hC : s.heap.get? C = some (excClassObj nm q C N bs bm hdct sn sub ab col dd k0 k1 k2 k3 k5 "ValueError.__new__")) (he : s.heap.get? x = some (excO C t0)) (hu : s.heap.get? u = some (kxs_mw "ValueError.__init__" x)) (hz : rest.length ≤ sizeLine)
    (h : ∀ h' t1, (∀ b o, b ≠ x → s.heap.get? b = some o → h'.get? b = some o) → h'.get? x = some (excO C t1) → Q .none { s with heap := h' }) :
    wpAny (model prog w) A (call (.ref u) rest) Q E s := by
  obtain ⟨hh, g, d, tk, os⟩ := s
  refine wpAny_call (codeAny_of_tree ?_)
  show wpAny _ A.in1 (callAny (.ref u) ⟨rest, []⟩) _ _ _
  simp only [callAny]
  refine wpAny_bind (wpAny_load hu ?_)
  simp only [kxs_mw, show (Value.type "method-wrapper" == Value.type "method" || Value.type "method-wrapper" == Value.type "builtin_function_or_method" || Value.type "method-wrapper" == Value.type "method-wrapper") = true by decide, if_true]
  refine KFB.if_so (by decide) ?_
  refine wpAny_bind (check_bound_init F.excBase_ValueError.toExcCallFacts hC he rfl ?_)
  refine wpAny_bind (wpAny_pure (wpAny_pure ?_))
  refine ⟨plainId_quiet F.excBase_ValueError.init.plain _, codeAny_builtin F.excBase_ValueError.initEntry ?_⟩
  exact exc_init_tree (cls := .ref C) (t0 := t0) (dv := none) (c2 := .none) (c3 := .none) (b4 := .bool false) he hz fun h' k e' t' => h h' _ k e'
theorem ex_init (T : XTxt K prog mg c f msg qual params (exB f msg j a1 a2 a3 a4 a5 a6 b1 b2 b3 b4) scope C fI cda cc fd) (S : XScope f params scope) {pl : Sem Bool} (hev : ∀ env : Env, eval (.Call (.Attribute (.Call (.Name "super" a1) [] [] a2) "__init__" a3) [.Constant (.str msg) j a4] [] a5) env = (do
      let ov ← attributeBase (.Call (.Name "super" a1) [] [] a2) "__init__" env (eval (.Call (.Name "super" a1) [] [] a2) env)
      standAt a3.atName
      let (f, first) ← holding [ov] (getMethod ov "__init__" pl)
      callWith a5 f first (backTo a5 (starEach [.Constant (.str msg) j a4] env)) [])) (hbind : ∀ (s : Shared) (u v kV doc pm ct : Value) (an : Option Addr), BindsTo s (fnX "__init__" qual params (exB f msg j a1 a2 a3 a4 a5 a6 b1 b2 b3 b4) scope [("__class__", cc)] .none kV doc pm an (.ref cda) ct) ⟨[u, v], []⟩ [("self", u), (f, v)])
    {x t0 : Addr} {v : Value} (X : K.In s.heap) (hg : s.heap.Ns mainGlobals mg) (hb : s.heap.Ns builtinsNs mb) (hbb : ∀ x : Str, x ≠ "__name__" → mb x = bootBuiltins x) (hlim : s.heap.NoLimit) (hx : s.heap.get? x = some (excO C t0)) (hnx : K.lookup x = none) (hroom : A.depth < recursionLimit)
    (hq : ∀ h' tk dx t1, InitEnd s.heap h' x C dx t1 f v → R (.ok (.ret .none)) { s with heap := h', toks := tk }) :
    codeAny (model prog w) A (.call (.ref fI) ⟨[.ref x, v], []⟩) R s := by
  obtain ⟨oc, od, kV, doc, pm, an, ct, osl, rfl, lk, hcd⟩ := T.fn.ex
  obtain ⟨nm, q, N, bs, bm, sn, sub, ab, col, dd, k0, k1, k2, k3, k5, hC, hbm⟩ := T.xc.cls
  have hcl : clsIn K C = some { name := nm, bases := bs, mro := .ref C :: bm, ns := N, qualname := q, hasDict := true, slotNames := sn, subclasses := sub, abstract := ab, collection := col, hasDel := false } := by unfold clsIn; rw [hC] <;> rfl
  have SK := T.fn.sup
  obtain ⟨foc, fod, fd0, fosl, ar, hf, hp, har⟩ := SK.fn
  obtain ⟨ccl, cdd, vs0, ccs, file, tf, hcode, hvs, hfile⟩ := SK.code
  obtain ⟨cl, cld, csl, hcell⟩ := SK.cell
  refine codeAny_call_function hroom (X _ _ lk) rfl S.co S.gen rfl (codeRec_of X hcd) (hbind _ _ _ _ _ _ _ _ _ _ _ _ ?_)
  refine wpAny_newFunctionEnv S.nc (fun y hy => ?_) (fun h₁ hns hsb => ?_) S.kind
  · rcases List.mem_cons.mp hy with rfl | hy
    · exact S.sl
    · simp at hy; subst hy; exact S.fl
  have k : ∀ b o, s.heap.get? b = some o → h₁.get? b = some o := fun b o e => hsb.extBut b o (Nat.ne_of_lt (Heap.lt_size e)) (Heap.get?_push_of_some _ e)
  refine ⟨hlim.keeps k, ks_codeAny_funcAt ?_⟩
  have hself : ([(("self" : Str), Value.ref x), (f, v)].reverse.lookup ("self" : Str)) = some (Value.ref x) := by
    have e1 : (("self" : Str) == f) = false := by simpa using (Ne.symm S.ne)
    show List.lookup ("self" : Str) [(f, v), (("self" : Str), Value.ref x)] = _
    rw [List.lookup_cons, e1]
    rfl
  have hfv : ([(("self" : Str), Value.ref x), (f, v)].reverse.lookup f) = some v := by
    show List.lookup f [(f, v), (("self" : Str), Value.ref x)] = _
    rw [List.lookup_cons]
    simp
  have X₁ : K.In h₁ := X.keeps k
  have hx₁ := k _ _ hx
  have hxC : x ≠ C := by
    rintro rfl
    rw [hnx] at hC; cases hC
  -- super().__init__(text)
  refine ks_wpAt_execs_cons ?_
  refine ks_wpAt_Expr_any ?_ (quiet_fn S.kind) rfl
  refine ks_wpAt_MethodCall (pl := pl) ?_ (hev _)
  refine ks_wpAt_super_base (f := fI) (cc := cda) S.su S.cl (by decide) rfl (X₁ _ _ hf) rfl hp rfl (X₁ _ _ hcode) rfl hvs hfile SK.top ?_
  refine ks_loadName_global S.kind S.su (Calls.loadGlobal_builtin (hg.keeps k) SK.free (hb.keeps k) ((hbb _ (by decide)).trans bt_super) ⟨rfl, ?_⟩)
  refine wpAny_loadName_free S.kind S.cl rfl ⟨_, X₁ _ _ hcell, rfl⟩ ?_
  rw [har]
  refine wpAny_loadName_local S.kind S.sl hns hself ?_
  refine ks_wpAny_isType_cls (X₁ _ _ hC) rfl ⟨rfl, ?_⟩
  refine ks_wpAny_call_super (X₁ _ _ hC) rfl hx₁ rfl (fun c z => by cases z) (looks_mroIn X₁ T.me) fun h₂ e₂ k₂ => ?_
  have X₂ : K.In h₂ := X₁.keeps k₂
  have hx₂ := k₂ _ _ hx₁
  have hsup : alongIn K "__init__" (((Value.ref C :: bm).dropWhile (· != .ref C)).drop 1) = some (some (.builtin "ValueError.__init__")) := by
    have q := T.sup
    unfold ks_superIn at q
    rw [hcl] at q
    exact q
  have hI : Looks (model prog w) h₂ (isInstance (.ref x) (.type "ValueError")) true := (NwA.type_at hx₂ rfl).andThen (looks_subIn X₂ T.isV)
  refine kxs_getMethod kxs_ValueError e₂ (looks_opaque X₂ SK.opq) (l₀ := .ref C :: bm) (fun A Q E s k q => wpAny_bind ((looks_clsIn X₂ hcl) A _ E s k (wpAny_pure q))) rfl X₂ hsup hI hxC (by decide) ?_
  refine kxs_callWith (i := "ValueError.__init__") (x := x) rfl (evalArgs_plain ?_)
  refine spliced_more (Calls.Constant_str (spliced_none ?_))
  refine ⟨Heap.get?_push_size _ rfl, ?_⟩
  have k₃ : ∀ b o, h₂.get? b = some o → (h₂.push (kxs_mw "ValueError.__init__" x)).get? b = some o := fun b o e => Heap.get?_push_of_some _ e
  refine call_mw (k₃ _ _ (X₂ _ _ hC)) (k₃ _ _ hx₂) (Heap.get?_push_size _ rfl) (one_size _) fun h₄ t1 k₄ hx₄ => ?_
  -- self.f = f
  have kk : ∀ b o, b ≠ x → h₁.get? b = some o → h₄.get? b = some o := fun b o hb e => k₄ b o hb (k₃ _ _ (k₂ _ _ e))
  have X₄ : K.In h₄ := fun a o e => kk a o (fun z => by rw [z, hnx] at e; cases e) (X₁ a o e)
  have hxL : s.heap.objs.size ≠ x := Nat.ne_of_gt (Heap.lt_size hx)
  have hns₄ : h₄.Ns s.heap.objs.size (fun y => [(("self" : Str), Value.ref x), (f, v)].reverse.lookup y) := by
    obtain ⟨ob, es, ep, ho, r⟩ := hns
    exact ⟨ob, es, ep, kk _ _ hxL ho, r⟩
  refine _root_.PySem.wpAt_of_wpAny (wpAny_execs_cons (plainObj_wpAny_Assign_Attribute ?_ rfl))
  refine ldE S.kind S.fl hns₄ hfv S.nd (ldE S.kind S.sl hns₄ hself (by decide) ?_)
  refine set_plain X₄ (ox := excO C t1) (od := none) ⟨hx₄, rfl, rfl, trivial⟩ T.sa ?_
  refine exc_osa X₄ hx₄ hcl (show refsVE (.ref C :: bm) = true from hbm) rfl T.noN (fun h₅ tk₅ dx k₅ dn dne hx₅ hn₅ => ?_)
  show wpAny _ _ (execs _ _) _ _ _
  have z : s.heap.objs.size < h₄.objs.size := hns₄.lt
  exact wpAny_execs_nil (hq h₅ tk₅ dx t1 ⟨fun b o hb e => k₅ b o hb (kk b o hb (k b o e)), hx₅, Nat.le_of_lt (Nat.lt_of_lt_of_le z dn), dne, hn₅⟩)
end
end M

end
section
set_option Elab.async false
set_option linter.all false
set_option maxRecDepth 100000
set_option maxHeartbeats 0
namespace M
section
open PySem PySem.W PySem.Calls PyProof.Rows PySem.HandSPX
variable {prog : Program} {w : World} {A : Around} {R : Result → Shared → Prop} {s : Shared} {K : Frag} {mg mb : Str → Option Value} {C fI cda cc : Addr} {fd : FuncData} {c f msg qual : Str} {params : Arguments} {scope : Scope} {j : Nat} {a1 a2 a3 a4 a5 a6 b1 b2 b3 b4 : Pos}
/-- C(v) -/
theorem ex_made (T : XTxt K prog mg c f msg qual params (exB f msg j a1 a2 a3 a4 a5 a6 b1 b2 b3 b4) scope C fI cda cc fd) (S : XScope f params scope) {pl : Sem Bool} (hev : ∀ env : Env, eval (.Call (.Attribute (.Call (.Name "super" a1) [] [] a2) "__init__" a3) [.Constant (.str msg) j a4] [] a5) env = (do
      let ov ← attributeBase (.Call (.Name "super" a1) [] [] a2) "__init__" env (eval (.Call (.Name "super" a1) [] [] a2) env)
      standAt a3.atName
      let (f, first) ← holding [ov] (getMethod ov "__init__" pl)
      callWith a5 f first (backTo a5 (starEach [.Constant (.str msg) j a4] env)) []))
    (hbind : ∀ (s : Shared) (u v kV doc pm ct : Value) (an : Option Addr), BindsTo s (fnX "__init__" qual params (exB f msg j a1 a2 a3 a4 a5 a6 b1 b2 b3 b4) scope [("__class__", cc)] .none kV doc pm an (.ref cda) ct) ⟨[u, v], []⟩ [("self", u), (f, v)])
    {v : Value} (X : K.In s.heap) (hg : s.heap.Ns mainGlobals mg) (hb : s.heap.Ns builtinsNs mb) (hbb : ∀ x : Str, x ≠ "__name__" → mb x = bootBuiltins x) (hlim : s.heap.NoLimit) (hroom : A.depth + 1 < recursionLimit)
    (hq : ∀ h' tk e d, OwnMade s.heap h' e C d f v → R (.ok (.ret (.ref e))) { s with heap := h', toks := tk }) :
    codeAny (model prog w) A (.call (.ref C) ⟨[v], []⟩) R s := by
  obtain ⟨nm, q, N, bs, bm, sn, sub, ab, col, dd, k0, k1, k2, k3, k5, hC, hbm⟩ := T.xc.cls
  obtain ⟨hp, g, dr, tk, os⟩ := s
  have k : ∀ b o, hp.get? b = some o → ((hp.push (kdv_tup [v])).push (excO C hp.objs.size)).get? b = some o := fun b o e => Heap.get?_push_of_some _ (Heap.get?_push_of_some _ e)
  have hget : ((hp.push (kdv_tup [v])).push (excO C hp.objs.size)).get? (hp.objs.size + 1) = some (excO C hp.objs.size) := by heap_get
  have hnx : K.lookup (hp.objs.size + 1) = none := by
    cases e : K.lookup (hp.objs.size + 1) with
    | none => rfl
    | some o =>
      have z : hp.get? (hp.objs.size + 1) = some o := X _ _ e
      exact absurd (Nat.lt_of_succ_lt (Heap.lt_size z)) (Nat.lt_irrefl _)
  refine call_own F.excBase_ValueError (fun X => refsVE_contains X bm hbm) (X _ _ hC) (looks_findIn X T.iC) (fun self => bind_fn X self T.tC) (one_size v) ?_
  refine ex_init (s := ⟨(hp.push (kdv_tup [v])).push (excO C hp.objs.size), g, dr, tk, os⟩) T S hev hbind (X.keeps k) (hg.keeps k) (hb.keeps k) hbb (hlim.keeps k) hget hnx ?_ fun h' tk' dx t1 ⟨k', hx, dn, dne, hns⟩ => ?_
  · show A.depth + 1 < recursionLimit
    exact hroom
  · have old : ∀ b o, hp.get? b = some o → h'.get? b = some o := fun b o e => k' b o (Nat.ne_of_lt (Nat.lt_succ_of_lt (Heap.lt_size e))) (k b o e)
    have z : hp.objs.size + 1 + 1 ≤ dx := by
      first
        | (simpa only [Heap.size_push] using dn)
        | exact dn
        | (have q := dn; rw [Heap.size_push, Heap.size_push] at q; exact q)
    exact ⟨rfl, hq h' tk' (hp.objs.size + 1) dx ⟨old, Nat.le_succ _, ⟨_, _, hx, rfl, rfl, rfl, rfl⟩, Nat.le_trans (Nat.le_trans (Nat.le_succ _) (Nat.le_succ _)) z, dne, hns⟩⟩
end
open PySem PySem.Spec PyProof.Rows L2
/-- what is known of an error's class with one field -/
structure XOk (P : Program) (K : PySem.W.Frag) (mg : Str → Option Value) (x c f : Str) : Prop where
  ex : ∃ (msg qual : Str) (params : Arguments) (scope : Scope) (fI cda cc : Addr) (fd : FuncData) (j : Nat) (a1 a2 a3 a4 a5 a6 b1 b2 b3 b4 : Pos) (pl : Sem Bool), XTxt K P mg c f msg qual params (exB f msg j a1 a2 a3 a4 a5 a6 b1 b2 b3 b4) scope (He.ga K c) fI cda cc fd ∧ XScope f params scope ∧
    (∀ env : Env, eval (.Call (.Attribute (.Call (.Name "super" a1) [] [] a2) "__init__" a3) [.Constant (.str msg) j a4] [] a5) env = (do
      let ov ← attributeBase (.Call (.Name "super" a1) [] [] a2) "__init__" env (eval (.Call (.Name "super" a1) [] [] a2) env)
      standAt a3.atName
      let (f, first) ← holding [ov] (getMethod ov "__init__" pl)
      callWith a5 f first (backTo a5 (starEach [.Constant (.str msg) j a4] env)) [])) ∧
    (∀ (s : Shared) (u v kV doc pm ct : Value) (an : Option Addr), BindsTo s (PySem.W.fnX "__init__" qual params (exB f msg j a1 a2 a3 a4 a5 a6 b1 b2 b3 b4) scope [("__class__", cc)] .none kV doc pm an (.ref cda) ct) ⟨[u, v], []⟩ [("self", u), (f, v)])
  gC : mg x = some (.ref (He.ga K c))
theorem relO_one {v : V} {v' : Value} {n : Str} (r : RelV v v') (f : Str) : RelO (List.lookup f [(n, v)]) (if f = n then some v' else none) := by
  by_cases hw : f = n
  · subst hw
    rw [if_pos rfl]
    have q : List.lookup f [(f, v)] = some v := by simp [List.lookup]
    rw [q]
    exact r
  · rw [if_neg hw]
    have qw : (f == n) = false := by simpa using hw
    have q2 : List.lookup f [(n, v)] = none := by simp [List.lookup, qw]
    rw [q2]
    trivial
def tMkX (C : Addr) (n : Str) (ta : TA) : L2.St → Hp → XK → Prop := fun σ H Q => ta σ H fun vs H1 => ∃ v, vs = [v] ∧ ∀ d, H1 d = none → Q (.ref C) (some d) (upd H1 d (.xd [(n, v)]))
def dRaise (c f : Str) (g : DA) : DS := fun η st => (g η st).bind fun a => match toPs a.2 a.1 with
  | some ([p], st') => .exc c (some [(f, p)]) η st'
  | _ => .stuck
section
variable {X : Cx} {W : WX} {x c n : Str} {a : Expr} {p pos pos2 : Pos} {k : Nat} {g : DA}
theorem pmk_x {ta : TA} (T : XOk X.prog X.K X.mg x c n) (hr : Room k X.A) (ha : PA X [a] ta) (hg : Gl X x) (hdb : (x == ("__debug__" : Str)) = false := by decide)
    (he : starEach (a :: []) X.env = (false, eval a X.env) :: starEach [] X.env := by rfl) (hpl : (backTo pos (starEach [] X.env)).any (·.1) = false := by rfl) :
    PMk X (.Call (.Name x p) [a] [] pos) (tMkX (He.ga X.K c) n ta) := by
  intro pins s σ H Q I h
  obtain ⟨msg, qual, params, scope, fI, cda, cc, fd, j, a1, a2, a3, a4, a5, a6, b1, b2, b3, b4, pl, XT, XS, hev, hbind⟩ := T.ex
  refine wpAny_Call_Name_kw (ld_glob I hg T.gC ?_ hdb)
  refine PySem.W.callWith_K (h₀ := X.base) I.ok.mod.kin XT.xc.kC (thn (ha.run pos pins s σ H _ I h) fun us s1 hh => ?_) he hpl
  obtain ⟨vs, H1, I1, r1, v, ev, q1⟩ := hh
  subst ev
  refine ⟨I1.kIn, ?_⟩
  cases r1 with
  | cons rv rn =>
    rename_i v' us'
    cases rn
    show wpAny _ _ (call (.ref (He.ga X.K c)) [v']) _ _ _
    have hlim := I1.nolimit
    obtain ⟨mb, hb1, hb2⟩ := I1.mod.blt
    have hgl := I1.mod.glob.keeps I1.bk
    have hbl := hb1.keeps I1.bk
    obtain ⟨hp, gs, dr, tk, os⟩ := s1
    refine wpAny_call (ex_made XT XS hev hbind I1.kIn hgl hbl hb2 hlim (by have := hr.dp; omega) fun h' tk' e d M => ?_)
    show MkP X pins σ Q (.ref e) ⟨h', gs, dr, tk', os⟩
    obtain ⟨oe, fv, hoe, hc, hd, hdat, h1⟩ := M.obj
    have hns := M.ns
    obtain ⟨G', g1, g2⟩ := restrict h' fun b => decide (b ≠ e)
    have gk : ∀ b, b ≠ e → G'.get? b = h'.get? b := fun b hb => g1 b (decide_eq_true hb)
    have ge : G'.get? e = none := g2 e (by simp)
    have old : ∀ b o, hp.get? b = some o → G'.get? b = some o := fun b o q => (gk b (Nat.ne_of_lt (Nat.lt_of_lt_of_le (Heap.lt_size q) M.new))).trans (M.keep b o q)
    have ob : ObjOk X.prog X.w (upd H1 d (.xd [(n, v)])) G' d (.xd [(n, v)]) := ⟨_, hns.at (fun o q => (gk d M.dne).trans q), fun f => relO_one rv f⟩
    have J : Inv X pins σ (upd H1 d (.xd [(n, v)])) ⟨G', gs, dr, tk', os⟩ := I1.laid (t' := tk') old M.dbig ob
    refine ⟨e, oe, fv, ⟨G', gs, dr, tk', os⟩, _, .ref (He.ga X.K c), some d, rfl, J, fun b o q => ?_, ge, hoe, ⟨hc, hd⟩, hdat, h1, ?_, rfl, I1.bare, raises_own XT.xc.exC XT.xc.tyC, q1 d (I1.hok.fresh M.dbig)⟩
    · by_cases hb : b = e
      · have q' : G'.get? b = some o := q
        rw [hb, ge] at q'; cases q'
      · exact (gk b hb).symm.trans q
    · rw [upd_ne (Ne.symm M.dne)]
      exact I1.hok.fresh M.new
/-- raise C(e) -/
theorem ds_raise (hc : X.calm = true) (T : XOk X.prog X.K X.mg x c n) (hr : Room k X.A) (tk : Takes X W) (ha : PA X [a] (tA X.K W g)) (hg : Gl X x) (hdb : (x == ("__debug__" : Str)) = false := by decide)
    (he : starEach (a :: []) X.env = (false, eval a X.env) :: starEach [] X.env := by rfl) (hpl : (backTo pos (starEach [] X.env)).any (·.1) = false := by rfl) :
    PS X (.Raise (some (.Call (.Name x p) [a] [] pos)) none pos2) (tS X.K W (dRaise c n g)) := by
  refine (ps_raise hc tk (pmk_x T hr ha hg hdb he hpl)).to fun E σ H h => ?_
  obtain ⟨Z, φ, η, st, rs, sl, af⟩ := h
  refine ⟨Z, φ, η, st, rs, sl, af.bind.mono fun a Z' φ' H' t g' rs' vs r => ?_⟩
  split at g'
  · rename_i q st' e1
    obtain ⟨Z2, f2, rs2, q2⟩ := toPs_ok rs' e1 r
    rw [Reps] at q2
    obtain ⟨v, ws, rfl, h1, h2⟩ := q2
    rw [Reps] at h2
    subst h2
    refine ⟨v, rfl, fun d hd => ?_⟩
    obtain ⟨rs3, s3⟩ := rs2.more (o := .xd [(n, v)]) hd
    exact g' σ (upd H' d (.xd [(n, v)])) Z2 φ' (f2.step.trans s3) rs3 (((sl.mono t).mono f2.step).mono s3) d [(n, v)] upd_same (by rw [RepF]; exact ⟨v, [], rfl, h1, by rw [RepF]⟩)
  · exact g'.elim
end
end M

end
section
set_option Elab.async false
set_option linter.all false
set_option maxRecDepth 100000
set_option maxHeartbeats 0
namespace M
open PySem L2
/-! ## try: .. except C as e: .. -/
/-- the exception that the suite holds: at a, of the class c, with the fields fs; slot i is its name's -/
structure XF (K : PySem.W.Frag) (a : Addr) (cls : Value) (d : Option Addr) (i : Nat) (c : Str) (fs : Option (List (Str × P))) (Z : Hp) (σ : St) : Prop where
  sl : σ[i]? = some (some (.ref a))
  cl : cls = .ref (He.ga K c)
  fl : match fs with
    | none => True
    | some l => ∃ dx gs, d = some dx ∧ Z dx = some (.xd gs) ∧ RepF K Z l gs
  dd : d = none ∨ ∃ dx gs, d = some dx ∧ Z dx = some (.xd gs)
section
variable {K : PySem.W.Frag} {a : Addr} {cls : Value} {d : Option Addr} {i : Nat} {c : Str} {fs : Option (List (Str × P))} {Z Z' : Hp} {σ : St}
theorem XF.mono (h : XF K a cls d i c fs Z σ) (e : Same Z Z') : XF K a cls d i c fs Z' σ := by
  refine ⟨h.sl, h.cl, ?_, ?_⟩
  · cases fs with
    | none => trivial
    | some l =>
      obtain ⟨dx, gs, h1, h2, h3⟩ := h.fl
      exact ⟨dx, gs, h1, e _ _ h2, RepF.mono e _ _ h3⟩
  · rcases h.dd with h | ⟨dx, gs, h1, h2⟩
    · exact .inl h
    · exact .inr ⟨dx, gs, h1, e _ _ h2⟩
end
/-- an exception's dict is frozen -/
theorem RS.freezeX {K : PySem.W.Frag} {Z H : Hp} {φ : List Addr} {st : Sr} {dx : Addr} {gs : List (Str × V)} (h : RS K Z φ st H) (hd : H dx = some (.xd gs)) : ∃ Z', Same Z Z' ∧ Z' dx = some (.xd gs) ∧ RS K Z' φ st H ∧ Step Z φ H Z' φ H := by
  have ou : ∀ b o, H b = some o → Dat o → b ≠ dx := fun b o e D z => by
    rw [z, hd] at e; cases e; exact D.1 (.inr ⟨gs, rfl⟩)
  have sz : Same Z (upd Z dx (.xd gs)) := fun b o e => by
    by_cases q : b = dx
    · subst q; have := h.same _ _ e; rw [hd] at this; cases this; exact upd_same
    · rw [upd_ne q]; exact e
  refine ⟨upd Z dx (.xd gs), sz, upd_same, ⟨fun b o e => ?_, h.len, h.nd, fun j b c hj hc => ?_, h.tb, fun b ps z => ?_⟩, ⟨sz, ⟨[], by simp, by simp⟩, fun b o e _ _ => e, fun b hb => ?_, fun b hb => hb⟩⟩
  · by_cases q : b = dx
    · subst q; rw [upd_same] at e; cases e; exact hd
    · rw [upd_ne q] at e; exact h.same b o e
  · have rc := h.cells j b c hj hc
    obtain ⟨o, ho, hD⟩ := rc.at2
    have nb := ou b o ho hD
    exact rc.keep sz ⟨[], by simp⟩ (fun q => by rw [upd_ne nb]; exact rc.free q) fun u hu _ => hu
  · by_cases q : b = dx
    · subst q; rw [upd_same] at z; cases z
    · rw [upd_ne q] at z; exact h.zd b ps z
  · by_cases q : b = dx
    · subst q; exact .inr (.inl fun o ho => by rw [hd] at ho; cases ho; exact .inr ⟨gs, rfl⟩)
    · rw [upd_ne q] at hb; exact .inl hb
section
variable (K : PySem.W.Frag) (W : WX) (a : Addr) (cls : Value) (d : Option Addr) (i : Nat) (c : Str) (fs : Option (List (Str × P)))
def Rd4X {α : Type} (f : Et → Sr → R α) (σ : St) (H : Hp) (G : α → Hp → List Addr → Hp → Prop) : Prop := ∃ Z φ η st, RS K Z φ st H ∧ Slots K Z φ η σ ∧ XF K a cls d i c fs Z σ ∧ Af K W Z φ H (f η st) G
def tEX (f : DE) : TE := fun σ H Q => Rd4X K W a cls d i c fs f σ H (GE K Q)
def tAX (f : DA) : TA := fun σ H Q => Rd4X K W a cls d i c fs f σ H (GA K Q)
def GSX (E : Ends) : (Fl × Et × Sr) → Hp → List Addr → Hp → Prop := fun r Z' φ' H' => RS K Z' φ' r.2.2 H' → match r.1 with
  | .nx => ∀ σ', Slots K Z' φ' r.2.1 σ' → XF K a cls d i c fs Z' σ' → E.nx σ' H'
  | .bk => ∀ σ', Slots K Z' φ' r.2.1 σ' → E.bk σ' H'
  | .ct => ∀ σ', Slots K Z' φ' r.2.1 σ' → E.ct σ' H'
  | .rt x => ∀ v, RepD K Z' φ' x v → E.rt v H'
def tSX (f : DS) : TS := fun E σ H => Rd4X K W a cls d i c fs f σ H (GSX K a cls d i c fs E)
end
section
variable {X : Cx} {W : WX} {a : Addr} {cls : Value} {d : Option Addr} {i : Nat} {c : Str} {fs : Option (List (Str × P))} {e : Expr} {es : List Expr} {f : DE} {g : DA} {s1 s2 : DS} {st : Stmt} {rest : List Stmt} {pos : Pos}
theorem dex_of (h : PE X e (tE X.K W f)) : PE X e (tEX X.K W a cls d i c fs f) := h.to fun σ H Q ⟨Z, φ, η, st, rs, sl, _, af⟩ => ⟨Z, φ, η, st, rs, sl, af⟩
theorem dax_nil : PA X [] (tAX X.K W a cls d i c fs dNil) := pa_nil.to fun σ H Q ⟨Z, φ, η, st, rs, sl, _, af⟩ => af _ _ _ .refl rs [] rfl
theorem dax_cons (ha : PE X e (tEX X.K W a cls d i c fs f)) (hr : PA X es (tAX X.K W a cls d i c fs g)) (hs : starEach (e :: es) X.env = (false, eval e X.env) :: starEach es X.env := by rfl) : PA X (e :: es) (tAX X.K W a cls d i c fs (dCons f g)) := by
  refine (pa_cons ha hr hs).to fun σ H Q h => ?_
  obtain ⟨Z, φ, η, st, rs, sl, xf, af⟩ := h
  refine ⟨Z, φ, η, st, rs, sl, xf, af.bind.mono fun a Z' φ' H' t g' rs' v r => ?_⟩
  refine ⟨Z', φ', η, a.2, rs', sl.mono t, xf.mono t.hz, g'.bind.mono fun b Z2 φ2 H2 t2 g2 rs2 us r2 => ?_⟩
  exact g2 _ _ _ .refl rs2 _ ⟨v, us, rfl, r.mono t2.hz t2.app, r2⟩
theorem dex_tup {x1} (h : PA X es (tAX X.K W a cls d i c fs g)) : PE X (.Tuple es x1 pos) (tEX X.K W a cls d i c fs (dAp tupO g)) := by
  refine (pe_tup h).to fun σ H Q h => ?_
  obtain ⟨Z, φ, η, st, rs, sl, xf, af⟩ := h
  refine ⟨Z, φ, η, st, rs, sl, xf, af.bind.mono fun a Z' φ' H' t g' rs' vs r => ?_⟩
  unfold tupO at g'
  split at g'
  · rename_i ps st' e
    split at g'
    · rename_i hz
      obtain ⟨Z2, f2, rs2, q2⟩ := toPs_ok rs' e r
      refine ⟨by rw [← q2.length, ← szL_eq]; exact hz, fun p hp => ?_⟩
      exact (g'.later f2.step).newZ rs2 hp fun sz => by rw [Rep]; exact ⟨p, vs, rfl, .inl (.inl upd_same), q2.mono sz⟩
    · exact g'.elim
  · exact g'.elim
theorem dsx_set {j : Nat} {y : Str} {pos' : Pos} (hN : X.N.Nodup) (he : PE X e (tEX X.K W a cls d i c fs f)) (hij : j ≠ i := by decide) (hi : X.N[j]? = some y := by rfl) (hx : Loc X.env.scope y := by first | exact Or.inl rfl | exact Or.inr rfl) (hs : swapsWith e (some (.Name y pos')) pos.line X.env = pure false := by rfl) (hf : X.fn y = true ∨ X.env.scope.names.lookup y = some .local := by first | exact .inl rfl | exact .inr rfl | assumption) :
    PS X (.Assign [.Name y pos'] e pos) (tSX X.K W a cls d i c fs (dAsg f (gNm j))) := by
  refine (ps_set (i := j) hN hi hx he hs hf).to fun E σ H hh => ?_
  obtain ⟨Z, φ, η, st, rs, sl, xf, af⟩ := hh
  refine ⟨Z, φ, η, st, rs, sl, xf, af.bind.mono fun a Z' φ' H' t g' rs' v r => g' _ _ _ .refl rs' _ ((sl.mono t).set r) ?_⟩
  have x2 := xf.mono t.hz
  exact ⟨by rw [List.getElem?_set_ne hij]; exact x2.sl, x2.cl, x2.fl, x2.dd⟩
theorem dsx_ret (he : PE X e (tEX X.K W a cls d i c fs f)) : PS X (.Return (some e) pos) (tSX X.K W a cls d i c fs (dRet f)) := by
  refine (ps_ret he).to fun E σ H hh => ?_
  obtain ⟨Z, φ, η, st, rs, sl, xf, af⟩ := hh
  exact ⟨Z, φ, η, st, rs, sl, xf, af.bind.mono fun a Z' φ' H' t g' rs' v r => g' _ _ _ .refl rs' v r⟩
theorem dsx_one (h1 : PS X st (tSX X.K W a cls d i c fs s1)) : PSs X [st] (tSX X.K W a cls d i c fs s1) := pss_one h1
theorem dsx_cons (h1 : PS X st (tSX X.K W a cls d i c fs s1)) (h2 : PSs X rest (tSX X.K W a cls d i c fs s2)) : PSs X (st :: rest) (tSX X.K W a cls d i c fs (dSeq s1 s2)) := by
  refine (pss_cons h1 h2).to fun D σ H hh => ?_
  obtain ⟨Z, φ, η, st, rs, sl, xf, af⟩ := hh
  refine ⟨Z, φ, η, st, rs, sl, xf, af.bind.mono fun r Z' φ' H' t g' rs' => ?_⟩
  obtain ⟨fl, η1, st1⟩ := r
  cases fl with
  | nx => exact fun σ' sl' xf' => ⟨Z', φ', η1, st1, rs', sl', xf', g'⟩
  | rt d => exact g' _ _ _ .refl rs'
  | bk => exact g' _ _ _ .refl rs'
  | ct => exact g' _ _ _ .refl rs'
end
/-! ### what the suite reads of the exception -/
structure XAt (K : PySem.W.Frag) (C : Addr) : Prop where
  ga : PySem.W.findIn K (.ref C) "__getattribute__" = some (some (.builtin "BaseException.__getattribute__"))
  gg : PySem.W.findIn K (.ref C) "__getattr__" = some none
  exC : PySem.W.subIn K (.ref C) (.type "BaseException") = some true
  hdC : PySem.W.hasDictIn K C = true
  cla : PySem.W.findIn K (.ref C) "__class__" = some (some (.builtin "object.__class__"))
  top : PySem.W.mroIn K C (.type "object") = some true
structure XGl (K : PySem.W.Frag) : Prop where
  hn : PySem.W.specialIn K (.builtin "object.__class__") "__get__" = some (some (.builtin "getset_descriptor.__get__"))
  ht : PySem.W.takesIn K (.builtin "object.__class__") = some true
def dXf (cs : List Str) (f c : Str) (fs : Option (List (Str × P))) : DE := fun η st => if cs.contains c = true then match fs with
    | some l => match l.lookup f with
      | some p => .ok (.fz p, st)
      | none => .stuck
    | none => .stuck
  else .stuck
def dXi (tab : List (Str × Bool)) (c : Str) : DE := fun η st => match look1 c tab with
  | some b => .ok (.fz (.bl b), st)
  | none => .stuck
theorem RepF.look {K : PySem.W.Frag} {Z : Hp} {f : Str} {p : P} : ∀ {l : List (Str × P)} {gs : List (Str × V)}, RepF K Z l gs → l.lookup f = some p → ∃ v, gs.lookup f = some v ∧ Rep K Z p v
  | [], gs, h, e => by cases e
  | (k, q) :: r, gs, h, e => by
    rw [RepF] at h
    obtain ⟨v, ws, rfl, h1, h2⟩ := h
    rw [List.lookup_cons] at e ⊢
    cases z : f == k with
    | true => rw [z] at e; cases e; exact ⟨v, rfl, h1⟩
    | false => rw [z] at e; exact RepF.look h2 e
section
variable {X : Cx} {W : WX} {a : Addr} {cls : Value} {d : Option Addr} {i : Nat} {c : Str} {fs : Option (List (Str × P))} {oe : Obj} {pn : List (Addr × Obj)} {n f : Str} {pos p1 p2 p : Pos}
theorem dex_fld {cs : List Str} (hT : ∀ c, cs.contains c = true → XAt X.K (He.ga X.K c) ∧ PySem.W.findIn X.K (.ref (He.ga X.K c)) f = some none) (hz : Zc cls d oe) (hf : ∃ vs, oe.data = .fields vs) (hN : X.N[i]? = some n := by rfl) (hv : Vis X.env.scope n := by first | exact Or.inl rfl | exact Or.inr (Or.inl rfl))
    (hd : (n == ("__debug__" : Str)) = false := by decide) (hcd : (n == ("__classdict__" : Str)) = false := by decide) (hb : attributeBase (.Name n p1) f X.env (eval (.Name n p1) X.env) = eval (.Name n p1) X.env := by rfl) :
    PE (X.suite a ((a, oe) :: pn)) (.Attribute (.Name n p1) f pos) (tEX X.K W a cls d i c fs (dXf cs f c fs)) := by
  refine ⟨fun pins s σ H Q I h => ?_⟩
  obtain ⟨Z, φ, η, st, rs, sl, xf, af⟩ := h
  unfold dXf at af
  split at af
  · rename_i hc
    obtain ⟨T, noN⟩ := hT c hc
    split at af
    · rename_i l
      split at af
      · rename_i p0 el
        refine attr_of hb (thn ((pe_var (X := X.suite a ((a, oe) :: pn)) (pos := p1) (i := i) hN hv hd hcd).run pins s σ H (fun v H1 => v = .ref a ∧ H1 = H) I ⟨.ref a, xf.sl, rfl, rfl⟩) fun u s1 ⟨v, H1, I1, r1, e1, e2⟩ => ?_)
        subst e1 e2
        obtain rfl : u = Value.ref a := r1
        obtain ⟨dx, gs, rfl, hZ, hR⟩ := xf.fl
        have ea : H1 dx = some (.xd gs) := rs.same _ _ hZ
        have ecl := xf.cl
        subst ecl
        obtain ⟨ha, _⟩ := I1.pin (a, oe) (List.mem_append_left _ List.mem_cons_self)
        obtain ⟨vs, hd⟩ := hf
        obtain ⟨mA, hns, hr⟩ : ObjOk X.prog X.w H1 s1.heap dx (.xd gs) := I1.hok dx _ ea
        obtain ⟨od, ho, hl⟩ := lookIn_ns hns
        obtain ⟨v, hv1, hv2⟩ := hR.look el
        obtain ⟨u, hu, ru⟩ := RelO.some_of (v := v) (o := mA f) (by rw [← hv1]; exact hr f)
        have J : PySem.W.InstAt s1.heap a oe (He.ga X.K c) (some od) := ⟨ha, hz.1, by unfold PySem.W.notCls; rw [hd] <;> rfl, by rw [hz.2]; exact ho⟩
        exact HandSPX.exc_get I1.kIn J T.ga T.gg T.exC (PySem.W.findObj_own T.hdC noN rfl (by rw [hl, hu])) (handed_of ru) ⟨v, H1, I1.tok _, ru, af.here rs hv2⟩
      · exact af.elim
    · exact af.elim
  · exact af.elim
theorem dex_isi {tab : List (Str × Bool)} {T : Str} {cv : Value} {cV : V} (hG : XGl X.K) (hT : ∀ c b, (c, b) ∈ tab → XAt X.K (He.ga X.K c) ∧ PySem.W.kitOne X.K (.ref (He.ga X.K c)) cv = some b) (hz : Zc cls d oe) (hf : ∃ vs, oe.data = .fields vs) (hgi : Gl X "isinstance") (hmi : X.mg "isinstance" = none)
    (hcv : PE (X.suite a ((a, oe) :: pn)) (.Name T p2) (tC cV)) (rcv : ∀ u, RelV cV u → u = cv) (hN : X.N[i]? = some n := by rfl) (hv : Vis X.env.scope n := by first | exact Or.inl rfl | exact Or.inr (Or.inl rfl)) (hd : (n == ("__debug__" : Str)) = false := by decide) (hcd : (n == ("__classdict__" : Str)) = false := by decide)
    (hs1 : starEach [.Name n p1, .Name T p2] (X.suite a ((a, oe) :: pn)).env = (false, eval (.Name n p1) (X.suite a ((a, oe) :: pn)).env) :: starEach [.Name T p2] (X.suite a ((a, oe) :: pn)).env := by rfl) (hs2 : starEach [.Name T p2] (X.suite a ((a, oe) :: pn)).env = (false, eval (.Name T p2) (X.suite a ((a, oe) :: pn)).env) :: starEach [] (X.suite a ((a, oe) :: pn)).env := by rfl) :
    PE (X.suite a ((a, oe) :: pn)) (.Call (.Name "isinstance" p) [.Name n p1, .Name T p2] [] pos) (tEX X.K W a cls d i c fs (dXi tab c)) := by
  have hc : CallR (X.suite a ((a, oe) :: pn)) (.builtin "isinstance") (fun xs H Q => xs = [.ref a, cV] ∧ ∃ Z st φ η σ, RS X.K Z φ st H ∧ XF X.K a cls d i c fs Z σ ∧ Af X.K W Z φ H (dXi tab c η st) (GE X.K Q)) := by
    intro pins s σ0 H xs us Q I r ⟨ex, Z, st, φ, η, σ, rs, xf, af⟩
    subst ex
    cases r with
    | cons rx rr =>
      cases rr with
      | cons rt rr =>
        cases rr
        cases rx
        have ec := rcv _ rt
        subst ec
        unfold dXi at af
        split at af
        · rename_i b eb
          obtain ⟨T, hk⟩ := hT c b (look1_mem eb)
          obtain ⟨hget, _⟩ := I.pin (a, oe) (List.mem_append.mpr (.inl List.mem_cons_self))
          obtain ⟨vs, hv⟩ := hf
          have ecl := xf.cl
          have J : ∃ od, PySem.W.InstAt s.heap a oe (He.ga X.K c) od := by
            obtain ⟨oc, odd, oda, osl⟩ := oe
            obtain ⟨h1, h2⟩ := hz
            dsimp only at h1 h2 hv
            subst h1 hv
            rcases xf.dd with e | ⟨dx, gs, e, hZ⟩
            · rw [e] at h2; subst h2; exact ⟨none, hget, ecl, rfl, trivial⟩
            · rw [e] at h2; subst h2
              obtain ⟨mA, hns, hr⟩ : ObjOk X.prog X.w H s.heap dx (.xd gs) := I.hok dx _ (rs.same _ _ hZ)
              obtain ⟨od, ho, hl⟩ := lookIn_ns hns
              exact ⟨some od, hget, ecl, rfl, ho⟩
          obtain ⟨od, J⟩ := J
          have hcl : (PySem.W.clsIn X.K (He.ga X.K c)).isSome = true := by
            obtain ⟨cd, hc, _⟩ := PySem.W.any_some T.hdC
            rw [hc]; rfl
          exact PySem.W.kia_one (PySem.W.kitx_exc (ox := oe) (od := od) hcl T.ga T.gg T.exC T.cla hG.hn hG.ht T.top) I.kIn J hk (fun z => nomatch z) fun tk => ⟨.bl b, H, I.kept (t' := tk) fun _ _ z => z, rfl, af.here rs rep_bl⟩
        · exact af.elim
  have ha : PA (X.suite a ((a, oe) :: pn)) [.Name n p1, .Name T p2] (tCons (tVar i) (tCons (tC cV) tNil)) := pa_cons (pe_var (i := i) hN hv hd hcd) (pa_cons hcv pa_nil hs2) hs1
  refine (pe_callB (X := X.suite a ((a, oe) :: pn)) hc hgi hmi (by decide +kernel) ha (by decide) (by decide) hs1 (by rw [hs2]; rfl)).to fun σ H Q ⟨Z, φ, η, st, rs, sl, xf, af⟩ => ?_
  exact ⟨.ref a, xf.sl, rfl, Z, st, φ, η, σ, rs, xf, af⟩
end
theorem Slots.unset {K : PySem.W.Frag} {Z : Hp} {φ : List Addr} {η : Et} {σ : St} {i : Nat} {o : Option V} (h : Slots K Z φ η σ) : Slots K Z φ (η.set i none) (σ.set i o) := by
  refine ⟨by simp [h.len], fun j e hj => ?_⟩
  by_cases hi : i = j
  · subst hi
    by_cases hl : i < η.length
    · rw [List.getElem?_set_self hl] at hj; cases hj
    · rw [List.getElem?_eq_none (by simpa using hl)] at hj; cases hj
  · rw [List.getElem?_set_ne hi] at hj
    rw [List.getElem?_set_ne hi]
    exact h.at_ j e hj
/-- what the suite gives back -/
def fromSuite (i : Nat) : R (Fl × Et × Sr) → R (Fl × Et × Sr)
  | .ok (fl, η, st) => .ok (fl, η.set i none, st)
  | _ => .stuck
def dTryAs (tab : List (Str × Bool)) (i : Nat) (b : DS) (su : Str → Option (List (Str × P)) → DS) : DS := fun η st => match b η st with
  | .ok r => .ok r
  | .exc c fs η1 st1 => match look1 c tab with
    | some true => if i < η1.length then fromSuite i (su c fs (η1.set i none) st1) else .stuck
    | some false => .exc c fs η1 st1
    | none => .stuck
  | .stuck => .stuck
section
variable {X : Cx} {W : WX} {x n xc : Str} {i : Nat} {body suite : List Stmt} {b₀ : Stmt} {np pos pos' : Pos} {b : DS} {su : Str → Option (List (Str × P)) → DS} {tab : List (Str × Bool)}
theorem ds_tryAs (hN : X.N.Nodup) (tk : Takes X W) (hc : Names X x (.ref (He.ga X.K xc))) (hT : ∀ c b, (c, b) ∈ tab → PySem.W.exmOne X.K (.ref (He.ga X.K c)) (.ref (He.ga X.K xc)) = some b)
    (hb : ∀ (W' : WX) (pn : List (Addr × Obj)) (xe : Value → Shared → Prop), Takes (X.tr pn xe) W' → PassesOwn (model X.prog X.w) X.A X.env xe → PSs (X.tr pn xe) body (tS X.K W' b))
    (hsu : ∀ (a : Addr) (oe : Obj) (cls : Value) (d : Option Addr) (pn : List (Addr × Obj)) (c : Str) (fs : Option (List (Str × P))), Zc cls d oe → (∃ vs, oe.data = .fields vs) → PSs (X.suite a ((a, oe) :: pn)) (b₀ :: suite) (tSX X.K W0 a cls d i c fs (su c fs)))
    (hi : X.N[i]? = some n := by rfl) (hln : X.env.kindOf n = some .local := by rfl) (hs : X.stack = X.env :: X.outer := by rfl) (hf : X.env.frame = some X.env.locals := by rfl) :
    PS X (.Try body [.ExceptHandler (some (.Name x np)) (some n) (b₀ :: suite) pos'] [] [] pos) (tS X.K W (dTryAs tab i b su)) := by
  refine (ps_try_as (i := i) (tb := fun W' => tS X.K W' b) (ts := fun a cls d E σ H => ∃ c fs, tSX X.K W0 a cls d i c fs (su c fs) E σ H) (Wout := W) hs hf hN hi hln hc tk hb (fun a oe cls d pn hz hf => ⟨fun pins s σ H D I ⟨c, fs, h⟩ => (hsu a oe cls d pn c fs hz hf).run pins s σ H D I h⟩)).to fun E σ H h => ?_
  obtain ⟨Z, φ, η, st, rs, sl, af⟩ := h
  have hil : i < X.N.length := (List.getElem?_eq_some_iff.mp hi).1
  refine ⟨Z, φ, η, st, rs, sl, ?_⟩
  unfold dTryAs at af
  cases e : b η st with
  | ok r => rw [e] at af; exact af
  | stuck => rw [e] at af; exact af.elim
  | exc c fs η1 st1 =>
    rw [e] at af
    dsimp only at af
    have af0 := af
    cases el : look1 c tab with
    | none => rw [el] at af; exact af.elim
    | some bv =>
      rw [el] at af
      have hex := hT c bv (look1_mem el)
      cases bv with
      | false =>
        intro σ' H' Z' φ' t rs' sl'
        have q := af σ' H' Z' φ' t rs' sl'
        cases fs with
        | none => exact ⟨false, hex, fun z => Bool.noConfusion z, fun _ => q⟩
        | some l => exact fun dx gs h1 h2 => ⟨false, hex, fun z => Bool.noConfusion z, fun _ => q dx gs h1 h2⟩
      | true =>
        dsimp only at af
        split at af
        · rename_i hlen
          have main : ∀ (σ' : St) (H' Z' : Hp) (φ' : List Addr) (d : Option Addr) (a : Addr), Step Z φ H Z' φ' H' → RS X.K Z' φ' st1 H' → Slots X.K Z' φ' η1 σ' → XF X.K a (.ref (He.ga X.K c)) d i c fs Z' (σ'.set i (some (.ref a))) →
              ∃ c' fs', tSX X.K W0 a (.ref (He.ga X.K c)) d i c' fs' (su c' fs') { nx := fun σ' H' => E.nx (σ'.set i none) H', rt := E.rt, bk := fun σ' H' => E.bk (σ'.set i none) H', ct := fun σ' H' => E.ct (σ'.set i none) H' } (σ'.set i (some (.ref a))) H' := by
            intro σ' H' Z' φ' d a t rs' sl' xf
            refine ⟨c, fs, Z', φ', η1.set i none, st1, rs', sl'.unset, xf, ?_⟩
            have af1 := af.later t
            cases es : su c fs (η1.set i none) st1 with
            | ok r =>
              obtain ⟨fl, η2, st2⟩ := r
              rw [es] at af1
              intro Z2 φ2 H2 t2 rs2
              have g2 := af1 Z2 φ2 H2 t2 rs2
              cases fl with
              | nx => exact fun σ2 sl2 _ => g2 _ sl2.unset
              | bk => exact fun σ2 sl2 => g2 _ sl2.unset
              | ct => exact fun σ2 sl2 => g2 _ sl2.unset
              | rt x => exact g2
            | exc => rw [es] at af1; exact af1.elim
            | stuck => rw [es] at af1; exact af1.elim
          have at_ : ∀ (σ' : St) (a : Addr), η1.length = σ'.length → (σ'.set i (some (V.ref a)))[i]? = some (some (.ref a)) := fun σ' a hl => by
            rw [List.getElem?_set_self (by rw [← hl]; exact hlen)]
          intro σ' H' Z' φ' t rs' sl'
          cases fs with
          | none => exact ⟨true, hex, fun _ a ha => main σ' H' Z' φ' none a t rs' sl' ⟨at_ σ' a sl'.len, rfl, trivial, .inl rfl⟩, fun z => Bool.noConfusion z⟩
          | some l =>
            intro dx gs h1 h2
            obtain ⟨Z2, sz, hz2, rs2, t2⟩ := rs'.freezeX h1
            exact ⟨true, hex, fun _ a ha => main σ' H' Z2 φ' (some dx) a (t.trans t2) rs2 (sl'.mono t2) ⟨at_ σ' a sl'.len, rfl, ⟨dx, gs, rfl, hz2, RepF.mono sz _ _ h2⟩, .inr ⟨dx, gs, rfl, hz2⟩⟩, fun z => Bool.noConfusion z⟩
        · exact af.elim
end
end M

end
section
set_option Elab.async false
set_option linter.all false
set_option maxRecDepth 100000
set_option maxHeartbeats 0
namespace M
open PySem L2
/-! ## isinstance(e, T), T a built-in class -/
def tyP : P → Option String
  | .non => some "NoneType"
  | .bl _ => some "bool"
  | .int _ => some "int"
  | .str _ => some "str"
  | .tup _ => some "tuple"
  | .lst _ => some "list"
  | .rol _ => some "list"
  | .dct _ => some "dict"
  | .obj _ _ => none
def isiO (T : String) (d : D) (st : Sr) : R (D × Sr) := match (peek st d).bind tyP with
  | some t => match kitB t T with
    | some b => .ok (.fz (.bl b), st)
    | none => .stuck
  | none => .stuck
theorem sqT_ty {K : PySem.W.Frag} {H : Hp} {a : Addr} {xs : List V} (h : SqT K H a xs) : TyX K H (.ref a) (.type "tuple") := by
  rcases h with (h | ⟨o, h⟩) | ⟨o, its, n, e1, e2, _⟩
  · exact .base (.tup h)
  · exact .fTuple h
  · exact .kTuple e1 e2
theorem sqL_ty {K : PySem.W.Frag} {H : Hp} {a : Addr} {xs : List V} (h : SqL K H a xs) : TyX K H (.ref a) (.type "list") := by
  rcases h with (h | ⟨o, h⟩) | ⟨o, its, n, e1, e2, _⟩
  · exact .base (.lst h)
  · exact .base (.frz h)
  · exact .kList e1 e2
theorem pk_ty {K : PySem.W.Frag} {Z H : Hp} {p : P} {v : V} {t : String} (h : PkR K Z H p v) (e : tyP p = some t) : TyX K H v (.type t) := by
  cases p with
  | non => cases h; cases e; exact .base .non
  | bl b => cases h; cases e; exact .base (.bl b)
  | int b => cases h; cases e; exact .base (.int b)
  | str b => cases h; cases e; exact .base (.str b)
  | tup xs => obtain ⟨a, vs, rfl, h2, h3⟩ := h; cases e; exact sqT_ty h2
  | lst xs => obtain ⟨a, vs, rfl, h2, h3⟩ := h; cases e; exact sqL_ty (SqL.of h2)
  | rol xs => obtain ⟨a, vs, rfl, h2, h3⟩ := h; cases e; exact sqL_ty h2
  | dct xs => obtain ⟨a, vs, rfl, h2, h3⟩ := h; cases e; exact .base (.dK h2)
  | obj c xs => cases e
section
variable {X : Cx} {W : WX} {a b e o i value : Expr} {es : List Expr} {f g h : DE} {fs : DA} {pos pos' p p1 p2 : Pos}
/-- a built-in class as a value -/
theorem pe_ty {T : String} {x : Str} (hg : Gl X x) (hm : X.mg x = none) (hv : bootBuiltins x = some (.type T)) (hn : x ≠ "__name__" := by decide) (hd : (x == ("__debug__" : Str)) = false := by decide) : PE X (.Name x pos) (tC (.ty T)) :=
  ⟨fun _ _ _ H _ I h => ld_blt I hg hm hv ⟨.ty T, H, I, rfl, h⟩ hn hd⟩
theorem de_isi {T : String} {x : Str} (hgi : Gl X "isinstance") (hmi : X.mg "isinstance" = none) (hg : Gl X x) (hm : X.mg x = none) (hv : bootBuiltins x = some (.type T)) (ha : PE X e (tE X.K W f)) (hn : x ≠ "__name__" := by decide) (hd : (x == ("__debug__" : Str)) = false := by decide)
    (hs1 : starEach [e, .Name x p2] X.env = (false, eval e X.env) :: starEach [.Name x p2] X.env := by rfl) (hs2 : starEach [.Name x p2] X.env = (false, eval (.Name x p2) X.env) :: starEach [] X.env := by rfl) :
    PE X (.Call (.Name "isinstance" p) [e, .Name x p2] [] pos) (tE X.K W (dUn (isiO T) f)) := by
  refine (pe_callB call_isi hgi hmi (by decide +kernel) (pa_cons ha (pa_cons (pe_ty hg hm hv hn hd) pa_nil hs2) hs1) (by decide) (by decide) hs1 (by rw [hs2]; rfl)).to fun σ H Q hh => ?_
  obtain ⟨Z, φ, η, st, rs, sl, af⟩ := hh
  refine ⟨Z, φ, η, st, rs, sl, af.bind.mono fun a Z' φ' H' t g' rs' v r => ?_⟩
  unfold isiO at g'
  split at g'
  · rename_i ty e1
    split at g'
    · rename_i bb e2
      obtain ⟨q, e3, e4⟩ := Option.bind_eq_some_iff.mp e1
      exact ⟨v, .ty T, .type ty, .type T, bb, rfl, .ty T, pk_ty (peek_pk rs' e3 r) e4, kit_ty e2, g'.here rs' rep_bl⟩
    · exact g'.elim
  · exact g'.elim
/-! ## is True, is not True -/
def isBO (d e : D) (st : Sr) : R (D × Sr) := match d, e with
  | .fz (.bl x), .fz (.bl y) => .ok (.fz (.bl (decide (x = y))), st)
  | _, _ => .stuck
def notBO (d e : D) (st : Sr) : R (D × Sr) := match d, e with
  | .fz (.bl x), .fz (.bl y) => .ok (.fz (.bl (!decide (x = y))), st)
  | _, _ => .stuck
theorem o_isB : OpR X (compareOp .Is) (rM X.K W isBO) := by
  intro pins s σ H x y v u Q I rx ry ⟨d, e, Z, φ, st, rs, rd, re, af⟩
  unfold isBO at af
  split at af
  · obtain rfl := fz_bl rd
    obtain rfl := fz_bl re
    exact op_isBl pins s σ H _ _ v u Q I rx ry ⟨_, _, rfl, rfl, af.here rs rep_bl⟩
  · exact af.elim
theorem o_notB : OpR X (compareOp .IsNot) (rM X.K W notBO) := by
  intro pins s σ H x y v u Q I rx ry ⟨d, e, Z, φ, st, rs, rd, re, af⟩
  unfold notBO at af
  split at af
  · obtain rfl := fz_bl rd
    obtain rfl := fz_bl re
    exact op_notBl pins s σ H _ _ v u Q I rx ry ⟨_, _, rfl, rfl, af.here rs rep_bl⟩
  · exact af.elim
/-! ## in, not in -/
def flatP : P → Bool
  | .non => true
  | .bl _ => true
  | .int _ => true
  | .str _ => true
  | _ => false
def vP : P → V
  | .non => .non
  | .bl b => .bl b
  | .int i => .int i
  | .str s => .str s
  | _ => .non
theorem vP_rep {K : PySem.W.Frag} {Z : Hp} {p : P} {v : V} (h : Rep K Z p v) (f : flatP p = true) : v = vP p ∧ flatV v = true := by
  cases p with
  | non => rw [Rep] at h; subst h; exact ⟨rfl, rfl⟩
  | bl b => rw [Rep] at h; subst h; exact ⟨rfl, rfl⟩
  | int b => rw [Rep] at h; subst h; exact ⟨rfl, rfl⟩
  | str b => rw [Rep] at h; subst h; exact ⟨rfl, rfl⟩
  | _ => cases f
theorem vP_reps {K : PySem.W.Frag} {Z : Hp} : ∀ {ps : List P} {vs : List V}, Reps K Z ps vs → ps.all flatP = true → vs = ps.map vP ∧ vs.all flatV = true
  | [], vs, h, _ => by rw [Reps] at h; subst h; exact ⟨rfl, rfl⟩
  | p :: ps, vs, h, f => by
    rw [Reps] at h
    obtain ⟨v, ws, rfl, h1, h2⟩ := h
    rw [List.all_cons, Bool.and_eq_true] at f
    obtain ⟨a1, a2⟩ := vP_rep h1 f.1
    obtain ⟨b1, b2⟩ := vP_reps h2 f.2
    exact ⟨by rw [List.map_cons, a1, b1], by rw [List.all_cons, a2, b2]; rfl⟩
def keyP : P → Option Key
  | .int i => some (.inl i)
  | .str s => some (.inr s)
  | _ => none
theorem keyP_rep {K : PySem.W.Frag} {Z : Hp} {p : P} {v : V} {k : Key} (h : Rep K Z p v) (e : keyP p = some k) : v = kV k := by
  cases p with
  | int b => cases e; rw [Rep] at h; exact h
  | str b => cases e; rw [Rep] at h; exact h
  | _ => cases e
def hasK (k : Key) : List (Key × P) → Bool
  | [] => false
  | (j, _) :: r => decide (j = k) || hasK k r
def getK (k : Key) : List (Key × P) → Option P
  | [] => none
  | (j, p) :: r => if j = k then some p else getK k r
def putP (k : Key) (q : P) : List (Key × P) → List (Key × P)
  | [] => [(k, q)]
  | (j, p) :: r => if j = k then (j, q) :: r else (j, p) :: putP k q r
theorem hasK_ok {K : PySem.W.Frag} {Z : Hp} {k : Key} : ∀ {kvs : List (Key × P)} {kws : List (Key × V)}, RepK K Z kvs kws → (valV kws k).isSome = hasK k kvs
  | [], kws, h => by rw [RepK] at h; subst h; rfl
  | (j, p) :: r, kws, h => by
    rw [RepK] at h
    obtain ⟨v, ws, rfl, h1, h2⟩ := h
    unfold hasK
    by_cases e : j = k
    · rw [valV_pos (p := (j, v)) e]; simp [e]
    · have : valV ((j, v) :: ws) k = valV ws k := by unfold valV; rw [List.find?_cons]; simp [e]
      rw [this, hasK_ok h2]; simp [e]
theorem getK_ok {K : PySem.W.Frag} {Z : Hp} {k : Key} {q : P} : ∀ {kvs : List (Key × P)} {kws : List (Key × V)}, RepK K Z kvs kws → getK k kvs = some q → ∃ v, valV kws k = some v ∧ Rep K Z q v
  | [], kws, h, e => by cases e
  | (j, p) :: r, kws, h, e => by
    rw [RepK] at h
    obtain ⟨v, ws, rfl, h1, h2⟩ := h
    unfold getK at e
    split at e
    · rename_i ej; cases e; exact ⟨v, valV_pos (p := (j, v)) ej, h1⟩
    · rename_i ej
      have : valV ((j, v) :: ws) k = valV ws k := by unfold valV; rw [List.find?_cons]; simp [ej]
      rw [this]; exact getK_ok h2 e
/-- the keys are apart -/
def ndK : List (Key × P) → Bool
  | [] => true
  | (j, _) :: r => !hasK j r && ndK r
theorem hasK_any {K : PySem.W.Frag} {Z : Hp} {k : Key} {kvs : List (Key × P)} {kws : List (Key × V)} (h : RepK K Z kvs kws) : (kws.any fun kv => decide (kv.1 = k)) = hasK k kvs := by
  induction kvs generalizing kws with
  | nil => rw [RepK] at h; subst h; rfl
  | cons a r ih =>
    obtain ⟨j, p⟩ := a
    rw [RepK] at h
    obtain ⟨v, ws, rfl, h1, h2⟩ := h
    unfold hasK
    rw [List.any_cons, ih h2]
theorem noK_map {K : PySem.W.Frag} {Z : Hp} {k : Key} {w : V} {kvs : List (Key × P)} {kws : List (Key × V)} (h : RepK K Z kvs kws) (e : hasK k kvs = false) : kws.map (fun kv => if kv.1 = k then (kv.1, w) else kv) = kws := by
  induction kvs generalizing kws with
  | nil => rw [RepK] at h; subst h; rfl
  | cons a r ih =>
    obtain ⟨j, p⟩ := a
    rw [RepK] at h
    obtain ⟨v, ws, rfl, h1, h2⟩ := h
    unfold hasK at e
    rw [Bool.or_eq_false_iff, decide_eq_false_iff_not] at e
    rw [List.map_cons, ih h2 e.2, if_neg e.1]
theorem putP_ok {K : PySem.W.Frag} {Z : Hp} {k : Key} {q : P} {w : V} (hq : Rep K Z q w) : ∀ {kvs : List (Key × P)} {kws : List (Key × V)}, ndK kvs = true → RepK K Z kvs kws → RepK K Z (putP k q kvs) (putK kws k w)
  | [], kws, _, h => by rw [RepK] at h; subst h; show RepK K Z [(k, q)] [(k, w)]; rw [RepK]; exact ⟨w, [], rfl, hq, by rw [RepK]⟩
  | (j, p) :: r, kws, hn, h => by
    have h0 := h
    rw [RepK] at h
    obtain ⟨v, ws, rfl, h1, h2⟩ := h
    unfold ndK at hn
    rw [Bool.and_eq_true, Bool.not_eq_true'] at hn
    unfold putP
    unfold putK
    rw [hasK_any h0]
    unfold hasK
    by_cases e : j = k
    · subst e
      rw [if_pos rfl]
      simp only [decide_true, Bool.true_or, if_true, List.map_cons]
      rw [noK_map h2 hn.1, RepK]
      exact ⟨w, ws, rfl, hq, h2⟩
    · rw [if_neg e]
      have ih := putP_ok (k := k) hq hn.2 h2
      unfold putK at ih
      rw [hasK_any h2] at ih
      have ed : decide (j = k) = false := decide_eq_false e
      rw [ed, Bool.false_or]
      cases hk : hasK k r with
      | true =>
        rw [hk] at ih
        simp only [if_true, List.map_cons, if_neg e] at ih ⊢
        rw [RepK]; exact ⟨v, _, rfl, h1, ih⟩
      | false =>
        rw [hk] at ih
        simp only [Bool.false_eq_true, if_false] at ih ⊢
        rw [RepK]; exact ⟨v, _, rfl, h1, ih⟩
def inB (p q : P) : Option Bool := match q with
  | .lst xs => if flatP p = true ∧ xs.all flatP = true then some (inV (vP p) (xs.map vP)) else if shP p = true ∧ shP (.lst xs) = true then some (xs.any fun z => eqP z p) else none
  | .rol xs => if flatP p = true ∧ xs.all flatP = true then some (inV (vP p) (xs.map vP)) else none
  | .tup xs => if flatP p = true ∧ xs.all flatP = true then some (inV (vP p) (xs.map vP)) else none
  | .dct kvs => match keyP p with
    | some k => some (hasK k kvs)
    | none => none
  | _ => none
def inO (d e : D) (st : Sr) : R (D × Sr) := match peek st d, peek st e with
  | some p, some q => match inB p q with
    | some b => .ok (.fz (.bl b), st)
    | none => .stuck
  | _, _ => .stuck
def notInO (d e : D) (st : Sr) : R (D × Sr) := match peek st d, peek st e with
  | some p, some q => match inB p q with
    | some b => .ok (.fz (.bl (!b)), st)
    | none => .stuck
  | _, _ => .stuck
theorem toPys_any {p : P} : ∀ {xs : List P}, ((toPys xs).any fun z => PyData.eqv z (toPy p)) = xs.any fun z => eqP z p
  | [] => by unfold toPys; rfl
  | x :: r => by unfold toPys; rw [List.any_cons, List.any_cons, toPys_any]; rfl
theorem PkR.rp {K : PySem.W.Frag} {Z H : Hp} {p : P} {v : V} (s : Same Z H) (h : PkR K Z H p v) : Rep K H p v := h.rep s
theorem o_inG {op : CmpOp} {o : D → D → Sr → R (D × Sr)} {neg : Bool} (hu : X.A.units + 65 < cLine)
    (hop : ∀ (d e : D) (st : Sr), o d e st = match peek st d, peek st e with
      | some p, some q => match inB p q with
        | some b => .ok (.fz (.bl (if neg then !b else b)), st)
        | none => .stuck
      | _, _ => .stuck)
    (h1 : OpR X (compareOp op) (rIn X.K neg)) (h2 : OpR X (compareOp op) (fun x y H Q => ∃ d ds, Dp X.K H x d ∧ Dp X.K H y (.list ds) ∧ SeqAt.shaped d = true ∧ SeqAt.shaped (.list ds) = true ∧ Q (.bl (if neg then !(ds.any fun z => PyData.eqv z d) else ds.any fun z => PyData.eqv z d)) H))
    (h3 : ∀ (pins : List (Addr × Obj)) (s : Shared) (σ : St) (H : Hp) (a : Addr) (y : V) (u : Value) (r : Option V) (Q : VK), Inv X pins σ H s → DGet H a y r → RelV y u → Q (.bl (if neg then !r.isSome else r.isSome)) H → wpAny (model X.prog X.w) X.A (compareOp op u (.ref a)) (EP X pins σ Q) X.xe s) :
    OpR X (compareOp op) (rM X.K W o) := by
  intro pins s σ H x y v u Q I rx ry ⟨d, e, Z, φ, st, rs, rd, re, af⟩
  rw [hop] at af
  split at af
  · rename_i p q e1 e2
    split at af
    · rename_i bb e3
      have pd := peek_pk rs e1 rd
      have pe := peek_pk rs e2 re
      have fin := af.here rs (show RepD X.K Z φ (.fz (.bl (if neg then !bb else bb))) (.bl (if neg then !bb else bb)) from rep_bl)
      have flat : ∀ {xs : List P} {a : Addr} {vs : List V}, (SqL X.K H a vs ∨ SqT X.K H a vs) → Reps X.K Z xs vs → y = .ref a → flatP p = true ∧ xs.all flatP = true → bb = inV (vP p) (xs.map vP) → wpAny (model X.prog X.w) X.A (compareOp op v u) (EP X pins σ Q) X.xe s := by
        intro xs a vs hs hr hy hf hb
        subst hy
        obtain ⟨a1, a2⟩ := vP_rep (pd.rp rs.same) hf.1
        obtain ⟨b1, b2⟩ := vP_reps hr hf.2
        refine h1 pins s σ H _ _ v u Q I rx ry ⟨a, vs, rfl, hs, a2, b2, ?_⟩
        rw [a1, b1, ← hb]
        exact fin
      cases q with
      | lst xs =>
        obtain ⟨a, vs, hy, hh, hr⟩ := pe
        have e4 : (if flatP p = true ∧ xs.all flatP = true then some (inV (vP p) (xs.map vP)) else if shP p = true ∧ shP (.lst xs) = true then some (xs.any fun z => eqP z p) else none) = some bb := e3
        split at e4
        · rename_i hf; cases e4; exact flat (.inl (SqL.of hh)) hr hy hf rfl
        · split at e4
          · rename_i hf
            cases e4
            subst hy
            refine h2 pins s σ H _ _ v u Q I rx ry ⟨toPy p, toPys xs, Rep.dp _ _ (SeqAt.canLay_of_shaped hf.1) (pd.rp rs.same), ?_, hf.1, hf.2, ?_⟩
            · have := Rep.dp (.lst xs) (.ref a) (SeqAt.canLay_of_shaped hf.2) (by rw [Rep]; exact ⟨a, vs, rfl, hh, hr.mono rs.same⟩)
              exact this
            · rw [toPys_any]; exact fin
          · cases e4
      | rol xs =>
        obtain ⟨a, vs, hy, hh, hr⟩ := pe
        have e4 : (if flatP p = true ∧ xs.all flatP = true then some (inV (vP p) (xs.map vP)) else none) = some bb := e3
        split at e4
        · rename_i hf; cases e4; exact flat (.inl hh) hr hy hf rfl
        · cases e4
      | tup xs =>
        obtain ⟨a, vs, hy, hh, hr⟩ := pe
        have e4 : (if flatP p = true ∧ xs.all flatP = true then some (inV (vP p) (xs.map vP)) else none) = some bb := e3
        split at e4
        · rename_i hf; cases e4; exact flat (.inr hh) hr hy hf rfl
        · cases e4
      | dct kvs =>
        obtain ⟨a, kws, hy, hh, hr⟩ := pe
        have e4 : (match keyP p with | some k => some (hasK k kvs) | none => none) = some bb := e3
        split at e4
        · rename_i k ek
          cases e4
          subst hy
          have hx := keyP_rep (pd.rp rs.same) ek
          subst hx
          cases ry
          refine h3 pins s σ H a _ v _ Q I (DGet.k hh) rx ?_
          rw [hasK_ok hr]; exact fin
        · cases e4
      | _ => cases e3
    · exact af.elim
  · exact af.elim
theorem o_in (hu : X.A.units + 65 < cLine) : OpR X (compareOp .In) (rM X.K W inO) :=
  o_inG (neg := false) hu (fun _ _ _ => rfl) op_in_seq (op_inD hu) fun pins s σ H a y u r Q I g ry q => d_in (by omega) I g ry fun s' I' => ⟨.bl _, H, I', rfl, q⟩
theorem o_notIn (hu : X.A.units + 65 < cLine) : OpR X (compareOp .NotIn) (rM X.K W notInO) :=
  o_inG (neg := true) hu (fun _ _ _ => rfl) op_notIn_seq (op_notInD hu) fun pins s σ H a y u r Q I g ry q => d_notIn (by omega) I g ry fun s' I' => ⟨.bl _, H, I', rfl, q⟩
end
end M

end
section
set_option Elab.async false
set_option linter.all false
set_option maxRecDepth 100000
set_option maxHeartbeats 0
namespace M
open PySem L2
/-! ## Dicts -/
def dNewD : DE := fun _ st => .ok (.cell st.length, st ++ [.dct []])
/-- o[i] = value: the value, the dict, the key -/
def dPut (fv fo fi : DE) : DS := fun η st => (fv η st).bind fun v => (fo η v.2).bind fun o => (fi η o.2).bind fun i => match o.1 with
  | .cell n => match i.2[n]?, (peek i.2 i.1).bind keyP, toP i.2 v.1 with
    | some (.dct kvs), some k, some (q, st') => match st'[n]? with
      | some (.dct kvs') => if ndK kvs' = true ∧ kvs'.length < szL then .ok (.nx, η, st'.set n (.dct (putP k q kvs'))) else .stuck
      | _ => .stuck
    | _, _, _ => .stuck
  | _ => .stuck
def dIxO (d e : D) (st : Sr) : R (D × Sr) := match peek st d, peek st e with
  | some (.dct kvs), some p => match (keyP p).bind fun k => getK k kvs with
    | some q => .ok (.fz q, st)
    | none => .stuck
  | _, _ => .stuck
section
variable {X : Cx} {W : WX} {a b e o i value : Expr} {es : List Expr} {f g h : DE} {fs : DA} {pos pos' p p1 p2 : Pos}
theorem de_newD : PE X (.Dict [] [] pos) (tE X.K W dNewD) := pe_dnewK.to fun σ H Q ⟨Z, φ, η, st, rs, sl, af⟩ => fun q hq => af.cell rs hq fun hz => ⟨hz, [], upd_same, by rw [RepK]⟩
theorem ds_dput (hu : X.A.units + 1 < cLine) (hv : PE X value (tE X.K W f)) (ho : PE X o (tE X.K W g)) (hi : PE X i (tE X.K W h)) (hs : swapsWith value (some (.Subscript o i pos')) pos.line X.env = pure false := by rfl) : PS X (.Assign [.Subscript o i pos'] value pos) (tS X.K W (dPut f g h)) := by
  refine (ps_dput hu ho hi hv hs).to fun E σ H hh => ?_
  obtain ⟨Z, φ, η, st, rs, sl, af⟩ := hh
  refine ⟨Z, φ, η, st, rs, sl, af.bind.mono fun a Z' φ' H' t g' rs' v r => ?_⟩
  refine ⟨Z', φ', η, a.2, rs', sl.mono t, g'.bind.mono fun b Z2 φ2 H2 t2 g2 rs2 u r2 => ?_⟩
  refine ⟨Z2, φ2, η, b.2, rs2, (sl.mono t).mono t2, g2.bind.mono fun c Z3 φ3 H3 t3 g3 rs3 w r3 => ?_⟩
  have rv := (r.mono t2.hz t2.app).mono t3.hz t3.app
  have ro := r2.mono t3.hz t3.app
  split at g3
  · rename_i n en
    rw [en] at ro
    split at g3
    · rename_i kvs k q st' e1 e2 e3
      obtain ⟨Z4, f4, rs4, q4⟩ := toP_ok rs3 e3 rv
      have g4 := g3.later f4.step
      obtain ⟨ad, had, rfl⟩ := ro
      split at g4
      · rename_i kvs' e5
        split at g4
        · rename_i hz
          obtain ⟨ct, hct, rc⟩ := rs4.at_ had
          rw [e5] at hct; cases hct
          obtain ⟨hzn, kws, hH, hR⟩ := rc
          obtain ⟨pi, e6, e7⟩ := Option.bind_eq_some_iff.mp e2
          have hk := keyP_rep ((peek_pk rs3 e6 r3).rp rs3.same) e7
          subst hk
          refine ⟨ad, _, rfl, DPut.k hH (by rw [← hR.length, ← szL_eq]; exact hz.2), ?_⟩
          obtain ⟨rs5, t5⟩ := rs4.write (o := .dK (putK kws k v)) (c := .dct (putP k q kvs')) had hzn ⟨hzn, _, upd_same, putP_ok q4 hz.1 hR⟩
          exact g4 _ _ _ t5 rs5 σ (((((sl.mono t).mono t2).mono t3).mono f4.step).mono t5)
        · exact g4.elim
      · exact g4.elim
    · exact g3.elim
  · exact g3.elim
/-! ## list(range(e)) -/
def rgO (d : D) (st : Sr) : R (D × Sr) := match d with
  | .fz (.int n) => if 0 ≤ n ∧ n ≤ 16777216 then .ok (.cell st.length, st ++ [.lst (rangeP 0 n.toNat)]) else .stuck
  | _ => .stuck
theorem rg_reps {K : PySem.W.Frag} {Z : Hp} {n : Int} (h0 : 0 ≤ n) : Reps K Z (rangeP 0 n.toNat) (rgV 0 n) := by
  refine Reps.of_get (by rw [rangeP_len, rgV_length]; omega) fun j q v h1 h2 => ?_
  have hj : j < n.toNat := by
    have := (List.getElem?_eq_some_iff.mp h1).1
    rw [rangeP_len] at this; exact this
  rw [rangeP_get hj] at h1
  cases h1
  unfold rgV at h2
  rw [List.getElem?_map, List.getElem?_range (by omega)] at h2
  cases h2
  rw [Rep]
theorem de_listRg (hc : X.calm = true) (hg : Gl X "list") (hm : X.mg "list" = none) (hgr : Gl X "range") (hmr : X.mg "range" = none) (ha : PE X a (tE X.K W f)) (na : starEach [a] X.env = (false, eval a X.env) :: starEach [] X.env := by rfl)
    (nb : starEach [.Call (.Name "range" p1) [a] [] p2] X.env = (false, eval (.Call (.Name "range" p1) [a] [] p2) X.env) :: starEach [] X.env := by rfl) : PE X (.Call (.Name "list" p) [.Call (.Name "range" p1) [a] [] p2] [] pos) (tE X.K W (dUn rgO f)) := by
  refine (pe_listRg hc hg hm (prg_1 hgr hmr ha na) nb).to fun σ H Q hh => ?_
  obtain ⟨Z, φ, η, st, rs, sl, af⟩ := hh
  refine ⟨Z, φ, η, st, rs, sl, af.bind.mono fun a Z' φ' H' t g' rs' v r => ?_⟩
  unfold rgO at g'
  split at g'
  · rename_i n en
    rw [en] at r
    obtain rfl := fz_int r
    split at g'
    · rename_i hz
      exact ⟨n, rfl, RgOk.of_le (Int.le_refl _) hz.2 (by decide) hz.1, fun q hq => g'.lst rs' hq (rg_reps hz.1)⟩
    · exact g'.elim
  · exact g'.elim
/-! ## sorted(e), ints -/
def sortO (ds : List D) (st : Sr) : R (D × Sr) := match ds with
  | [d] => match ((peek st d).bind itemsP).bind intsP with
    | some is => .ok (.cell st.length, st ++ [.lst ((is.mergeSort fun i j => decide (i ≤ j)).map P.int)])
    | none => .stuck
  | _ => .stuck
end
section
open PyProof.Rows
variable {prog : Program} {w : World} {A : Around} {E : Value → Shared → Prop} {s : Shared}
theorem sorted_seq {l : Addr} {o : Obj} {its : List Value} {n : Nat} {T : String} {is : List Int} {Q : Value → Shared → Prop} (hT : T = "list" ∨ T = "tuple") (ho : s.heap.get? l = some o) (hc : o.cls = .type T) (hd : o.data = .seq its.toArray n) (e : Vals (is.map V.int) its) (hL : is.length ≤ sizeLine) (hu : A.units + 3 < cLine)
    (h : ∀ h' p out ep, (∀ b u, s.heap.get? b = some u → h'.get? b = some u) → s.heap.get? p = none → h'.get? p = some (seqObj "list" (List.toArray out) ep) → Vals ((is.mergeSort fun i j => decide (i ≤ j)).map V.int) out → Q (.ref p) { s with heap := h' }) :
    wpAny (model prog w) A (call (.builtin "sorted") [.ref l]) Q E s := by
  have hlen : its.length = is.length := by have := e.length; rw [List.length_map] at this; exact this.symm
  refine call_function_entry_kw (kw := []) kind_sorted plain_sorted entry_sorted (args_sorted1 _) ?_
  unfold Builtin.«sorted»
  refine wpAny_bind (m := checkCount "sorted" 1 1 _) (wpAny_pure ?_)
  refine wpAny_bind (wpAny_collect_seq l hT ho hc hd (fun h₁ k₁ => ?_) (by rw [List.size_toArray, hlen]; exact hL))
  have hnew : s.heap.get? h₁.objs.size = none := by
    cases q : s.heap.get? h₁.objs.size with
    | none => rfl
    | some u => exact absurd (Heap.lt_size (k₁ _ _ q)) (Nat.lt_irrefl _)
  refine wpAny_bind (wpAny_newList ?_ (by simpa [hlen] using hL))
  have ha : (h₁.push (seqObj "list" its.toArray 0)).get? h₁.objs.size = some (seqObj "list" its.toArray 0) := Heap.get?_push_size _ rfl
  refine wpAny_bind (wpAny_holding ?_)
  refine PySem.W.list_sort_data (β := Int) (R := fun v i => ∃ t, v = .int i t) (enc := fun i => .int i) (vs := its) (bs := is) (s := { s with heap := h₁.push (seqObj "list" its.toArray 0) }) ha (each_ints e) ?_ (PySem.W.AllAlike.of fun _ _ => by simp [PySem.W.alike]) (PySem.W.Sortable.others fun _ => ⟨by simp, by simp⟩) hL (fun i _ => ?_) fun out hlo eo => ?_
  · exact (each_ints e).mono fun v i ⟨t, ht⟩ => ⟨[], by rw [ht]; exact .int _ _, by simp⟩
  · have hd0 : (PyData.int i).depth = 0 := by simp [PyData.depth]
    show A.in1.units + 1 + (PyData.int i).depth < cLine
    rw [hd0]
    show A.units + 1 + 1 + 0 < cLine
    omega
  · rw [PySem.W.dataLe_int] at eo
    obtain ⟨ep, hat⟩ := sortedHeap_at (vs := its) (out := List.toArray out) ha
    refine wpAny_pure ⟨_, rfl, h _ h₁.objs.size out ep (fun b u hb => ?_) hnew hat (ints_each eo)⟩
    have hb1 := Heap.get?_push_of_some (seqObj "list" its.toArray 0) (k₁ _ _ hb)
    have hne : b ≠ h₁.objs.size := Nat.ne_of_lt (Heap.lt_size (k₁ _ _ hb))
    rw [sortedHeap_old hne (Heap.lt_size hb1)]
    exact hb1
end
section
variable {X : Cx} {W : WX}
theorem c_sorted (hu : X.A.units + 3 < cLine) : CallR X (.builtin "sorted") (rMA X.K W sortO) := by
  intro pins s σ H xs us Q I r ⟨ds, Z, φ, st, rs, rdd, af⟩
  unfold sortO at af
  split at af
  · obtain ⟨v, rfl, rd⟩ := rdd.one
    split at af
    · rename_i is e
      obtain ⟨ys, e1, e2⟩ := Option.bind_eq_some_iff.mp e
      obtain ⟨q, e3, e4⟩ := Option.bind_eq_some_iff.mp e1
      obtain ⟨a, vs, rfl, h2, h3⟩ := pk_items (peek_pk rs e3 rd) e4
      rw [intsP_eq e2] at h3
      have hv := reps_ints h3
      subst hv
      rw [Vals.ref1 r]
      have fin : ∀ (h' : Heap) (p : Addr) (out : List Value) (ep : Nat), (∀ b u, s.heap.get? b = some u → h'.get? b = some u) → s.heap.get? p = none → h'.get? p = some (PyProof.Rows.seqObj "list" (List.toArray out) ep) → Vals ((is.mergeSort fun i j => decide (i ≤ j)).map V.int) out → is.length ≤ sizeLine → EP X pins σ Q (.ref p) { s with heap := h' } := by
        intro h' p out ep k hn hat hv hz
        have hp : H p = none := I.hok.gone hn
        refine ⟨.ref p, _, I.laidN (o := .lst ((is.mergeSort fun i j => decide (i ≤ j)).map V.int)) (t' := s.toks) k hn hp ⟨by rw [List.length_map, List.length_mergeSort]; exact hz, out, ep, hv, hat⟩, rfl, ?_⟩
        exact af.lst rs hp (ints_reps _)
      rcases h2 with h2 | h2
      · obtain ⟨its, rv, hl, hz⟩ := I.list h2
        obtain ⟨o, ho, hc, n, hd⟩ := hl.isList
        rw [List.length_map] at hz
        exact sorted_seq (.inl rfl) ho hc hd rv hz hu fun h' p out ep k hn hat hv => fin h' p out ep k hn hat hv hz
      · obtain ⟨its, rv, hl, hz⟩ := I.tuple h2
        obtain ⟨o, ho, hc, n, hd⟩ := hl
        rw [List.length_map] at hz
        exact sorted_seq (.inr rfl) ho hc hd rv hz hu fun h' p out ep k hn hat hv => fin h' p out ep k hn hat hv hz
    · exact af.elim
  · exact af.elim
end
end M

end
section
set_option Elab.async false
set_option linter.all false
set_option maxRecDepth 100000
set_option maxHeartbeats 0
namespace M
open PySem L2
/-! ## What is asked of the heap behind the top -/
inductive Ck where
  | fa (f : He.Fa)
  | mk0 (x : Str)
  | same (c g m : Str)
  | supm (c d m g : Str)
  | opq
  | xcls (c : Str)
  | xini (c f : Str)
  | xat (c : Str)
  | xgl
  | kitO (c t : Str) (b : Bool)
  | kitT (c : Str) (t : String) (b : Bool)
  | tab (p : Str × Option Str)
  | any (f : PySem.W.Frag → Bool)
def refsVEb (l : List Value) : Bool := PySem.HandSPX.refsVE l
def xclsB (K : PySem.W.Frag) (C : Addr) : Bool := (match K.lookup C with
  | some ⟨.type ty, _, .cls cd, sl⟩ => decide (ty = "type") && (match cd.mro, sl.toList with
    | .ref D :: bm, [k0, k1, k2, k3, some (.builtin n), k5] => decide (D = C) && (refsVEb bm && (cd.hasDict && (!cd.hasDel && decide (n = "ValueError.__new__"))))
    | _, _ => false)
  | _ => false) && (PySem.W.keepIn K (.ref C) && (decide (PySem.W.subIn K (.ref C) (.type "BaseException") = some true) && decide (PySem.W.typeIn K (.ref C) = some (.type "type"))))
def Ck.ok (K : PySem.W.Frag) : Ck → Bool
  | .fa f => f.ok K
  | .mk0 x => PySem.W.makesIn K (He.ga K x) && (He.eqO (PySem.W.findIn K (.ref (He.ga K x)) "__init__") (some (some (.builtin "object.__init__"))) && (decide (PySem.W.mroIn K (He.ga K x) (.type "object") = some true) && PySem.W.keepIn K (.ref (He.ga K x))))
  | .same c g m => decide (He.ma K (He.ga K c) m = He.ma K (He.ga K g) m)
  | .supm c d m g => decide (PySem.W.mroIn K (He.ga K c) (.ref (He.ga K d)) = some true) && (He.eqO (PySem.W.ks_superIn K (He.ga K c) (He.ga K d) m) (some (some (.ref (He.ma K (He.ga K g) m)))) && (decide (PySem.W.typeIn K (.ref (He.ma K (He.ga K g) m)) = some (.type "function")) && PySem.W.fnIn K (He.ma K (He.ga K g) m)))
  | .opq => He.eqO (PySem.W.nsIn K cStatics "thirdparty.any") (some none)
  | .xcls c => xclsB K (He.ga K c)
  | .xini c f => He.eqO (PySem.W.findIn K (.ref (He.ga K c)) "__setattr__") (some (some (.builtin "object.__setattr__"))) && (He.eqO (PySem.W.findIn K (.ref (He.ga K c)) f) (some none) && (He.eqO (PySem.W.findIn K (.ref (He.ga K c)) "__init__") (some (some (.ref (He.ma K (He.ga K c) "__init__")))) &&
      (decide (PySem.W.typeIn K (.ref (He.ma K (He.ga K c) "__init__")) = some (.type "function")) && (He.eqO (PySem.W.ks_superIn K (He.ga K c) (He.ga K c) "__init__") (some (some (.builtin "ValueError.__init__"))) && (decide (PySem.W.subIn K (.ref (He.ga K c)) (.type "ValueError") = some true) && decide (PySem.W.mroIn K (He.ga K c) (.ref (He.ga K c)) = some true))))))
  | .xat c => He.eqO (PySem.W.findIn K (.ref (He.ga K c)) "__getattribute__") (some (some (.builtin "BaseException.__getattribute__"))) && (He.eqO (PySem.W.findIn K (.ref (He.ga K c)) "__getattr__") (some none) && (decide (PySem.W.subIn K (.ref (He.ga K c)) (.type "BaseException") = some true) && (PySem.W.hasDictIn K (He.ga K c) &&
      (He.eqO (PySem.W.findIn K (.ref (He.ga K c)) "__class__") (some (some (.builtin "object.__class__"))) && decide (PySem.W.mroIn K (He.ga K c) (.type "object") = some true)))))
  | .xgl => He.eqO (PySem.W.specialIn K (.builtin "object.__class__") "__get__") (some (some (.builtin "getset_descriptor.__get__"))) && decide (PySem.W.takesIn K (.builtin "object.__class__") = some true)
  | .kitO c t b => decide (PySem.W.kitOne K (.ref (He.ga K c)) (.ref (He.ga K t)) = some b)
  | .kitT c t b => decide (PySem.W.kitOne K (.ref (He.ga K c)) (.type t) = some b)
  | .tab p => (match K.lookup (He.fAd K p) with
    | some o => (tabOf K o).isSome
    | none => false)
  | .any f => f K
section
variable {K : PySem.W.Frag}
open He (ba)
theorem mk0_ok {x : Str} (c : (Ck.mk0 x).ok K = true) : Mk0 K (He.ga K x) := by
  obtain ⟨c1, c⟩ := ba c
  obtain ⟨c2, c⟩ := ba c
  obtain ⟨c3, c4⟩ := ba c
  exact ⟨c1, He.eqO_ok c2, of_decide_eq_true c3, c4⟩
theorem same_ok {c g m : Str} (h : (Ck.same c g m).ok K = true) : He.ma K (He.ga K c) m = He.ma K (He.ga K g) m := of_decide_eq_true h
theorem supm_ok {c d m g : Str} (h : (Ck.supm c d m g).ok K = true) : SupM K (He.ga K c) (He.ga K d) m (He.fAd K (g, some m)) := by
  obtain ⟨c1, c⟩ := ba h
  obtain ⟨c2, c⟩ := ba c
  obtain ⟨c3, c4⟩ := ba c
  exact ⟨of_decide_eq_true c1, He.eqO_ok c2, of_decide_eq_true c3, c4⟩
theorem opq_ok (h : Ck.opq.ok K = true) : PySem.W.nsIn K cStatics "thirdparty.any" = some none := He.eqO_ok h
theorem xcls_ok {c : Str} (h : (Ck.xcls c).ok K = true) : XCls K c (He.ga K c) := by
  obtain ⟨c1, c⟩ := ba h
  obtain ⟨c2, c⟩ := ba c
  obtain ⟨c3, c4⟩ := ba c
  refine ⟨?_, c2, of_decide_eq_true c3, of_decide_eq_true c4⟩
  split at c1
  · rename_i ty dd cd sl ho
    obtain ⟨d1, c1⟩ := ba c1
    split at c1
    · rename_i D bm k0 k1 k2 k3 n k5 hm hs
      obtain ⟨f1, f0⟩ := ba c1
      obtain ⟨e2, f0⟩ := ba f0
      obtain ⟨e3, f0⟩ := ba f0
      obtain ⟨e4, f5⟩ := ba f0
      have e1 := of_decide_eq_true f1
      have e5 := of_decide_eq_true f5
      have d2 := of_decide_eq_true d1
      rw [Bool.not_eq_true'] at e4
      clear f1 f5 d1 c1 c
      subst d2 e1 e5
      obtain ⟨nm, bs, mro, ns, qn, hd, sn, sub, ab, col, del⟩ := cd
      dsimp only at hm e3 e4
      subst hm e3 e4
      have hsl : sl = #[k0, k1, k2, k3, some (.builtin "ValueError.__new__"), k5] := by
        obtain ⟨l⟩ := sl
        simp only at hs
        rw [hs]
      subst hsl
      exact ⟨nm, qn, ns, bs, bm, sn, sub, ab, col, dd, k0, k1, k2, k3, k5, ho, e2⟩
    · cases c1
  · cases c1
theorem xat_ok {c : Str} (h : (Ck.xat c).ok K = true) : XAt K (He.ga K c) := by
  obtain ⟨c1, c⟩ := ba h
  obtain ⟨c2, c⟩ := ba c
  obtain ⟨c3, c⟩ := ba c
  obtain ⟨c4, c⟩ := ba c
  obtain ⟨c5, c6⟩ := ba c
  exact ⟨He.eqO_ok c1, He.eqO_ok c2, of_decide_eq_true c3, c4, He.eqO_ok c5, of_decide_eq_true c6⟩
theorem xgl_ok (h : Ck.xgl.ok K = true) : XGl K := by
  obtain ⟨c1, c2⟩ := ba (show (He.eqO (PySem.W.specialIn K (.builtin "object.__class__") "__get__") (some (some (.builtin "getset_descriptor.__get__"))) && decide (PySem.W.takesIn K (.builtin "object.__class__") = some true)) = true from h)
  exact ⟨He.eqO_ok c1, of_decide_eq_true c2⟩
theorem kitO_ok {c t : Str} {b : Bool} (h : (Ck.kitO c t b).ok K = true) : PySem.W.kitOne K (.ref (He.ga K c)) (.ref (He.ga K t)) = some b := of_decide_eq_true h
theorem kitT_ok {c : Str} {t : String} {b : Bool} (h : (Ck.kitT c t b).ok K = true) : PySem.W.kitOne K (.ref (He.ga K c)) (.type t) = some b := of_decide_eq_true h
end
/-! ### defs with the class's cell -/
structure DefC where
  cls : Str
  name : Str
  qual : Str
  params : Arguments
  body : List Stmt
  scope : Scope
abbrev FnC : Type := Option (Str × Str × Arguments × FuncBody × Scope × Addr × List Str × Addr)
def DefC.at_ (d : DefC) : Str × Option Str := (d.cls, some d.name)
def fnC (K : PySem.W.Frag) (p : Str × Option Str) : FnC := match K.lookup (He.fAd K p) with
  | some ⟨_, _, .func fd, _⟩ => some (fd.name, fd.qualname, fd.params, fd.body, fd.scope, fd.globals, fd.closure.map (·.1), fd.builtins)
  | _ => none
def DefC.val (d : DefC) : FnC := some (d.name, d.qual, d.params, .stmts d.body, d.scope, mainGlobals, ["__class__"], builtinsNs)
def cellB (K : PySem.W.Frag) (cc D : Addr) : Bool := match K.lookup cc with
  | some ⟨_, _, .cell (some (.ref E)), _⟩ => decide (E = D)
  | _ => false
def fileB (K : PySem.W.Frag) (cd : Value) (file : Str) : Bool := match cd with
  | .ref c => (match K.lookup c with
    | some ⟨_, _, .fields vs, _⟩ => (match (vs[2]? : Option Value) with
      | some (.str f _) => decide (f = file)
      | _ => false)
    | _ => false)
  | _ => false
def noneB : Value → Bool
  | .none => true
  | _ => false
def clB (K : PySem.W.Frag) (D : Addr) : List (Str × Addr) → Bool
  | [(_, cc)] => cellB K cc D
  | _ => false
def DefC.ok (K : PySem.W.Frag) (file : Str) (d : DefC) : Bool := PySem.W.keepIn K (.ref (He.fAd K d.at_)) && (PySem.W.isClsIn K (He.ga K d.cls) && (match K.lookup (He.fAd K d.at_) with
  | some ⟨_, _, .func fd, _⟩ => PySem.W.codeIn K fd.code d.qual && (fileB K fd.code file && (noneB fd.defaults && clB K (He.ga K d.cls) fd.closure))
  | _ => false))
theorem DefC.funC {K : PySem.W.Frag} {P : Program} {mg : Str → Option Value} {d : DefC} {file par : Str} (e : fnC K d.at_ = d.val) (c : d.ok K file = true) (hfile : ((P.main.file : Str) == file) = true) (opq : PySem.W.nsIn K cStatics "thirdparty.any" = some none)
    (top : (P.main.scope.names.lookup ("super" : Str)).isSome = false) (free : mg "super" = none) (hp : ∃ ar, (d.params.posonlyargs ++ d.params.args).head? = some ar ∧ ar.arg = par) :
    ∃ fd cda cc, FunC K P mg d.name d.qual d.params d.body d.scope par (He.ga K d.cls) (He.fAd K d.at_) fd cda cc ∧ ∃ oc od osl, K.lookup (He.fAd K d.at_) = some ⟨oc, od, .func fd, osl⟩ := by
  obtain ⟨kp, c2⟩ := He.ba c
  obtain ⟨hcl, c2⟩ := He.ba c2
  unfold fnC at e
  cases q : K.lookup (He.fAd K d.at_) with
  | none => rw [q] at c2; cases c2
  | some o =>
    obtain ⟨oc, od, dt, osl⟩ := o
    rw [q] at c2 e
    cases dt with
    | func fd =>
      obtain ⟨n1, n2, n3, n4, n5, n6, n7, n8, n9, n10, n11, n12, n13, n14, n15⟩ := fd
      have e2 : (some (n1, n2, n3, n4, n5, n6, n7.map (·.1), n15) : FnC) = some (d.name, d.qual, d.params, FuncBody.stmts d.body, d.scope, mainGlobals, [("__class__" : Str)], builtinsNs) := e
      simp only [Option.some.injEq, Prod.mk.injEq] at e2
      obtain ⟨h1, h2, h3, h4, h5, h6, h7, h8⟩ := e2
      subst h1 h2 h3 h4 h5 h6 h8
      have c3 : (PySem.W.codeIn K n13 d.qual && (fileB K n13 file && (noneB n8 && clB K (He.ga K d.cls) n7))) = true := c2
      obtain ⟨k1, kr⟩ := He.ba c3
      obtain ⟨k2, ks⟩ := He.ba kr
      obtain ⟨k3, k4⟩ := He.ba ks
      clear kr ks c3
      have hn8 : n8 = .none := by
        cases n8 <;> first | rfl | cases k3
      subst hn8
      match n7, k4, h7, q with
      | [(nm, cc)], k4, h7, q =>
        have hnm : nm = "__class__" := (List.cons.inj h7).1
        subst hnm
        have k4 : cellB K cc (He.ga K d.cls) = true := k4
        obtain ⟨cl, cld, csl, hcell⟩ : ∃ cl cld csl, K.lookup cc = some ⟨cl, cld, .cell (some (.ref (He.ga K d.cls))), csl⟩ := by
          unfold cellB at k4
          split at k4
          · rename_i a b E s hk
            have := of_decide_eq_true k4
            subst this
            exact ⟨a, b, s, hk⟩
          · cases k4
        cases n13 with
        | ref cda =>
          obtain ⟨ccl, cdd, vs, ccs, f, tf, hcode, hvs, hf⟩ : ∃ ccl cdd vs ccs f tf, K.lookup cda = some ⟨ccl, cdd, .fields vs, ccs⟩ ∧ vs[2]? = some (.str f tf) ∧ f = file := by
            have k2' : (match K.lookup cda with
              | some ⟨_, _, .fields vs, _⟩ => (match (vs[2]? : Option Value) with
                | some (.str f _) => decide (f = file)
                | _ => false)
              | _ => false) = true := k2
            split at k2'
            · rename_i a b vs s hk
              split at k2'
              · rename_i f t hv
                exact ⟨a, b, vs, s, f, t, hk, hv, of_decide_eq_true k2'⟩
              · cases k2'
            · cases k2'
          subst hf
          obtain ⟨ar, ha1, ha2⟩ := hp
          obtain ⟨cd, hcd⟩ := Option.isSome_iff_exists.mp (show (PySem.W.clsIn K (He.ga K d.cls)).isSome = true from hcl)
          exact ⟨_, cda, cc, ⟨⟨oc, od, n9, n10, n11, n12, n14, osl, rfl, q, k1⟩, ⟨⟨oc, od, _, osl, ar, q, ha1, ha2⟩, ⟨ccl, cdd, vs, ccs, f, tf, hcode, hvs, hfile⟩, ⟨cl, cld, csl, hcell⟩, ⟨cd, hcd⟩, opq, top, free⟩, kp⟩, oc, od, osl, by first | exact q | rfl⟩
        | _ => cases k2
      | [], k4, _, _ => cases k4
      | _ :: _ :: _, k4, _, _ => cases k4
    | _ => cases c2
/-! ### the tables of the defs that make a lambda -/
def codeHdB (K : PySem.W.Frag) (c P : Addr) : Bool := match K.lookup c with
  | some ⟨.type ty, _, .fields vs, _⟩ => decide (ty = "code") && ((match (vs[11]? : Option Value) with | some (.ref Q) => decide (Q = P) | _ => false) && ((match vs.getD 18 .none with | .str _ _ => true | _ => false) && ((match vs.getD 7 .none with | .int _ _ => true | _ => false) &&
      ((match vs.getD 9 .none with | .bool _ => true | _ => false) && ((match vs.getD 10 .none with | .int _ _ => true | _ => false) && decide (c ≠ P))))))
  | _ => false
theorem codeHdB_ok {K : PySem.W.Frag} {h : Heap} {c P : Addr} (X : K.In h) (e : codeHdB K c P = true) : PySem.W.CodeHd h c P := by
  unfold codeHdB at e
  split at e
  · rename_i ty dd vs sl hk
    obtain ⟨e1, e⟩ := He.ba e
    obtain ⟨e2, e⟩ := He.ba e
    obtain ⟨e3, e⟩ := He.ba e
    obtain ⟨e4, e⟩ := He.ba e
    obtain ⟨e5, e⟩ := He.ba e
    obtain ⟨e6, e7⟩ := He.ba e
    have e1 := of_decide_eq_true e1
    subst e1
    have e7 := of_decide_eq_true e7
    split at e2
    · rename_i Q hQ
      have e2 := of_decide_eq_true e2
      subst e2
      split at e3
      · rename_i f tf h18
        split at e4
        · rename_i fl tg h7
          split at e5
          · rename_i b h9
            split at e6
            · rename_i tx tt h10
              have hQ2 : vs.getD 11 .none = .ref Q := by
                rw [Array.getD_eq_getD_getElem?, hQ]; rfl
              exact ⟨_, vs, f, tf, fl, tg, b, tx, tt, X _ _ hk, rfl, rfl, hQ, hQ2, h18, h7, h9, h10, e7⟩
            · cases e6
          · cases e5
        · cases e4
      · cases e3
    · cases e2
  · cases e
def emptyTabB : Option Obj → Bool
  | some ⟨.none, none, .fields vs, sl⟩ => decide (vs.size = 0) && decide (sl.size = 0)
  | _ => false
theorem emptyTabB_ok {o : Option Obj} (h : emptyTabB o = true) : o = some { cls := .none, data := .fields #[] } := by
  unfold emptyTabB at h
  split at h
  · rename_i vs sl
    obtain ⟨h1, h2⟩ := He.ba h
    have h1 := of_decide_eq_true h1
    have h2 := of_decide_eq_true h2
    rw [Array.eq_empty_of_size_eq_zero h1, Array.eq_empty_of_size_eq_zero h2]
  · cases h
def tabsB (K : PySem.W.Frag) (g : Addr → Option Obj) : Bool := (tabsAll K).all fun t => codeHdB K t.1 t.2.1 && ((K.lookup t.2.1).isNone && (emptyTabB (g t.2.1) && (tabsAll K).all fun u => decide (u.2.1 = t.2.1 → u.2.2 = t.2.2)))
/-! ### the Hook -/
def asM (g : Addr → Option Obj) : Nat → List Addr
  | 0 => [mainGlobals, cStatics]
  | n + 1 => He.growD g (asM g n)
/-- the part of the heap, without the tables -/
def frM (g : Addr → Option Obj) (n : Nat) : PySem.W.Frag :=
  let K := He.frG g (asM g n)
  let ts := (tabsAll K).map fun t => t.2.1
  He.frG g ((asM g n).filter fun a => !ts.contains a)
structure Wants where
  fa : List He.Fa
  ck : List Ck
  fn : List He.DefD
  cf : List DefC
  file : Str
abbrev AlM : Type := He.AlD × Bool × Bool × Bool × List FnC
def obsM (q : Wants) (K : PySem.W.Frag) (g : Addr → Option Obj) : AlM := (He.obsD q.fa q.fn K, q.ck.all (fun c => c.ok K), q.cf.all (fun d => d.ok K q.file), tabsB K g, q.cf.map fun d => fnC K d.at_)
def valM (q : Wants) : AlM := (He.valD q.fn, true, true, true, q.cf.map DefC.val)
structure SaysM (q : Wants) (K : PySem.W.Frag) (h : Heap) : Prop where
  kin : K.In h
  d : He.SaysD q.fa q.fn K
  ck : q.ck.all (fun c => c.ok K) = true
  cf : q.cf.all (fun d => d.ok K q.file) = true
  fc : q.cf.map (fun d => fnC K d.at_) = q.cf.map DefC.val
  th : ∀ t ∈ tabsAll K, codeHdB K t.1 t.2.1 = true ∧ K.lookup t.2.1 = none ∧ h.get? t.2.1 = some { cls := .none, data := .fields #[] } ∧ ∀ u ∈ tabsAll K, u.2.1 = t.2.1 → u.2.2 = t.2.2
theorem saysM_of {q : Wants} {K : PySem.W.Frag} {h : Heap} (X : K.In h) (e : obsM q K h.get? = valM q) : SaysM q K h := by
  have e1 : He.obsD q.fa q.fn K = He.valD q.fn := congrArg (fun z : AlM => z.1) e
  have e2 : q.ck.all (fun c => c.ok K) = true := congrArg (fun z : AlM => z.2.1) e
  have e3 : q.cf.all (fun d => d.ok K q.file) = true := congrArg (fun z : AlM => z.2.2.1) e
  have e4 : tabsB K h.get? = true := congrArg (fun z : AlM => z.2.2.2.1) e
  have e5 : q.cf.map (fun d => fnC K d.at_) = q.cf.map DefC.val := congrArg (fun z : AlM => z.2.2.2.2) e
  refine ⟨X, e1, e2, e3, e5, fun t ht => ?_⟩
  have := List.all_eq_true.mp e4 t ht
  obtain ⟨a1, a2⟩ := He.ba this
  obtain ⟨a2, a3⟩ := He.ba a2
  obtain ⟨a3, a4⟩ := He.ba a3
  exact ⟨a1, by simpa using a2, emptyTabB_ok a3, fun u hu => of_decide_eq_true (List.all_eq_true.mp a4 u hu)⟩
theorem SaysM.keeps {q : Wants} {K : PySem.W.Frag} {h h' : Heap} (s : SaysM q K h) (k : ∀ b o, h.get? b = some o → h'.get? b = some o) : SaysM q K h' :=
  ⟨PySem.W.Frag.In.keeps s.kin k, s.d, s.ck, s.cf, s.fc, fun t ht => let ⟨a, b, c, d⟩ := s.th t ht; ⟨a, b, k _ _ c, d⟩⟩
def obsMG (n : Nat) (q : Wants) (g : Addr → Option Obj) : AlM := obsM q (frM g n) g
def hookM (n : Nat) (q : Wants) : PySem.W.Hook where
  α := AlM
  obs := fun s => obsMG n q s.heap.get?
  val := fun _ => valM q
  says := fun _ h => ∃ K : PySem.W.Frag, SaysM q K h
  of := fun _ _ e => ⟨_, saysM_of He.frG_in e⟩
  keeps := fun _ _ _ ⟨K, c⟩ k => ⟨K, c.keeps k⟩
theorem obsMG_eq {n : Nat} {q : Wants} {g : Addr → Option Obj} {s : Shared} (h : ∀ a, g a = s.heap.get? a) : obsMG n q g = (hookM n q).obs s := by
  have e : g = s.heap.get? := funext h
  rw [e] <;> rfl
section
variable {q : Wants} {K : PySem.W.Frag} {h : Heap}
theorem SaysM.ckf (s : SaysM q K h) (i : Nat) {c : Ck} (e : q.ck[i]? = some c := by rfl) : c.ok K = true := List.all_eq_true.mp s.ck c (List.mem_of_getElem? e)
theorem SaysM.fnc (s : SaysM q K h) (i : Nat) {d : DefC} (e : q.cf[i]? = some d) : fnC K d.at_ = d.val ∧ d.ok K q.file = true := by
  refine ⟨?_, List.all_eq_true.mp s.cf d (List.mem_of_getElem? e)⟩
  have e2 : (q.cf.map fun d => fnC K d.at_)[i]? = (q.cf.map DefC.val)[i]? := by rw [s.fc]
  rw [List.getElem?_map, List.getElem?_map, e] at e2
  exact Option.some.inj e2
end
/-! ### the end of a law -/
theorem walk_ofM {l : PySem.W.OpenLaw} {n k : Nat} {q : Program} {loose : List Str} {XP : (Str → Option Value) → Heap → Prop} {YP : World → Heap → Prop} {d : DefRec} {x : Str}
    (hn : l.most = some n) (hn2 : n ≤ sizeLine) (hdf : d.params.defaults = []) (hr : Room k callerA)
    (F : ∀ (w : World) (mg : Str → Option Value) (fa : Addr) (h : Heap), YP w h → h.Ns mainGlobals mg → mg d.name = some (.ref fa) →
      ∃ (K : PySem.W.Frag) (fd : FuncData) (G : DF), K.In h ∧ (∀ t ∈ tabsAll K, codeHdB K t.1 t.2.1 = true ∧ K.lookup t.2.1 = none ∧ h.get? t.2.1 = some { cls := .none, data := .fields #[] } ∧ ∀ u ∈ tabsAll K, u.2.1 = t.2.1 → u.2.2 = t.2.2) ∧
        (∀ (s : Shared) (u : Value), BindsTo s fd ⟨[u], []⟩ [(x, u)]) ∧
        (∀ (ns : List Int), ns.length ≤ n → (∀ z ∈ ns, Builtin.Int.intBits z ≤ 1048576) → ∃ st, G [.fz (.rol (ns.map P.int))] [] = .ok (.fz (.bl true), st)) ∧
        ∀ base : Heap, K.In base → base.Ns mainGlobals mg → (∀ t ∈ tabsAll K, LamX.TabB base mg t.1 t.2.1) → FnOk l.prog w K mg base (L2.CX l.prog w) k fa fd [x] (spF K G))
    : PySem.W.WalkO q loose XP YP l.row.toRowW d [] (fun f vs => PySem.call f vs) := by
  refine Att.attach_callB hn hdf fun w s₀ s₁ mg mb fa o pm cd doc a vs ns G Y ho hd hcd hmg hobj hints hlen hbits hg => ?_
  obtain ⟨K, fd, DF_, KX, th, hb, hsp, hF⟩ := F w mg fa _ Y G.T.g hmg
  have mem : ∀ p ∈ (tabsAll K).map (fun t => (t.1, t.2.1)), ∃ t ∈ tabsAll K, p = (t.1, t.2.1) := fun p hp => by
    obtain ⟨t, ht, e⟩ := List.mem_map.mp hp
    exact ⟨t, ht, e.symm⟩
  refine LamX.law_callTs (cs := (tabsAll K).map fun t => (t.1, t.2.1)) (CX := L2.CX l.prog w) (sp := spF K DF_) KX G.T.g G.T.b G.T.builtins G.T.nolimit hg (fun p hp => ?_) (fun p hp => ?_) (fun p hp => ?_) G.T.bmain hobj hints (Nat.le_trans hlen hn2) hr (fun base hK hN hT => ?_) hb (fun H hH hS => ?_) fun H e s' z => ?_
  · obtain ⟨t, ht, rfl⟩ := mem p hp; exact (th t ht).2.2.1
  · obtain ⟨t, ht, rfl⟩ := mem p hp; exact (th t ht).2.1
  · obtain ⟨t, ht, rfl⟩ := mem p hp; exact codeHdB_ok KX (th t ht).1
  · exact hF base hK hN fun t ht => hT (t.1, t.2.1) (List.mem_map.mpr ⟨t, ht, rfl⟩)
  · obtain ⟨st, e⟩ := hsp ns hlen hbits
    let Z : Hp := fun b => match H b with
      | some (.tbl _) => none
      | o => o
    have sz : Same Z H := fun b o hb => by
      have hb' : (match H b with | some (.tbl _) => none | o => o) = some o := hb
      split at hb'
      · cases hb'
      · exact hb'
    have sq : SqL K Z a (ns.map V.int) := by
      rcases hS with (h1 | ⟨o, h1⟩) | h1
      · refine .inl (.inl ?_)
        show (match H a with | some (.tbl _) => none | o => o) = _
        rw [h1]
      · refine .inl (.inr ⟨o, ?_⟩)
        show (match H a with | some (.tbl _) => none | o => o) = _
        rw [h1]
      · exact .inr h1
    refine ⟨Z, [], [], [.fz (.rol (ns.map P.int))], ⟨sz, rfl, by simp, fun i b c hi => by simp at hi, fun p hp => ?_, fun b ps hb => ?_⟩, ⟨.ref a, [], rfl, ?_, rfl⟩, ?_⟩
    · obtain ⟨t, ht, rfl⟩ := List.mem_map.mp hp
      exact LamX.TabS.nil (hH (t.1, t.2.1) (List.mem_map.mpr ⟨t, ht, rfl⟩))
    · have hb' : (match H b with | some (.tbl _) => none | o => o) = some (.tbl ps) := hb
      split at hb'
      · cases hb'
      · rename_i hne; exact hne ps hb'
    · show Rep K Z (.rol (ns.map P.int)) (.ref a)
      rw [Rep]
      exact ⟨a, _, rfl, sq, ints_reps ns⟩
    · rw [e]
      intro Z' φ' H' t rs' v r
      exact fz_bl r
  · exact cx_none z
where
  cx_none {P : Program} {w : World} {H : Hp} {s : Shared} {e : Value} {s' : Shared} (z : L2.CX P w [] H s (fun _ _ _ => False) e s') : False := by
    obtain ⟨_, _, _, _, _, _, _, _, _, _, _, _, q⟩ := z
    exact q
end M

end
section
set_option Elab.async false
set_option linter.all false
set_option maxRecDepth 100000
set_option maxHeartbeats 0
namespace M
open PySem L2
theorem frag_mem {a : Addr} {o : Obj} : ∀ {K : PySem.W.Frag}, K.lookup a = some o → (a, o) ∈ K
  | (b, u) :: r, h => by
    rw [List.lookup_cons] at h
    cases q : a == b with
    | true => rw [q] at h; cases h; rw [beq_iff_eq.mp q]; exact List.mem_cons_self
    | false => rw [q] at h; exact List.mem_cons_of_mem _ (frag_mem h)
def lamB (sc scope : Scope) : Bool := scope.names.all fun y => !decide (y.2 = .cell) && (!decide (y.2 = .free) || decide (sc.names.lookup y.1 = some .cell) || decide (sc.names.lookup y.1 = some .free))
theorem lamOk_by {sc scope : Scope} (h : lamB sc scope = true) : ∀ y ∈ scope.names, y.2 ≠ .cell ∧ (y.2 = .free → sc.names.lookup y.1 = some .cell ∨ sc.names.lookup y.1 = some .free) := fun y hy => by
  have q := List.all_eq_true.mp h y hy
  simp only [Bool.and_eq_true, Bool.or_eq_true, Bool.not_eq_true', decide_eq_true_eq, decide_eq_false_iff_not] at q
  refine ⟨q.1, fun e => ?_⟩
  rcases q.2 with (z | z) | z
  · exact absurd e z
  · exact .inl z
  · exact .inr z
def inCls (s : Stmt) (j : Nat) : Stmt := match s with
  | .ClassDef _ _ _ b _ _ _ _ _ _ _ => b.getD j (.Pass ⟨0, 0, 0, 0⟩)
  | _ => .Pass ⟨0, 0, 0, 0⟩
section
variable {P : Program} {w : World} {K : PySem.W.Frag} {mg : Str → Option Value} {base : Heap}
theorem fnOk_mono {CX : CXT} {j k : Nat} {f : Addr} {fd : FuncData} {ps : List Str} {sp : Sp} (F : FnOk P w K mg base CX j f fd ps sp) (h : j ≤ k) : FnOk P w K mg base CX k f fd ps sp := ⟨F.len, fun A outer s H args us vs Q E hr => F.run A outer s H args us vs Q E (hr.mono h)⟩
theorem tab_nil {Q : Str → DF → Prop} : ∀ c F, (c, F) ∈ ([] : List (Str × DF)) → Q c F := fun _ _ h => by cases h
theorem tab_cons {Q : Str → DF → Prop} {c : Str} {F : DF} {l : List (Str × DF)} (h : Q c F) (r : ∀ c F, (c, F) ∈ l → Q c F) : ∀ c' F', (c', F') ∈ (c, F) :: l → Q c' F' := fun c' F' hm => by
  rcases List.mem_cons.mp hm with e | e
  · cases e; exact h
  · exact r _ _ e
theorem supT_of {k j : Nat} {g c d m : Str} {ps : List Str} {F : DF} (o : Okd P w K mg base j (g, some m) ps F) (hs : SupM K (He.ga K c) (He.ga K d) m (He.fAd K (g, some m))) (h : j ≤ k := by decide) : SupT P w K mg base k (He.ga K d) m ps c F := by
  obtain ⟨fd, h1, h2⟩ := o.ex
  exact ⟨_, fd, hs, fnOk_mono h1 h, h2⟩
theorem methT_of {k j : Nat} {g c m : Str} {ps : List Str} {F : DF} (o : Okd P w K mg base j (g, some m) ps F) (hc : Cls K (He.ga K c)) (hm : Meth K (He.ga K c) m (He.ma K (He.ga K c) m)) (he : He.ma K (He.ga K c) m = He.ma K (He.ga K g) m) (h : j ≤ k := by decide) : MethT P w K mg base k m ps c F := by
  obtain ⟨fd, h1, h2⟩ := o.ex
  refine ⟨_, fd, hc, hm, ?_, h2⟩
  rw [he]
  exact fnOk_mono h1 h
/-- a def with the class's cell keeps its meaning -/
theorem okd_ofC {d : DefC} {par : Str} {k : Nat} {N ps : List Str} {np n : Nat} {fr : Bool} {b : DS}
    (h : ∃ fd cda cc, FunC K P mg d.name d.qual d.params d.body d.scope par (He.ga K d.cls) (He.fAd K d.at_) fd cda cc ∧ ∃ oc od osl, K.lookup (He.fAd K d.at_) = some ⟨oc, od, .func fd, osl⟩) (S : FnScopeC N ps d.scope) (hps : ps.length = np) (hN : N.length = n)
    (hb : ∀ (kV doc pm : Value) (an : Option Addr) (cdv ct : Value) (cc : Addr) (us : List Value), us.length = ps.length → bindArgs (PySem.W.fnX d.name d.qual d.params d.body d.scope [("__class__", cc)] .none kV doc pm an cdv ct) ⟨us, []⟩ = pure (ps.zip us))
    (hbody : ∀ (f cda cc : Addr) (fd : FuncData), SupK K P mg f cda cc (He.ga K d.cls) par → (fd.qualname = d.qual ∧ fd.code = .ref cda ∧ ∃ oc od osl, K.lookup (He.fAd K d.at_) = some ⟨oc, od, .func fd, osl⟩) → ∀ (A : Around) (outer : List Env) (s : Shared) (H : Hp) (E : XK), Room k (cxC (L2.CX P w) P w K mg base N d.qual d.scope cc f (.ref cda) A outer s H E).A →
      PassesOwn (model P w) (cxC (L2.CX P w) P w K mg base N d.qual d.scope cc f (.ref cda) A outer s H E).A (cxC (L2.CX P w) P w K mg base N d.qual d.scope cc f (.ref cda) A outer s H E).env (cxC (L2.CX P w) P w K mg base N d.qual d.scope cc f (.ref cda) A outer s H E).xe →
      Takes (cxC (L2.CX P w) P w K mg base N d.qual d.scope cc f (.ref cda) A outer s H E) (fun c d _ H => E c d H) →
      PSsa (cxC (L2.CX P w) P w K mg base N d.qual d.scope cc f (.ref cda) A outer s H E) (.func d.body (cxC (L2.CX P w) P w K mg base N d.qual d.scope cc f (.ref cda) A outer s H E).env) d.body (tS K (fun c d _ H => E c d H) b)) :
    Okd P w K mg base (k + 1) d.at_ ps (runF np n fr b) := by
  obtain ⟨fd, cda, cc, F, oc, od, osl, lk⟩ := h
  have F0 := F
  obtain ⟨oc', od', kV, doc, pm, an, ct, osl', rfl, lk', hcd⟩ := F0.ex
  refine ⟨⟨_, fn_DC F S hps hN fun A outer s H E hr hp tk => hbody _ cda cc _ F.sup ⟨rfl, rfl, oc, od, osl, lk⟩ A outer s H E hr hp tk, ?_⟩, F.kp⟩
  exact Binds.all fun us hl => hb _ _ _ _ _ _ _ us hl
/-- the table of a def that makes a lambda -/
theorem tab_at {d : DefC} {fd : FuncData} {cda : Addr} (h : fd.qualname = d.qual ∧ fd.code = .ref cda ∧ ∃ oc od osl, K.lookup (He.fAd K d.at_) = some ⟨oc, od, .func fd, osl⟩) (hl : lamDefs.contains d.qual = true) (hc : (Ck.tab d.at_).ok K = true)
    (tb : ∀ t ∈ tabsAll K, LamX.TabB base mg t.1 t.2.1) (un : ∀ t ∈ tabsAll K, ∀ u ∈ tabsAll K, u.2.1 = t.2.1 → u.2.2 = t.2.2) :
    ∃ P, LamX.TabB base mg cda P ∧ (P, d.qual ++ ".<locals>." ++ "<lambda>") ∈ tabsOf K ∧ ∀ p ∈ tabsOf K, p.1 = P → p.2 = d.qual ++ ".<locals>." ++ "<lambda>" := by
  obtain ⟨h1, h2, oc, od, osl, lk⟩ := h
  have hc2 : (match K.lookup (He.fAd K d.at_) with
    | some o => (tabOf K o).isSome
    | none => false) = true := hc
  rw [lk] at hc2
  have hc3 : (tabOf K ⟨oc, od, .func fd, osl⟩).isSome = true := hc2
  obtain ⟨P, hP⟩ : ∃ P, tabOf K ⟨oc, od, .func fd, osl⟩ = some (cda, P, d.qual ++ ".<locals>." ++ "<lambda>") := by
    unfold tabOf at hc3 ⊢
    dsimp only at hc3 ⊢
    rw [h1, if_pos hl, h2] at hc3
    rw [h1, if_pos hl, h2]
    dsimp only at hc3 ⊢
    split at hc3
    · rename_i a b vs sl hk
      split at hc3
      · rename_i Q hQ
        exact ⟨Q, rfl⟩
      · cases hc3
    · cases hc3
  have hm : (cda, P, d.qual ++ ".<locals>." ++ "<lambda>") ∈ tabsAll K := List.mem_filterMap.mpr ⟨_, frag_mem lk, hP⟩
  refine ⟨P, tb _ hm, List.mem_map.mpr ⟨_, hm, rfl⟩, fun p hp he => ?_⟩
  obtain ⟨u, hu, rfl⟩ := List.mem_map.mp hp
  exact un _ hm u hu he
/-- an error class with one field -/
theorem xok_of {d : DefC} {x c f msg : Str} {j : Nat} {a1 a2 a3 a4 a5 a6 b1 b2 b3 b4 : Pos} {pl : Sem Bool} (h : ∃ fd cda cc, FunC K P mg d.name d.qual d.params d.body d.scope "self" (He.ga K d.cls) (He.fAd K d.at_) fd cda cc ∧ ∃ oc od osl, K.lookup (He.fAd K d.at_) = some ⟨oc, od, .func fd, osl⟩) (hn : d.name = "__init__") (hc : d.cls = c)
    (hbd : d.body = exB f msg j a1 a2 a3 a4 a5 a6 b1 b2 b3 b4) (S : XScope f d.params d.scope) (xc : (Ck.xcls c).ok K = true) (xi : (Ck.xini c f).ok K = true) (xa : (Ck.xat c).ok K = true) (gC : mg x = some (.ref (He.ga K c)))
    (hev : ∀ env : Env, eval (.Call (.Attribute (.Call (.Name "super" a1) [] [] a2) "__init__" a3) [.Constant (.str msg) j a4] [] a5) env = (do
      let ov ← attributeBase (.Call (.Name "super" a1) [] [] a2) "__init__" env (eval (.Call (.Name "super" a1) [] [] a2) env)
      standAt a3.atName
      let (f, first) ← holding [ov] (getMethod ov "__init__" pl)
      callWith a5 f first (backTo a5 (starEach [.Constant (.str msg) j a4] env)) []))
    (hbind : ∀ (s : Shared) (u v kV doc pm ct : Value) (an : Option Addr) (cc cda : Addr), BindsTo s (PySem.W.fnX "__init__" d.qual d.params (exB f msg j a1 a2 a3 a4 a5 a6 b1 b2 b3 b4) d.scope [("__class__", cc)] .none kV doc pm an (.ref cda) ct) ⟨[u, v], []⟩ [("self", u), (f, v)]) :
    XOk P K mg x c f := by
  obtain ⟨fd, cda, cc, F, _⟩ := h
  obtain ⟨cls, nm, qual, params, body, scope⟩ := d
  dsimp only at hn hc hbd F S hbind
  subst hn hc hbd
  obtain ⟨i1, q⟩ := He.ba xi
  obtain ⟨i2, q⟩ := He.ba q
  obtain ⟨i3, q⟩ := He.ba q
  obtain ⟨i4, q⟩ := He.ba q
  obtain ⟨i5, q⟩ := He.ba q
  obtain ⟨i6, i7⟩ := He.ba q
  have A := xat_ok xa
  exact ⟨⟨msg, qual, params, scope, _, cda, cc, fd, j, a1, a2, a3, a4, a5, a6, b1, b2, b3, b4, pl, ⟨xcls_ok xc, He.eqO_ok i1, He.eqO_ok i2, He.eqO_ok i3, of_decide_eq_true i4, He.eqO_ok i5, of_decide_eq_true i6, of_decide_eq_true i7, A.ga, A.gg, A.hdC, F⟩, S, hev, fun s u v kV doc pm ct an => hbind s u v kV doc pm ct an cc cda⟩, gC⟩
end
theorem bt_sorted : bootBuiltins "sorted" = some (.builtin "sorted") := by decide +kernel
theorem bt_bool : bootBuiltins "bool" = some (.type "bool") := by decide +kernel
theorem bt_str : bootBuiltins "str" = some (.type "str") := by decide +kernel
theorem bt_dict : bootBuiltins "dict" = some (.type "dict") := by decide +kernel
theorem bt_VE : bootBuiltins "ValueError" = some (.type "ValueError") := by decide +kernel
theorem _root_.L2.Room.u64 {k : Nat} {A : Around} (h : Room k A) : A.units + 64 < cLine := by have := h.un; omega
theorem _root_.L2.Room.u65 {k : Nat} {A : Around} (h : Room k A) : A.units + 65 < cLine := by have := h.un; omega
theorem _root_.L2.Room.u3 {k : Nat} {A : Around} (h : Room k A) : A.units + 3 < cLine := by have := h.un; omega
theorem _root_.L2.Room.u1 {k : Nat} {A : Around} (h : Room k A) : A.units + 1 < cLine := by have := h.un; omega
end M

end
section
set_option Elab.async false
set_option linter.all false
set_option maxRecDepth 100000
set_option maxHeartbeats 0
namespace M
open PySem PySem.Spec PyProof.Rows L2
theorem any_ok {K : PySem.W.Frag} {f : PySem.W.Frag → Bool} (h : (Ck.any f).ok K = true) : f K = true := h
/-! ## and, or as values -/
def dAndV (f g : DE) : DE := fun η st => (f η st).bind fun a => match a.1 with
  | .fz (.bl c) => if c = true then g η a.2 else .ok (.fz (.bl false), a.2)
  | _ => .stuck
def dOrV (f g : DE) : DE := fun η st => (f η st).bind fun a => match a.1 with
  | .fz (.bl c) => if c = true then .ok (.fz (.bl true), a.2) else g η a.2
  | _ => .stuck
def dNotV (f : DE) : DE := fun η st => (f η st).bind fun a => match a.1 with
  | .fz (.bl c) => .ok (.fz (.bl (!c)), a.2)
  | _ => .stuck
section
variable {X : Cx} {W : WX} {a b : Expr} {rest : List Expr} {pos : Pos} {f g : DE}
theorem de_one {op : BoolOp} (h : PE X a (tE X.K W f)) : PE X (.BoolOp op [a] pos) (tE X.K W f) := pe_one h
theorem de_and (ha : PE X a (tE X.K W f)) (hb : PE X (.BoolOp .And (b :: rest) pos) (tE X.K W g)) : PE X (.BoolOp .And (a :: b :: rest) pos) (tE X.K W (dAndV f g)) := by
  refine (pe_and ha hb).to fun σ H Q hh => ?_
  obtain ⟨Z, φ, η, st, rs, sl, af⟩ := hh
  refine ⟨Z, φ, η, st, rs, sl, af.bind.mono fun a Z' φ' H' t g' rs' v r => ?_⟩
  split at g'
  · rename_i c ec
    rw [ec] at r
    obtain rfl := fz_bl r
    refine ⟨c, rfl, ?_⟩
    split at g'
    · rename_i hc; rw [if_pos hc]; exact ⟨Z', φ', η, _, rs', sl.mono t, g'⟩
    · rename_i hc; rw [if_neg hc]; exact g'.here rs' rep_bl
  · exact g'.elim
theorem de_or (ha : PE X a (tE X.K W f)) (hb : PE X (.BoolOp .Or (b :: rest) pos) (tE X.K W g)) : PE X (.BoolOp .Or (a :: b :: rest) pos) (tE X.K W (dOrV f g)) := by
  refine (pe_or ha hb).to fun σ H Q hh => ?_
  obtain ⟨Z, φ, η, st, rs, sl, af⟩ := hh
  refine ⟨Z, φ, η, st, rs, sl, af.bind.mono fun a Z' φ' H' t g' rs' v r => ?_⟩
  split at g'
  · rename_i c ec
    rw [ec] at r
    obtain rfl := fz_bl r
    refine ⟨c, rfl, ?_⟩
    split at g'
    · rename_i hc; rw [if_pos hc]; exact g'.here rs' rep_bl
    · rename_i hc; rw [if_neg hc]; exact ⟨Z', φ', η, _, rs', sl.mono t, g'⟩
  · exact g'.elim
theorem de_not (ha : PE X a (tE X.K W f)) : PE X (.UnaryOp .Not a pos) (tE X.K W (dNotV f)) := by
  refine (pe_not ha).to fun σ H Q hh => ?_
  obtain ⟨Z, φ, η, st, rs, sl, af⟩ := hh
  refine ⟨Z, φ, η, st, rs, sl, af.bind.mono fun a Z' φ' H' t g' rs' v r => ?_⟩
  split at g'
  · rename_i c ec
    rw [ec] at r
    obtain rfl := fz_bl r
    exact ⟨c, rfl, g'.here rs' rep_bl⟩
  · exact g'.elim
end
/-! ## constants of the top -/
mutual
def repB (K : PySem.W.Frag) : P → V → Bool
  | .non, .non => true
  | .bl b, .bl c => b == c
  | .int i, .int j => decide (i = j)
  | .str x, .str y => decide (x = y)
  | .tup xs, .ref a => (match K.lookup a with
    | some ⟨.type ty, _, .seq its _, _⟩ => decide (ty = "tuple") && (decide (its.size ≤ sizeLine) && repsB K xs its.toList)
    | _ => false)
  | _, _ => false
def repsB (K : PySem.W.Frag) : List P → List Value → Bool
  | [], [] => true
  | p :: ps, u :: us => (match absV u with
    | some v => He.relB v u && repB K p v
    | none => false) && repsB K ps us
  | _, _ => false
end
open He (ba)
mutual
theorem repB_ok {K : PySem.W.Frag} {Z : Hp} : ∀ (p : P) (v : V), repB K p v = true → Rep K Z p v
  | .non, v, h => by cases v <;> first | rfl | (unfold repB at h; cases h)
  | .bl b, v, h => by
    cases v <;> first | (unfold repB at h; cases h; done) | skip
    rename_i c
    have e : b = c := beq_iff_eq.mp (by simpa [repB] using h)
    rw [Rep, e]
  | .int i, v, h => by
    cases v <;> first | (unfold repB at h; cases h; done) | skip
    rename_i c
    have e : i = c := by simpa [repB] using h
    rw [Rep, e]
  | .str i, v, h => by
    cases v <;> first | (unfold repB at h; cases h; done) | skip
    rename_i c
    have e : i = c := by simpa [repB] using h
    rw [Rep, e]
  | .tup xs, v, h => by
    cases v <;> first | (unfold repB at h; cases h; done) | skip
    rename_i a
    unfold repB at h
    split at h
    · rename_i ty d its n sl hl
      obtain ⟨h1, h2⟩ := ba h
      obtain ⟨h2, h3⟩ := ba h2
      obtain ⟨vs, r1, r2⟩ := repsB_ok xs its.toList h3
      rw [Rep]
      exact ⟨a, vs, rfl, .inr ⟨_, its, n, hl, by rw [of_decide_eq_true h1], rfl, of_decide_eq_true h2, r1⟩, r2⟩
    · cases h
  | .lst xs, v, h => by unfold repB at h; cases v <;> cases h
  | .rol xs, v, h => by unfold repB at h; cases v <;> cases h
  | .dct xs, v, h => by unfold repB at h; cases v <;> cases h
  | .obj c xs, v, h => by unfold repB at h; cases v <;> cases h
theorem repsB_ok {K : PySem.W.Frag} {Z : Hp} : ∀ (ps : List P) (us : List Value), repsB K ps us = true → ∃ vs, Vals vs us ∧ Reps K Z ps vs
  | [], [], _ => ⟨[], .nil, Reps.nil⟩
  | [], _ :: _, h => by unfold repsB at h; cases h
  | _ :: _, [], h => by unfold repsB at h; cases h
  | p :: ps, u :: us, h => by
    unfold repsB at h
    obtain ⟨h1, h2⟩ := ba h
    obtain ⟨vs, r1, r2⟩ := repsB_ok ps us h2
    split at h1
    · rename_i v hv
      obtain ⟨h3, h4⟩ := ba h1
      exact ⟨v :: vs, .cons (He.relB_ok h3) r1, Reps.cons (repB_ok p v h4) r2⟩
    · cases h1
end
/-- a keyword-only default that is an object -/
def kwdAt (f : Str × Option Str) (x : Str) (K : PySem.W.Frag) : Addr := match K.lookup (He.fAd K f) with
  | some ⟨_, _, .func fd, _⟩ => (match fd.kwdefaults with
    | .ref D => (match PySem.W.nsIn K D x with
      | some (some (.ref a)) => a
      | _ => 0)
    | _ => 0)
  | _ => 0
theorem sub_nil {α : Type} {l : List α} : ∀ q ∈ ([] : List α), q ∈ l := fun _ h => by cases h
theorem sub_cons {α : Type} {l ms : List α} {q0 : α} (h : q0 ∈ l) (r : ∀ q ∈ ms, q ∈ l) : ∀ q ∈ q0 :: ms, q ∈ l := fun q hq => by
  rcases List.mem_cons.mp hq with e | e
  · rw [e]; exact h
  · exact r q e
/-! ## keywords -/
inductive Src where
  | kw (j : Nat) | df (j : Nat)
/-- the keyword-only parameters' values: from the keywords ws, from the defaults mv -/
def selK {α : Type} : List Src → List α → List α → List α
  | [], _, _ => []
  | .kw j :: r, mv, ws => (ws[j]?).toList ++ selK r mv ws
  | .df j :: r, mv, ws => (mv[j]?).toList ++ selK r mv ws
theorem vals_at {vs : List V} {us : List Value} (h : Vals vs us) : ∀ j : Nat, Vals (vs[j]?).toList (us[j]?).toList := by
  induction h with
  | nil => intro j; exact .nil
  | cons r _ ih =>
    intro j
    cases j with
    | zero => exact .cons r .nil
    | succ j => simpa using ih j
theorem vals_sel {mz zs : List V} {mv ws : List Value} (h1 : Vals mz mv) (h2 : Vals zs ws) : ∀ l : List Src, Vals (selK l mz zs) (selK l mv ws)
  | [] => .nil
  | .kw j :: r => (vals_at h2 j).append (vals_sel h1 h2 r)
  | .df j :: r => (vals_at h1 j).append (vals_sel h1 h2 r)
theorem reps_at {K : PySem.W.Frag} {Z : Hp} {φ : List Addr} : ∀ {ds : List D} {vs : List V}, RepDs K Z φ ds vs → ∀ j : Nat, RepDs K Z φ (ds[j]?).toList (vs[j]?).toList
  | [], vs, h, j => by cases h; rfl
  | d :: ds, vs, h, j => by
    obtain ⟨v, ws, rfl, h1, h2⟩ := h
    cases j with
    | zero => exact ⟨v, [], rfl, h1, rfl⟩
    | succ j => simpa using reps_at h2 j
theorem reps_app {K : PySem.W.Frag} {Z : Hp} {φ : List Addr} : ∀ {ds es : List D} {vs ws : List V}, RepDs K Z φ ds vs → RepDs K Z φ es ws → RepDs K Z φ (ds ++ es) (vs ++ ws)
  | [], es, vs, ws, h, g => by cases h; exact g
  | d :: ds, es, vs, ws, h, g => by
    obtain ⟨v, us, rfl, h1, h2⟩ := h
    exact ⟨v, us ++ ws, rfl, h1, reps_app h2 g⟩
theorem reps_sel {K : PySem.W.Frag} {Z : Hp} {φ : List Addr} {mz zs : List D} {mv ws : List V} (h1 : RepDs K Z φ mz mv) (h2 : RepDs K Z φ zs ws) : ∀ l : List Src, RepDs K Z φ (selK l mz zs) (selK l mv ws)
  | [] => rfl
  | .kw j :: r => reps_app (reps_at h2 j) (reps_sel h1 h2 r)
  | .df j :: r => reps_app (reps_at h1 j) (reps_sel h1 h2 r)
theorem repds_len {K : PySem.W.Frag} {Z : Hp} {φ : List Addr} : ∀ {ds : List D} {vs : List V}, RepDs K Z φ ds vs → ds.length = vs.length
  | [], vs, h => by cases h; rfl
  | d :: ds, vs, h => by obtain ⟨v, ws, rfl, _, h2⟩ := h; simp [repds_len h2]
/-- f(e, .., k = v, ..) -/
def dCallK (F : DF) (n m : Nat) (sel : List Src) (mz : List P) (g k : DA) : DE := fun η st => (g η st).bind fun a => (k η a.2).bind fun b => if a.1.length = n ∧ b.1.length = m then callF F (a.1 ++ selK sel (mz.map D.fz) b.1) η b.2 else .stuck
section
variable {X : Cx} {W : WX} {CX : CXT} {k j n : Nat} {f : Addr} {fd : FuncData} {ps ks : List Str} {sp : Sp} {E : L2.St → XK} {x : Str} {p pos : Pos} {e : Expr} {es : List Expr} {kws : List Keyword} {t tk : TA} {g : List Value → List Value → List Value} {gV : List V → List V → List V}
def tCallNS (n m : Nat) (sp : Sp) (gV : List V → List V → List V) (E : L2.St → XK) (t tk : TA) : TE := fun σ H Q => t σ H fun vs H1 => tk σ H1 fun zs H2 => vs.length = n ∧ zs.length = m ∧ sp (gV vs zs) H2 Q (E σ)
theorem run_fnNS {pins : List (Addr × Obj)} {σ : L2.St} {H : Hp} {s : Shared} {Q : VK} {us ws : List Value} {vs zs : List V} (F : FnOk X.prog X.w X.K X.mg X.base CX k f fd ps sp) (hr : Room k X.A) (hb : KBn X.K fd ps n ks g gV) (hx : PassesAt CX X σ (E σ))
    (I : Inv X pins σ H s) (r : Vals vs us) (rz : Vals zs ws) (l1 : vs.length = n) (l2 : zs.length = ks.length) (h : sp (gV vs zs) H Q (E σ)) : wpAny (model X.prog X.w) X.A (call (.ref f) us (ks.zip ws)) (EP X pins σ Q) X.xe s := by
  have r2 := hb.rel r rz
  refine wpAny_call (codeAny_mono (F.run X.A X.stack s H ⟨us, ks.zip ws⟩ (g us ws) (gV vs zs) Q (E σ) hr I.env0 (hb.to s us ws I.kIn (r.length.symm.trans l1) (rz.length.symm.trans l2)) r2 h) fun r s' hq => ?_)
  cases r with
  | error e => exact hx pins H s e s' I hq
  | ok fl =>
    cases fl with
    | ret u => exact I.after hq
    | next => exact False.elim hq
    | brk => exact False.elim hq
    | cont => exact False.elim hq
theorem pe_callNS (F : FnOk X.prog X.w X.K X.mg X.base CX k f fd ps sp) (hr : Room k X.A) (hg : Gl X x) (hm : X.mg x = some (.ref f)) (hk : PySem.W.keepIn X.K (.ref f) = true) (hb : KBn X.K fd ps n ks g gV) (hx : ∀ σ, PassesAt CX X σ (E σ))
    (ha : PA X (e :: es) t) (hkw : PK X kws tk) (hall : (backToKw pos (keywordEach kws X.env)).all (·.1.isSome) = true := by rfl) (hks : (backToKw pos (keywordEach kws X.env)).filterMap (·.1) = ks := by rfl)
    (hdb : (x == ("__debug__" : Str)) = false := by decide) (he : starEach (e :: es) X.env = (false, eval e X.env) :: starEach es X.env := by rfl)
    (hpl : ((backTo pos (starEach (e :: es) X.env)).any (·.1) || (backToKw pos (keywordEach kws X.env)).any (·.1.isNone)) = false := by rfl) :
    PE X (.Call (.Name x p) (e :: es) kws pos) (tCallNS n ks.length sp gV E t tk) := by
  refine ⟨fun pins s σ H Q I h => ?_⟩
  refine wpAny_Call_Name_kw (ld_glob I hg hm ?_ hdb)
  refine PySem.W.callWith_KW (h₀ := X.base) I.ok.mod.kin hk hall (thn (ha.run pos pins s σ H _ I h) fun us s1 ⟨vs, H1, I1, r, q⟩ => ?_) hpl he
  refine thn (hkw.run pos pins s1 σ H1 _ I1 q) fun ws s2 ⟨zs, H2, I2, rz, l1, l2, q2⟩ => ⟨I2.kIn, ?_⟩
  rw [hks]
  exact run_fnNS F hr hb (hx σ) I2 r rz l1 l2 q2
end
theorem dk_nil {X : Cx} {W : WX} : PK X [] (tA X.K W dNil) := by
  obtain ⟨h⟩ := (pk_nil : PK X [] tNil)
  refine ⟨fun pos pins s σ H Q I hh => h pos pins s σ H Q I ?_⟩
  obtain ⟨Z, φ, η, st, rs, sl, af⟩ := hh
  exact af _ _ _ .refl rs [] rfl
theorem dk_cons {X : Cx} {W : WX} {e : Expr} {kws : List Keyword} {nm : Option Str} {kpos : Pos} {f : DE} {g : DA} (ha : PE X e (tE X.K W f)) (hr : PK X kws (tA X.K W g)) : PK X (⟨nm, e, kpos⟩ :: kws) (tA X.K W (dCons f g)) := by
  obtain ⟨h⟩ := pk_cons (nm := nm) (kpos := kpos) ha hr
  refine ⟨fun pos pins s σ H Q I hh => h pos pins s σ H Q I ?_⟩
  obtain ⟨Z, φ, η, st, rs, sl, af⟩ := hh
  refine ⟨Z, φ, η, st, rs, sl, af.bind.mono fun a Z' φ' H' t g' rs' v r => ?_⟩
  refine ⟨Z', φ', η, a.2, rs', sl.mono t, g'.bind.mono fun b Z2 φ2 H2 t2 g2 rs2 vs r2 => ?_⟩
  exact g2 _ _ _ .refl rs2 _ ⟨v, vs, rfl, r.mono t2.hz t2.app, r2⟩
/-- a def with keyword-only defaults, no others: mz the lacking ones -/
structure Okk (P : Program) (w : World) (K : PySem.W.Frag) (mg : Str → Option Value) (base : Heap) (k : Nat) (p : Str × Option Str) (ps : List Str) (d : He.DefD) (F : DF) : Prop where
  ex : ∃ fd, FnOk P w K mg base (L2.CX P w) k (He.fAd K p) fd ps (spF K F) ∧ FunD K d.name d.qual d.params d.body d.scope [] (d.kws K) (He.fAd K p) fd
  kp : PySem.W.keepIn K (.ref (He.fAd K p)) = true
theorem okk_of {P : Program} {w : World} {K : PySem.W.Frag} {mg : Str → Option Value} {base : Heap} {d : He.DefD} {k : Nat} {N ps : List Str} {np n : Nat} {fr : Bool} {b : DS} (hd : d.dfl = [])
    (h : ∃ fd, FunD K d.name d.qual d.params d.body d.scope (d.dvs K) (d.kws K) (He.fAd K d.at_) fd) (S : FnScope N ps d.scope) (hps : ps.length = np) (hN : N.length = n)
    (hbody : ∀ (f : Addr) (cdv : Value) (A : Around) (outer : List Env) (s : Shared) (H : Hp) (E : XK), Room k (cxOf (L2.CX P w) P w K mg base N d.qual d.scope f cdv A outer s H E).A →
      PassesOwn (model P w) (cxOf (L2.CX P w) P w K mg base N d.qual d.scope f cdv A outer s H E).A (cxOf (L2.CX P w) P w K mg base N d.qual d.scope f cdv A outer s H E).env (cxOf (L2.CX P w) P w K mg base N d.qual d.scope f cdv A outer s H E).xe →
      Takes (cxOf (L2.CX P w) P w K mg base N d.qual d.scope f cdv A outer s H E) (fun c d _ H => E c d H) →
      PSs (cxOf (L2.CX P w) P w K mg base N d.qual d.scope f cdv A outer s H E) d.body (tS K (fun c d _ H => E c d H) b)) :
    Okk P w K mg base (k + 1) d.at_ ps d (runF np n fr b) := by
  obtain ⟨fd, F⟩ := h
  refine ⟨⟨fd, fn_D F S hps hN fun cdv A outer s H E hr hp tk => hbody _ cdv A outer s H E hr hp tk, ?_⟩, F.kp⟩
  have e : d.dvs K = [] := by unfold He.DefD.dvs; rw [hd]; rfl
  rw [← e]; exact F
/-- how the call binds -/
theorem kbinds0 {K : PySem.W.Frag} {x qual : Str} {params : Arguments} {body : List Stmt} {scope : Scope} {kws : List (Str × V)} {f : Addr} {fd : FuncData} {ps : List Str} (F : FunD K x qual params body scope [] kws f fd) (n : Nat) (ks : List Str) (ms : List (Str × V)) (sel : List Src) (hms : ∀ q ∈ ms, q ∈ kws)
    (h : ∀ (kV doc pm : Value) (an : Option Addr) (cdv ct : Value) (us mv ws : List Value), (ms ≠ [] → ∃ D, kV = .ref D) → us.length = n → mv.length = ms.length → ws.length = ks.length →
      ∀ D, (ms ≠ [] → kV = .ref D) → KwChain D ((ms.map (·.1)).zip mv) (bindArgs (PySem.W.fnOf x qual params body scope .none kV doc pm an cdv ct) ⟨us, ks.zip ws⟩) (ps.zip (us ++ selK sel mv ws))) :
    ∃ mv : List Value, KBn K fd ps n ks (fun us ws => us ++ selK sel mv ws) (fun vs zs => vs ++ selK sel (ms.map (·.2)) zs) := by
  obtain ⟨oc, od, dV, kV, doc, pm, an, cdv, ct, osl, rfl, lk, hcd, hD, hK⟩ := F.ex
  rcases hD with ⟨_, rfl⟩ | ⟨e, _⟩
  · by_cases hm : ms = []
    · subst hm
      refine ⟨[], ⟨fun s us ws X l1 l2 => ?_, fun r1 r2 => r1.append (vals_sel .nil r2 sel)⟩⟩
      have := h kV doc pm an cdv ct us [] ws (fun z => absurd rfl z) l1 rfl l2 0 (fun z => absurd rfl z)
      exact BindsTo.of_looks fun M => PySem.W.Looks.of_pure this
    · rcases hK with e | ⟨D, rfl, hq⟩
      · subst e
        cases ms with
        | nil => exact absurd rfl hm
        | cons q qs => exact absurd (hms q List.mem_cons_self) (by simp)
      · obtain ⟨mv, hl, rk, hks⟩ := kwd_vals (ms := ms) fun q hm => hq q (hms q hm)
        refine ⟨mv, ⟨fun s us ws X l1 l2 => ?_, fun r1 r2 => r1.append (vals_sel rk r2 sel)⟩⟩
        exact BindsTo.of_looks fun M => KwChain.looks X hks (h (.ref D) doc pm an cdv ct us mv ws (fun _ => ⟨D, rfl⟩) l1 hl l2 D (fun _ => rfl))
  · exact absurd rfl e
theorem de_callK {X : Cx} {W : WX} {k j n : Nat} {ps ks : List Str} {x : Str} {d : He.DefD} {p pos : Pos} {e : Expr} {es : List Expr} {kws : List Keyword} {fs gs : DA} {F : DF} (ms : List (Str × He.Dv)) (mz : List P) (sel : List Src) (tk : Takes X W) (o : Okk X.prog X.w X.K X.mg X.base k (x, none) ps d F) (hr : Room j X.A) (hm : X.mg x = some (.ref (He.ga X.K x)))
    (hms : ∀ q ∈ ms, q ∈ d.kwd) (hz : ∀ Z φ, RepDs X.K Z φ (mz.map D.fz) (ms.map fun q => q.2.v X.K))
    (ha : PA X (e :: es) (tA X.K W fs)) (hkw : PK X kws (tA X.K W gs)) 
    (hb : ∀ (kV doc pm : Value) (an : Option Addr) (cdv ct : Value) (us mv ws : List Value), us.length = n → mv.length = ms.length → ws.length = ks.length →
      ∀ D, (ms ≠ [] → kV = .ref D) → KwChain D ((ms.map (·.1)).zip mv) (bindArgs (PySem.W.fnOf d.name d.qual d.params d.body d.scope .none kV doc pm an cdv ct) ⟨us, ks.zip ws⟩) (ps.zip (us ++ selK sel mv ws)))
    (hk : k ≤ j := by decide) (hg : Gl X x := by rfl)
    (hall : (backToKw pos (keywordEach kws X.env)).all (·.1.isSome) = true := by rfl) (hks : (backToKw pos (keywordEach kws X.env)).filterMap (·.1) = ks := by rfl)
    (hdb : (x == ("__debug__" : Str)) = false := by decide) (he : starEach (e :: es) X.env = (false, eval e X.env) :: starEach es X.env := by rfl)
    (hpl : ((backTo pos (starEach (e :: es) X.env)).any (·.1) || (backToKw pos (keywordEach kws X.env)).any (·.1.isNone)) = false := by rfl) :
    PE X (.Call (.Name x p) (e :: es) kws pos) (tE X.K W (dCallK F n ks.length sel mz fs gs)) := by
  obtain ⟨fd, h1, h2⟩ := o.ex
  obtain ⟨mv, kb⟩ := kbinds0 h2 n ks (ms.map fun q => (q.1, q.2.v X.K)) sel (fun q hq => by
    obtain ⟨z, hz, rfl⟩ := List.mem_map.mp hq
    exact List.mem_map.mpr ⟨z, hms z hz, rfl⟩) (fun kV doc pm an cdv ct us mv ws _ l1 l2 l3 D hD => by
      have := hb kV doc pm an cdv ct us mv ws l1 (by simpa using l2) l3 D (fun z => hD (by simpa using z))
      rw [List.map_map]
      exact this)
  refine (pe_callNS h1 (hr.mono hk) hg hm o.kp kb (fun σ => passAt tk σ) ha hkw hall hks hdb he hpl).to fun σ H Q hh => ?_
  obtain ⟨Z, φ, η, st, rs, sl, af⟩ := hh
  refine ⟨Z, φ, η, st, rs, sl, af.bind.mono fun a Z' φ' H' t g' rs' vs r => ?_⟩
  refine ⟨Z', φ', η, a.2, rs', sl.mono t, g'.bind.mono fun b Z2 φ2 H2 t2 g2 rs2 zs r2 => ?_⟩
  split at g2
  · rename_i hl
    have r1 := r.mono t2.hz t2.app
    refine ⟨by rw [← repds_len r1]; exact hl.1, by rw [← repds_len r2]; exact hl.2, ?_⟩
    rw [List.map_map]
    exact call_sp rs2 ((sl.mono t).mono t2) (reps_app r1 (reps_sel (hz _ _) r2 sel)) g2
  · exact g2.elim
end M

end
section
set_option Elab.async false
set_option linter.all false
set_option maxRecDepth 100000
set_option maxHeartbeats 0
namespace M
open PySem PySem.Spec PyProof.Rows L2
section
variable {prog : Program} {w : World} {A : Around} {E : Value → Shared → Prop} {s : Shared}
theorem adjust_rev (n : Nat) : Builtin.Slice.sliceAdjust none none (-1) (n : Int) = ((n : Int) - 1, -1) := by
  unfold Builtin.Slice.sliceAdjust
  simp
theorem places_rev (n : Nat) : Builtin.Slice.slicePlaces ((n : Int) - 1) (-1) (-1) = n := by
  unfold Builtin.Slice.slicePlaces
  simp
  omega
theorem fm_congr {α β : Type} {f g : α → Option β} : ∀ {l : List α}, (∀ x ∈ l, f x = g x) → l.filterMap f = l.filterMap g
  | [], _ => rfl
  | a :: l, h => by rw [List.filterMap_cons, List.filterMap_cons, h a List.mem_cons_self, fm_congr fun x hx => h x (List.mem_cons_of_mem _ hx)]
theorem pick_rev (xs : Array Value) : ((List.range xs.size).filterMap fun (m : Nat) => xs[(((xs.size : Int) - 1) + (m : Int) * (-1)).toNat]?).toArray = xs.toList.reverse.toArray := by
  have h := HT.pick_gen xs.toList.reverse.toArray 0 xs.size
  have e : (List.range xs.size).filterMap (fun (m : Nat) => xs[(((xs.size : Int) - 1) + (m : Int) * (-1)).toNat]?) = (List.range xs.size).filterMap fun (m : Nat) => xs.toList.reverse.toArray[(((0 : Nat) : Int) + (m : Int) * 1).toNat]? := by
    refine fm_congr fun m hm => ?_
    have hm := List.mem_range.mp hm
    rw [show (((0 : Nat) : Int) + (m : Int) * 1).toNat = m by omega, show (((xs.size : Int) - 1) + (m : Int) * (-1)).toNat = xs.size - 1 - m by omega]
    have e2 : xs.toList.reverse[m]? = xs.toList[xs.size - 1 - m]? := by rw [List.getElem?_reverse (by rw [Array.length_toList]; exact hm), Array.length_toList]
    simp only [List.getElem?_toArray]
    rw [e2, Array.getElem?_toList]
  rw [e, h]
  congr 1
  rw [List.drop_zero]
  exact List.take_of_length_le (by simp)
theorem sliceApplied_rev {sl : Addr} {vl vu vs : Value} {n : Nat} {Q : Int × Int × Nat → Shared → Prop} (hs : s.heap.IsSliceOf sl vl vu vs) (pl : IsPart vl none) (pu : IsPart vu none) (ps : IsPart vs (some (-1)))
    (h : Q ((n : Int) - 1, -1, n) s) : wpAny (model prog w) A (Builtin.Slice.sliceApplied (.ref sl) (pure (n : Int))) Q E s := by
  obtain ⟨os, hos, hcs, hds⟩ := id hs
  unfold Builtin.Slice.sliceApplied Builtin.Slice.sliceFields
  refine wpAny_bind (wpAny_bind (wpAny_field hos hds (x := vl) rfl (wpAny_bind (wpAny_field hos hds (x := vu) rfl (wpAny_bind (wpAny_field hos hds (x := vs) rfl (wpAny_pure ?_)))))))
  refine wpAny_bind (HT.slicePart_ ps ?_)
  show wpAny _ _ (if ((-1 : Int) == 0) = true then _ else _) _ _ s
  rw [if_neg (by decide)]
  refine wpAny_bind (HT.slicePart_ pl (wpAny_bind (HT.slicePart_ pu (wpAny_bind (wpAny_pure ?_)))))
  show wpAny _ _ (match Builtin.Slice.sliceAdjust none none (-1) (n : Int) with | (lo, hi) => pure (lo, (-1 : Int), Builtin.Slice.slicePlaces lo hi (-1))) _ _ s
  rw [adjust_rev n]
  show wpAny _ _ (pure ((n : Int) - 1, (-1 : Int), Builtin.Slice.slicePlaces ((n : Int) - 1) (-1) (-1))) _ _ s
  rw [places_rev]
  exact wpAny_pure h
theorem getItem_tuple_rev {t sl : Addr} {items : Array Value} {vl vu vs : Value} {Q : Value → Shared → Prop} (ht : IsTup s.heap t items) (hs : s.heap.IsSliceOf sl vl vu vs) (pl : IsPart vl none) (pu : IsPart vu none) (ps : IsPart vs (some (-1)))
    (h : Q (.ref s.heap.objs.size) { s with heap := s.heap.push { cls := .type "tuple", data := .seq items.toList.reverse.toArray } })
    (hsz : items.size ≤ sizeLine) : wpAny (model prog w) A (getItem (.ref t) (.ref sl)) Q E s := by
  have htake : sizeOk (.seq items.toList.reverse.toArray) := by
    show items.toList.reverse.toArray.size ≤ sizeLine
    rw [List.size_toArray, List.length_reverse, Array.length_toList]
    exact hsz
  obtain ⟨os, hos, hcs, hds⟩ := id hs
  have hTs : s.TypeIs (.ref sl) "slice" := ⟨os, hos, hcs⟩
  unfold getItem
  try with_reducible refine wpAny_holding ?_
  first | refine wpAny_bind (wpAny_pure ?_) | skip
  refine wpAny_bind (wpAny_sequenceKey ht.typeIs (by decide) ?_)
  refine wpAny_bind (wpAny_callSpecial?_slot (name := Str.ofString "__getitem__") ht.typeIs PyProof.Rows.slot_tuple_getitem
    (wpAny_call_entry PyProof.Rows.slot_tuple_getitem ht.typeIs entry_tuple_getitem ?_ (args_tuple_getitem _ _)))
  show wpAny _ _ (Builtin.Tuple.tupleItemsOf (.ref t) >>= _) _ _ s
  refine wpAny_bind (tupleItemsOf_ ht ?_)
  refine wpAny_bind (wpAny_typeOf hTs ?_)
  rw [if_pos (by decide)]
  refine wpAny_bind (sliceApplied_rev hs pl pu ps ?_)
  have hno : ¬ ((((items.size : Int) - 1) == 0 && (-1 : Int) == 1 && items.size == items.size) = true) := by
    intro q
    rw [Bool.and_eq_true, Bool.and_eq_true] at q
    exact absurd q.1.2 (by decide)
  show wpAny _ _ (if (((items.size : Int) - 1) == 0 && (-1 : Int) == 1 && items.size == items.size) = true then _ else _) _ _ s
  rw [if_neg hno, pick_rev]
  first
    | exact wpAny_bind (m := Builtin.Tuple.tupleExact _) (wpAny_newObj_type (wpAny_pure ⟨_, rfl, wpAny_pure h⟩) htake)
    | exact wpAny_bind (m := Builtin.Tuple.tupleExact _) (wpAny_newObj_type (wpAny_bind (wpAny_pure (wpAny_pure ⟨_, rfl, wpAny_pure h⟩))) htake)
end
section
variable {X : Cx} {W : WX}
/-- e[::-1]: a list's or a tuple's -/
def tRevA (K : PySem.W.Frag) (te : TE) : TE := fun σ H Q => te σ H fun x H1 => ∃ a xs, x = .ref a ∧ ((SqL K H1 a xs ∧ ∀ p, H1 p = none → Q (.ref p) (upd H1 p (.lst xs.reverse))) ∨ (SqT K H1 a xs ∧ ∀ p, H1 p = none → Q (.ref p) (upd H1 p (.tup xs.reverse))))
theorem pe_revA {e : Expr} {te : TE} {k : Nat} {p1 p2 p3 pos : Pos} (he : PE X e te) : PE X (.Subscript e (.Slice none none (some (.UnaryOp .USub (.Constant (.int 1) k p1) p2)) p3) pos) (tRevA X.K te) := by
  refine ⟨fun pins s σ H Q I h => ?_⟩
  refine Subscript_ (thn (he.run pins s σ H _ I h) fun v s1 ⟨x, H1, I1, r1, q1⟩ => ?_)
  obtain ⟨a, xs, ex, hx⟩ := q1
  subst ex
  cases r1
  have hst : PO X (some (.UnaryOp .USub (.Constant (.int 1) k p1) p2)) (tPart (tUn (rU fun i => .int (-i)) (tC (.int 1)))) := po_some (pe_un un_neg pe_int)
  refine wpAny_Slice (thn (po_none.run pins s1 σ H1 (fun o H2 => o = none ∧ H2 = H1) I1 ⟨rfl, rfl⟩) fun vl s2 ⟨l, H2, I2, pl, el, e2⟩ => ?_)
  subst el e2
  refine thn (po_none.run pins s2 σ H2 (fun o H3 => o = none ∧ H3 = H2) I2 ⟨rfl, rfl⟩) fun vu s3 ⟨u, H3, I3, pu, eu, e3⟩ => ?_
  subst eu e3
  refine thn (hst.run pins s3 σ H3 (fun o H4 => o = some (-1) ∧ H4 = H3) I3 ⟨1, rfl, -1, rfl, rfl, rfl⟩) fun vs s4 ⟨o, H4, I4, ps, eo, e4⟩ => ?_
  subst eo e4
  have I5 : Inv X pins σ H4 { s4 with heap := s4.heap.push { cls := .type "slice", data := .fields #[vl, vu, vs] } } := I4.kept (t' := s4.toks) fun b ob q => Heap.get?_push_of_some _ q
  show wpAny (model X.prog X.w) X.A (subscriptTail e (.Slice none none (some (.UnaryOp .USub (.Constant (.int 1) k p1) p2)) p3) (.ref a) (.ref s4.heap.objs.size)) (EP X pins σ Q) X.xe { s4 with heap := s4.heap.push { cls := .type "slice", data := .fields #[vl, vu, vs] } }
  rcases hx with ⟨hx, q⟩ | ⟨hx, q⟩
  · obtain ⟨its, r, ht, hz⟩ := I5.list hx
    have hlen := r.length
    refine tail_any (ops := [.ref a, .ref s4.heap.objs.size]) ht.isList.typeIs (PySem.slot_list_getitem.lookup) ?_ (by with_unfolding_all rfl)
    refine wpAny_getItem_list_slice ht.isList (Heap.IsSliceOf.new _ vl vu vs) pl pu ps (by decide) ?_ (by rw [List.size_toArray]; omega)
    rw [PySem.W.krv_pick]
    refine ⟨.ref _, _, I5.laid (t' := s4.toks) (o := .lst xs.reverse) (fun b ob q => Heap.get?_push_of_some _ q) (Nat.le_refl _) ?_, rfl, q _ (I5.hok.fresh (Nat.le_refl _))⟩
    exact ⟨by rw [List.length_reverse]; exact hz, _, 0, r.reverse, Heap.get?_push_size _ rfl⟩
  · obtain ⟨its, r, ht, hz⟩ := I5.tuple hx
    have hlen : its.toArray.size = xs.length := by rw [List.size_toArray]; exact r.length.symm
    refine tail_any (ops := [.ref a, .ref s4.heap.objs.size]) ht.typeIs (PyProof.Rows.slot_tuple_getitem.lookup) ?_ (by with_unfolding_all rfl)
    refine getItem_tuple_rev ht (Heap.IsSliceOf.new _ vl vu vs) pl pu ps ?_ (by rw [hlen]; exact hz)
    refine ⟨.ref _, _, I5.laid (t' := s4.toks) (o := .tup xs.reverse) (fun b ob q => Heap.get?_push_of_some _ q) (Nat.le_refl _) ?_, rfl, q _ (I5.hok.fresh (Nat.le_refl _))⟩
    exact ⟨by rw [List.length_reverse]; exact hz, _, r.reverse, IsTup.new _ _⟩
/-- e[::-1] by the store -/
def revAO (d : D) (st : Sr) : R (D × Sr) := match peek st d with
  | some (.lst xs) => .ok (.cell st.length, st ++ [.lst xs.reverse])
  | some (.rol xs) => .ok (.cell st.length, st ++ [.lst xs.reverse])
  | some (.tup xs) => .ok (.fz (.tup xs.reverse), st)
  | _ => .stuck
def dRevA (f : DE) : DE := fun η st => (f η st).bind fun a => revAO a.1 a.2
theorem de_revA {e : Expr} {f : DE} {k : Nat} {p1 p2 p3 pos : Pos} (he : PE X e (tE X.K W f)) : PE X (.Subscript e (.Slice none none (some (.UnaryOp .USub (.Constant (.int 1) k p1) p2)) p3) pos) (tE X.K W (dRevA f)) := by
  refine (pe_revA he).to fun σ H Q h => ?_
  obtain ⟨Z, φ, η, st, rs, sl, af⟩ := h
  refine ⟨Z, φ, η, st, rs, sl, af.bind.mono fun a Z' φ' H' t g' rs' v r => ?_⟩
  unfold revAO at g'
  split at g'
  · rename_i xs e1
    obtain ⟨a', vs, rfl, h2, h3⟩ := peek_pk rs' e1 r
    exact ⟨a', vs, rfl, .inl ⟨SqL.of h2, fun p hp => g'.lst rs' hp h3.reverse⟩⟩
  · rename_i xs e1
    obtain ⟨a', vs, rfl, h2, h3⟩ := peek_pk rs' e1 r
    exact ⟨a', vs, rfl, .inl ⟨h2, fun p hp => g'.lst rs' hp h3.reverse⟩⟩
  · rename_i xs e1
    obtain ⟨a', vs, rfl, h2, h3⟩ := peek_pk rs' e1 r
    refine ⟨a', vs, rfl, .inr ⟨h2, fun p hp => g'.newZ rs' hp fun sz => ?_⟩⟩
    rw [Rep]
    exact ⟨p, _, rfl, .inl (.inl upd_same), Reps.mono sz _ _ h3.reverse⟩
  · exact g'.elim
end
end M

end
section
set_option Elab.async false
set_option linter.all false
set_option maxRecDepth 100000
set_option maxHeartbeats 0
namespace M
open PySem L2
@[simp] theorem bind_ok {α β : Type} (a : α) (k : α → R β) : (R.ok a).bind k = k a := rfl
@[simp] theorem bind_stuck {α β : Type} (k : α → R β) : (R.stuck : R α).bind k = .stuck := rfl
@[simp] theorem bind_exc {α β : Type} (c : Str) (fs : Option (List (Str × P))) (η : Et) (st : Sr) (k : α → R β) : (R.exc c fs η st : R α).bind k = .exc c fs η st := rfl
/-! ### equality of data -/
@[simp] theorem eqP_int (i j : Int) : eqP (.int i) (.int j) = decide (i = j) := by
  unfold eqP toPy
  first | rfl | (simp [PyData.eqv]; done) | (by_cases h : i = j <;> simp [PyData.eqv, h])
theorem toPys_map (xs : List Int) : toPys (xs.map P.int) = xs.map PyData.int := by
  induction xs with
  | nil => rfl
  | cons x r ih => rw [List.map_cons, List.map_cons]; unfold toPys; rw [ih]; rfl
theorem eqvAll_ints : ∀ (xs ys : List Int), PyData.eqvAll (xs.map PyData.int) (ys.map PyData.int) = decide (xs = ys)
  | [], [] => rfl
  | [], _ :: _ => by simp [PyData.eqvAll]
  | _ :: _, [] => by simp [PyData.eqvAll]
  | x :: xs, y :: ys => by
    rw [List.map_cons, List.map_cons]
    show (PyData.eqv (.int x) (.int y) && PyData.eqvAll (xs.map PyData.int) (ys.map PyData.int)) = _
    rw [eqvAll_ints xs ys]
    by_cases h : x = y <;> by_cases h2 : xs = ys <;> simp [PyData.eqv, h, h2]
@[simp] theorem eqP_tup (xs ys : List Int) : eqP (.tup (xs.map P.int)) (.tup (ys.map P.int)) = decide (xs = ys) := by
  show PyData.eqvAll (toPys (xs.map P.int)) (toPys (ys.map P.int)) = _
  rw [toPys_map, toPys_map, eqvAll_ints]
@[simp] theorem eqP_lst (xs ys : List Int) : eqP (.lst (xs.map P.int)) (.lst (ys.map P.int)) = decide (xs = ys) := by
  show PyData.eqvAll (toPys (xs.map P.int)) (toPys (ys.map P.int)) = _
  rw [toPys_map, toPys_map, eqvAll_ints]
theorem canLay_ints : ∀ xs : List Int, PyData.canLayAll0 (xs.map PyData.int) = true
  | [] => rfl
  | x :: r => by rw [List.map_cons]; show (PyData.canLay0 (.int x) && PyData.canLayAll0 (r.map PyData.int)) = true; rw [canLay_ints r]; rfl
theorem depth_ints0 : ∀ xs : List Int, PyData.depthAll (xs.map PyData.int) = 0
  | [] => rfl
  | x :: r => by rw [List.map_cons]; show max (PyData.depth (.int x)) (PyData.depthAll (r.map PyData.int)) = 0; rw [depth_ints0 r]; rfl
@[simp] theorem shP_int (i : Int) : shP (.int i) = true := rfl
@[simp] theorem shP_tup (xs : List Int) : shP (.tup (xs.map P.int)) = true := by
  show (PyData.canLayAll0 (toPys (xs.map P.int)) && decide (PyData.depthAll (toPys (xs.map P.int)) + 1 ≤ 64)) = true
  rw [toPys_map, canLay_ints, depth_ints0]; rfl
@[simp] theorem shP_lst (xs : List Int) : shP (.lst (xs.map P.int)) = true := by
  show (PyData.canLayAll0 (toPys (xs.map P.int)) && decide (PyData.depthAll (toPys (xs.map P.int)) + 1 ≤ 64)) = true
  rw [toPys_map, canLay_ints, depth_ints0]; rfl
/-! ### calls -/
/-- a cell that names no other -/
def plainC : Ct → Bool
  | .obj _ _ => false
  | _ => true
theorem plainC_cells {c : Ct} (h : plainC c = true) : cellsC c = [] := by cases c <;> first | rfl | cases h
theorem plainC_ren {c : Ct} {ids : List Nat} (h : plainC c = true) : renC ids c = some c := by cases c <;> first | rfl | cases h
theorem plainC_bk {c : Ct} {ids : List Nat} {n : Nat} (h : plainC c = true) : bkC ids n c = c := by cases c <;> first | rfl | cases h
theorem cellsA_fz : ∀ ps : List P, cellsA (ps.map D.fz) = []
  | [] => rfl
  | p :: r => by rw [List.map_cons]; show [] ++ cellsA (r.map D.fz) = []; rw [cellsA_fz r]; rfl
theorem renA_fz {ids : List Nat} : ∀ ps : List P, renA ids (ps.map D.fz) = some (ps.map D.fz)
  | [] => rfl
  | p :: r => by rw [List.map_cons]; unfold renA; rw [renA_fz r]; rfl
theorem callF_fz {F : DF} {ps : List P} {q : P} {η : Et} {st : Sr} (h : F (ps.map D.fz) [] = .ok (.fz q, [])) : callF F (ps.map D.fz) η st = .ok (.fz q, st) := by
  unfold callF
  rw [cellsA_fz]
  show callI F [] (ps.map D.fz) η st = _
  unfold callI
  rw [if_pos List.nodup_nil, renA_fz]
  show (match F (ps.map D.fz) [] with
    | .ok (d, st2) => if ([] : List Nat).length ≤ st2.length then R.ok (bkD [] st.length d, backS [] st st2) else .stuck
    | .exc c fs _ st2 => if ([] : List Nat).length ≤ st2.length then .exc c fs η (backS [] st st2) else .stuck
    | .stuck => .stuck) = _
  rw [h]
  show R.ok (D.fz q, putAll st [] _ ++ []) = _
  rw [List.append_nil]
  rfl
theorem callF_exc {F : DF} {ps : List P} {c : Str} {fs : Option (List (Str × P))} {η : Et} {st : Sr} (h : F (ps.map D.fz) [] = .exc c fs [] []) : callF F (ps.map D.fz) η st = .exc c fs η st := by
  unfold callF
  rw [cellsA_fz]
  show callI F [] (ps.map D.fz) η st = _
  unfold callI
  rw [if_pos List.nodup_nil, renA_fz]
  show (match F (ps.map D.fz) [] with
    | .ok (d, st2) => if ([] : List Nat).length ≤ st2.length then R.ok (bkD [] st.length d, backS [] st st2) else .stuck
    | .exc c fs _ st2 => if ([] : List Nat).length ≤ st2.length then .exc c fs η (backS [] st st2) else .stuck
    | .stuck => .stuck) = _
  rw [h]
  show R.exc c fs η (putAll st [] _ ++ []) = _
  rw [List.append_nil]
  rfl
theorem cellsA_c {n : Nat} {bs : List P} : ∀ as : List P, cellsA (as.map D.fz ++ .cell n :: bs.map D.fz) = [n]
  | [] => by show [n] ++ cellsA (bs.map D.fz) = [n]; rw [cellsA_fz]; rfl
  | a :: r => by show [] ++ cellsA (r.map D.fz ++ .cell n :: bs.map D.fz) = [n]; rw [cellsA_c r]; rfl
theorem idx_self (n : Nat) : idx n [n] = some 0 := by unfold idx; rw [if_pos rfl]
theorem renA_c {n : Nat} {bs : List P} : ∀ as : List P, renA [n] (as.map D.fz ++ .cell n :: bs.map D.fz) = some (as.map D.fz ++ .cell 0 :: bs.map D.fz)
  | [] => by
    show (match ren [n] (.cell n), renA [n] (bs.map D.fz) with
      | some d', some ds' => some (d' :: ds')
      | _, _ => none) = _
    rw [renA_fz]
    show (match (idx n [n]).map D.cell, some (bs.map D.fz) with
      | some d', some ds' => some (d' :: ds')
      | _, _ => none) = _
    rw [idx_self]
    rfl
  | a :: r => by
    show (match ren [n] (.fz a), renA [n] (r.map D.fz ++ .cell n :: bs.map D.fz) with
      | some d', some ds' => some (d' :: ds')
      | _, _ => none) = _
    rw [renA_c r]
    rfl
theorem reach_c {st : Sr} {n : Nat} {c : Ct} (hn : st[n]? = some c) (hc : plainC c = true) : reach st [n] = [n] := by
  have g1 : grow st [n] [n] = [n] := by
    show grow st (match st[n]? with | some c => addNew [n] (cellsC c) | none => [n]) [] = [n]
    rw [hn]
    show grow st (addNew [n] (cellsC c)) [] = [n]
    rw [plainC_cells hc]
    rfl
  show grow st (grow st [n] [n]) (grow st [n] [n]) = [n]
  rw [g1, g1]
theorem subS_c {st : Sr} {n : Nat} {c : Ct} (hn : st[n]? = some c) (hc : plainC c = true) : subS [n] st = some [c] := by
  show (match st[n]? with
    | some c => match renC [n] c, subG [n] st [] with
      | some c', some cs => some (c' :: cs)
      | _, _ => none
    | none => none) = _
  rw [hn]
  show (match renC [n] c, some ([] : Sr) with
      | some c', some cs => some (c' :: cs)
      | _, _ => none) = _
  rw [plainC_ren hc]
theorem nodup_one (n : Nat) : [n].Nodup := by simp
/-- one cell among the arguments -/
theorem callF_c {F : DF} {as bs : List P} {q : P} {c c' : Ct} {η : Et} {st : Sr} {n : Nat} (hn : st[n]? = some c) (hc : plainC c = true) (hc' : plainC c' = true) (h : F (as.map D.fz ++ .cell 0 :: bs.map D.fz) [c] = .ok (.fz q, [c'])) :
    callF F (as.map D.fz ++ .cell n :: bs.map D.fz) η st = .ok (.fz q, st.set n c') := by
  unfold callF
  rw [cellsA_c, reach_c hn hc]
  unfold callI
  rw [if_pos (nodup_one n), renA_c, subS_c hn hc]
  show (match F (as.map D.fz ++ .cell 0 :: bs.map D.fz) [c] with
    | .ok (d, st2) => if [n].length ≤ st2.length then R.ok (bkD [n] st.length d, backS [n] st st2) else .stuck
    | .exc c fs _ st2 => if [n].length ≤ st2.length then .exc c fs η (backS [n] st st2) else .stuck
    | .stuck => .stuck) = _
  rw [h]
  show R.ok (D.fz q, putAll st [n] ([c'].map (bkC [n] st.length)) ++ []) = _
  rw [List.append_nil, List.map_cons, List.map_nil, plainC_bk hc']
  rfl
end M
namespace M
open PySem L2
/-! ### a def's end -/
theorem exit0 {p : P} {st : Sr} : exitF true 0 (.fz p) st = .ok (.fz p, []) := by
  show exitI 0 (.fz p) st = _
  unfold exitI
  rw [if_pos ⟨rfl, List.nodup_nil⟩]
  rfl
theorem exit1 {p : P} {st : Sr} {c : Ct} (hn : st[0]? = some c) (hc : plainC c = true) : exitF true 1 (.fz p) st = .ok (.fz p, [c]) := by
  show exitI 1 (.fz p) st = _
  have e : reach st (List.range 1 ++ cellsD (.fz p)) = [0] := reach_c hn hc
  unfold exitI
  rw [e, if_pos ⟨rfl, nodup_one 0⟩, subS_c hn hc]
  rfl
theorem exit0l {k : Nat} {xs : List P} {st : Sr} (hk : st[k]? = some (.lst xs)) : exitF true 0 (.cell k) st = .ok (.fz (.lst xs), []) := by
  show (match (if k < 0 then some (D.cell k, st) else (toP st (.cell k)).map fun r => (D.fz r.1, r.2)) with
    | some (d1, st1) => exitI 0 d1 st1
    | none => .stuck) = _
  rw [if_neg (Nat.not_lt_zero _)]
  have e : toP st (.cell k) = some (.lst xs, st.set k (.frz (.lst xs))) := by unfold toP; dsimp only; rw [hk]
  rw [e]
  exact exit0
theorem exit1l {k : Nat} {xs : List P} {st : Sr} {c : Ct} (hk : st[k + 1]? = some (.lst xs)) (hn : st[0]? = some c) (hc : plainC c = true) : exitF true 1 (.cell (k + 1)) st = .ok (.fz (.lst xs), [c]) := by
  show (match (if k + 1 < 1 then some (D.cell (k + 1), st) else (toP st (.cell (k + 1))).map fun r => (D.fz r.1, r.2)) with
    | some (d1, st1) => exitI 1 d1 st1
    | none => .stuck) = _
  rw [if_neg (by omega)]
  have e : toP st (.cell (k + 1)) = some (.lst xs, st.set (k + 1) (.frz (.lst xs))) := by unfold toP; dsimp only; rw [hk]
  rw [e]
  exact exit1 (by rw [List.getElem?_set_ne (by omega)]; exact hn) hc
/-- a def of no cells, of one cell -/
theorem run0 {np n : Nat} {b : DS} {ds : List D} {p : P} {η' : Et} {st' : Sr} (hl : ds.length = np) (h : b (ds.map some ++ List.replicate (n - np) none) [] = .ok (.rt (.fz p), η', st')) : runF np n true b ds [] = .ok (.fz p, []) := by
  unfold runF
  rw [if_pos hl, h]
  exact exit0
theorem run0l {np n k : Nat} {b : DS} {ds : List D} {xs : List P} {η' : Et} {st' : Sr} (hl : ds.length = np) (h : b (ds.map some ++ List.replicate (n - np) none) [] = .ok (.rt (.cell k), η', st')) (hk : st'[k]? = some (.lst xs)) : runF np n true b ds [] = .ok (.fz (.lst xs), []) := by
  unfold runF
  rw [if_pos hl, h]
  exact exit0l hk
theorem run1 {np n : Nat} {b : DS} {ds : List D} {p : P} {η' : Et} {st' : Sr} {c0 c : Ct} (hl : ds.length = np) (h : b (ds.map some ++ List.replicate (n - np) none) [c0] = .ok (.rt (.fz p), η', st')) (hn : st'[0]? = some c) (hc : plainC c = true) : runF np n true b ds [c0] = .ok (.fz p, [c]) := by
  unfold runF
  rw [if_pos hl, h]
  exact exit1 hn hc
theorem run1l {np n k : Nat} {b : DS} {ds : List D} {xs : List P} {η' : Et} {st' : Sr} {c0 c : Ct} (hl : ds.length = np) (h : b (ds.map some ++ List.replicate (n - np) none) [c0] = .ok (.rt (.cell (k + 1)), η', st')) (hk : st'[k + 1]? = some (.lst xs)) (hn : st'[0]? = some c) (hc : plainC c = true) : runF np n true b ds [c0] = .ok (.fz (.lst xs), [c]) := by
  unfold runF
  rw [if_pos hl, h]
  exact exit1l hk hn hc
end M
namespace M
open PySem L2
/-! ### ranges -/
theorem ge62 (k : Nat) : -(2 ^ 62 : Int) ≤ (k : Int) := Int.le_trans (b := 0) (by decide +kernel) (Int.natCast_nonneg k)
theorem lt62 {k : Nat} (h : k ≤ 1000000) : (k : Int) < 2 ^ 62 := Int.lt_of_le_of_lt (b := ((1000000 : Nat) : Int)) (Int.ofNat_le.mpr h) (by decide +kernel)
theorem lcR1_eq {f : DA} {i : Nat} {t : DT} {fe : DE} {η : Et} {st st' : Sr} {k : Nat} (hf : f η st = .ok ([.fz (.int k)], st')) (hk : k ≤ 1000000) : dLcR1 f i t fe η st = lcF (lcD i t fe η (rangeP 0 k) [] st') := by
  unfold dLcR1
  rw [hf, bind_ok]
  exact if_pos ⟨ge62 k, lt62 hk⟩
theorem forR1_eq {f : DA} {g : DG} {b : DS} {η : Et} {st st' : Sr} {k : Nat} (hf : f η st = .ok ([.fz (.int k)], st')) (hk : k ≤ 1000000) : dForR1 f g b η st = loopD g b (rangeP 0 k) η st' := by
  unfold dForR1
  rw [hf, bind_ok]
  exact if_pos ⟨ge62 k, lt62 hk⟩
theorem lcF_ok {xs : List P} {st : Sr} : lcF (.ok (xs, st)) = .ok (.cell st.length, st ++ [.lst xs]) := rfl
end M
namespace M
open PySem L2
theorem e64 : (2 ^ 64 : Int) = 18446744073709551616 := by decide +kernel
theorem mulO_l {i j : Int} {st : Sr} (h : -18446744073709551616 < i ∧ i < 18446744073709551616) : mulO (.fz (.int i)) (.fz (.int j)) st = .ok (.fz (.int (i * j)), st) := by
  show (if (-(2 ^ 64) < i ∧ i < 2 ^ 64) ∨ (-(2 ^ 64) < j ∧ j < 2 ^ 64) then R.ok (D.fz (.int (i * j)), st) else .stuck) = _
  exact if_pos (.inl (by rw [e64]; exact h))
theorem mulO_r {i j : Int} {st : Sr} (h : -18446744073709551616 < j ∧ j < 18446744073709551616) : mulO (.fz (.int i)) (.fz (.int j)) st = .ok (.fz (.int (i * j)), st) := by
  show (if (-(2 ^ 64) < i ∧ i < 2 ^ 64) ∨ (-(2 ^ 64) < j ∧ j < 2 ^ 64) then R.ok (D.fz (.int (i * j)), st) else .stuck) = _
  exact if_pos (.inr (by rw [e64]; exact h))
theorem modO_ok {i j : Int} {st : Sr} (h : 0 < j) : modO (.fz (.int i)) (.fz (.int j)) st = .ok (.fz (.int (i % j)), st) := by
  show (match (if 0 < j then some (P.int (i % j)) else none) with | some p => R.ok (D.fz p, st) | none => .stuck) = _
  rw [if_pos h]
theorem fdivO_ok {i j : Int} {st : Sr} (h : 0 < j ∧ j < 1073741824) : fdivO (.fz (.int i)) (.fz (.int j)) st = .ok (.fz (.int (i / j)), st) := by
  show (match (if 0 < j ∧ j < 1073741824 then some (P.int (i / j)) else none) with | some p => R.ok (D.fz p, st) | none => .stuck) = _
  rw [if_pos h]
end M

end
section
set_option Elab.async false
set_option linter.all false
set_option maxRecDepth 100000
set_option maxHeartbeats 0
namespace M
open PySem L2
/-! # Rules: a meaning's value, construct by construct -/
section
variable {η η' : Et} {st st' s1 s2 s3 : Sr} {f g h : DE} {fa ga : DA} {t u : DT} {a b c d : D} {as bs : List D} {p q : P} {i j n : Nat}
theorem e_var (h : η[i]? = some (some d)) : dVar i η st = .ok (d, st) := by unfold dVar; rw [h]
theorem e_k : dK p η st = .ok (.fz p, st) := rfl
theorem e_bin {o : D → D → Sr → R (D × Sr)} {r : R (D × Sr)} (h1 : f η st = .ok (a, s1)) (h2 : g η s1 = .ok (b, s2)) (h3 : o a b s2 = r) : dBin o f g η st = r := by
  unfold dBin; rw [h1, bind_ok]; dsimp only; rw [h2, bind_ok]; exact h3
theorem e_un {o : D → Sr → R (D × Sr)} {r : R (D × Sr)} (h1 : f η st = .ok (a, s1)) (h3 : o a s1 = r) : dUn o f η st = r := by
  unfold dUn; rw [h1, bind_ok]; exact h3
theorem e_nil : dNil η st = .ok ([], st) := rfl
theorem e_cons (h1 : f η st = .ok (a, s1)) (h2 : ga η s1 = .ok (bs, s2)) : dCons f ga η st = .ok (a :: bs, s2) := by
  unfold dCons; rw [h1, bind_ok]; dsimp only; rw [h2, bind_ok]
theorem e_ap {o : List D → Sr → R (D × Sr)} {r : R (D × Sr)} (h1 : ga η st = .ok (as, s1)) (h3 : o as s1 = r) : dAp o ga η st = r := by
  unfold dAp; rw [h1, bind_ok]; exact h3
theorem e_call {F : DF} {r : R (D × Sr)} (h1 : ga η st = .ok (as, s1)) (h3 : callF F as η s1 = r) : dCall F ga η st = r := by
  unfold dCall; rw [h1, bind_ok]; exact h3
theorem e_bm {ty : Sr → D → Bool} {o : D → List D → Sr → R (D × Sr)} {r : R (D × Sr)} (h1 : f η st = .ok (a, s1)) (ht : ty s1 a = true) (h2 : ga η s1 = .ok (bs, s2)) (h3 : o a bs s2 = r) : dBM ty o f ga η st = r := by
  unfold dBM; rw [h1, bind_ok]; dsimp only; rw [if_pos ht, h2, bind_ok]; exact h3
theorem e_meth {m : Str} {tab : List (Str × DF)} {F : DF} {r : R (D × Sr)} (h1 : f η st = .ok (a, s1)) (hc : ((clsM m s1 a).bind fun c => look1 c tab) = some F) (h2 : ga η s1 = .ok (bs, s2)) (h3 : callF F (a :: bs) η s2 = r) : dMeth m tab f ga η st = r := by
  unfold dMeth; rw [h1, bind_ok]; dsimp only; rw [hc]; dsimp only; rw [h2, bind_ok]; exact h3
theorem e_sup {tab : List (Str × DF)} {F : DF} {r : R (D × Sr)} (h0 : η[0]? = some (some a)) (hc : ((clsOf st a).bind fun c => look1 c tab) = some F) (h2 : ga η st = .ok (bs, s2)) (h3 : callF F (a :: bs) η s2 = r) : dSup tab ga η st = r := by
  unfold dSup; rw [h0]; dsimp only; rw [hc]; dsimp only; rw [h2, bind_ok]; exact h3
theorem e_sl {l v : DO} {lo hi : Option Int} {r : R (D × Sr)} (h1 : f η st = .ok (a, s1)) (hl : l η s1 = .ok (lo, s2)) (hu : v η s2 = .ok (hi, s3)) (h3 : slO a lo hi s3 = r) : dSl f l v η st = r := by
  unfold dSl; rw [h1, bind_ok]; dsimp only; rw [hl, bind_ok]; dsimp only; rw [hu, bind_ok]; exact h3
theorem e_nopart : dNoPart η st = .ok (none, st) := rfl
theorem e_part {k : Int} (h1 : f η st = .ok (.fz (.int k), s1)) : dPart f η st = .ok (some k, s1) := by
  unfold dPart; rw [h1, bind_ok]
theorem e_rev {r : R (D × Sr)} (h1 : f η st = .ok (a, s1)) (h3 : revO a s1 = r) : dRev f η st = r := by
  unfold dRev; rw [h1, bind_ok]; exact h3
theorem e_newD : dNewD η st = .ok (.cell st.length, st ++ [.dct []]) := rfl
/-! ### tests -/
theorem e_tru {r : R (Bool × Sr)} (h1 : f η st = .ok (a, s1)) (h2 : truO a s1 = r) : dTru f η st = r := by
  unfold dTru; rw [h1, bind_ok]; exact h2
theorem e_not {x : Bool} (h1 : t η st = .ok (x, s1)) : dNot t η st = .ok (!x, s1) := by
  unfold dNot; rw [h1, bind_ok]
theorem e_or {x : Bool} {r : R (Bool × Sr)} (h1 : t η st = .ok (x, s1)) (h2 : x = false → u η s1 = r) (h3 : x = true → .ok (true, s1) = r) : dOr t u η st = r := by
  unfold dOr; rw [h1, bind_ok]; cases x
  · exact h2 rfl
  · exact h3 rfl
theorem e_or_t (h1 : t η st = .ok (true, s1)) : dOr t u η st = .ok (true, s1) := by
  unfold dOr; rw [h1, bind_ok]; rfl
theorem e_or_f {r : R (Bool × Sr)} (h1 : t η st = .ok (false, s1)) (h2 : u η s1 = r) : dOr t u η st = r := by
  unfold dOr; rw [h1, bind_ok]; exact h2
theorem e_and_f (h1 : t η st = .ok (false, s1)) : dAnd t u η st = .ok (false, s1) := by
  unfold dAnd; rw [h1, bind_ok]; rfl
theorem e_and_t {r : R (Bool × Sr)} (h1 : t η st = .ok (true, s1)) (h2 : u η s1 = r) : dAnd t u η st = r := by
  unfold dAnd; rw [h1, bind_ok]; exact h2
theorem tru_bl {x y : Bool} (h : x = y) : truO (.fz (.bl x)) st = .ok (y, st) := by subst h; rfl
theorem not_t {x : Bool} (h1 : t η st = .ok (false, s1)) : dNot t η st = .ok (true, s1) := e_not h1
theorem not_f {x : Bool} (h1 : t η st = .ok (true, s1)) : dNot t η st = .ok (false, s1) := e_not h1
/-! ### statements -/
variable {x y : DS} {r : R (Fl × Et × Sr)}
theorem s_seq (h1 : x η st = .ok (.nx, η', s1)) (h2 : y η' s1 = r) : dSeq x y η st = r := by
  unfold dSeq; rw [h1]; exact h2
theorem s_seqr {e : D} (h1 : x η st = .ok (.rt e, η', s1)) : dSeq x y η st = .ok (.rt e, η', s1) := by
  unfold dSeq; rw [h1]; rfl
theorem s_seqb (h1 : x η st = .ok (.bk, η', s1)) : dSeq x y η st = .ok (.bk, η', s1) := by
  unfold dSeq; rw [h1]; rfl
theorem s_seqc (h1 : x η st = .ok (.ct, η', s1)) : dSeq x y η st = .ok (.ct, η', s1) := by
  unfold dSeq; rw [h1]; rfl
theorem s_skip : dSkip η st = .ok (.nx, η, st) := rfl
theorem s_ex (h1 : f η st = .ok (a, s1)) : dEx f η st = .ok (.nx, η, s1) := by
  unfold dEx; rw [h1]; rfl
theorem s_ret (h1 : f η st = .ok (a, s1)) : dRet f η st = .ok (.rt a, η, s1) := by
  unfold dRet; rw [h1]; rfl
theorem s_asg {gg : DG} (h1 : f η st = .ok (a, s1)) (h2 : gg a η s1 = some η') : dAsg f gg η st = .ok (.nx, η', s1) := by
  unfold dAsg; rw [h1, bind_ok]; dsimp only; rw [h2]
theorem s_set (h1 : f η st = .ok (a, s1)) : dAsg f (gNm i) η st = .ok (.nx, η.set i (some a), s1) := s_asg h1 rfl
theorem s_ift (h1 : t η st = .ok (true, s1)) (h2 : x η s1 = r) : dIf t x y η st = r := by
  unfold dIf; rw [h1, bind_ok]; exact h2
theorem s_iff (h1 : t η st = .ok (false, s1)) (h2 : y η s1 = r) : dIf t x y η st = r := by
  unfold dIf; rw [h1, bind_ok]; exact h2
theorem s_forA {gg : DG} {xs : List P} (h1 : f η st = .ok (a, s1)) (h2 : toP s1 a = some (p, s2)) (h3 : lstP p = some xs) (h4 : loopD gg x xs η s2 = r) : dForA f gg x η st = r := by
  unfold dForA; rw [h1, bind_ok]; dsimp only; rw [h2]; dsimp only; rw [h3]; exact h4
theorem s_forL {gg : DG} {xs : List P} (h1 : f η st = .ok (a, s1)) (h2 : toP s1 a = some (p, s2)) (h3 : itemsP p = some xs) (h4 : loopD gg x xs η s2 = r) : dForL f gg x η st = r := by
  unfold dForL; rw [h1, bind_ok]; dsimp only; rw [h2]; dsimp only; rw [h3]; exact h4
theorem s_forR1 {gg : DG} {k : Nat} (h1 : fa η st = .ok ([.fz (.int k)], s1)) (hk : k ≤ 1000000) (h4 : loopD gg x (rangeP 0 k) η s1 = r) : dForR1 fa gg x η st = r := (forR1_eq h1 hk).trans h4
theorem e_lcR1 {k m : Nat} {xs : List P} (h1 : fa η st = .ok ([.fz (.int k)], s1)) (hk : k ≤ 1000000) (h4 : lcD m t f η (rangeP 0 k) [] s1 = .ok (xs, s2)) : dLcR1 fa m t f η st = .ok (.cell s2.length, s2 ++ [.lst xs]) := by
  rw [lcR1_eq h1 hk, h4]; rfl
theorem e_lcL {m : Nat} {xs ys : List P} (h1 : h η st = .ok (a, s1)) (h2 : toP s1 a = some (p, s2)) (h3 : itemsP p = some xs) (h4 : lcD m t f η xs [] s2 = .ok (ys, s3)) : dLcL h m t f η st = .ok (.cell s3.length, s3 ++ [.lst ys]) := by
  unfold dLcL; rw [h1, bind_ok]; dsimp only; rw [h2]; dsimp only; rw [h3]; dsimp only; rw [h4]; rfl
theorem lp_nil {gg : DG} : loopD gg x [] η st = .ok (.nx, η, st) := rfl
theorem lp_cons {gg : DG} {xs : List P} (h1 : x (η.set i (some (.fz p))) st = .ok (.nx, η', s1)) (h2 : loopD (gNm i) x xs η' s1 = r) : loopD (gNm i) x (p :: xs) η st = r := by
  show ((x (η.set i (some (.fz p))) st).bind _) = r
  rw [h1]; exact h2
theorem lp_ret {gg : DG} {xs : List P} {e : D} (h1 : x (η.set i (some (.fz p))) st = .ok (.rt e, η', s1)) : loopD (gNm i) x (p :: xs) η st = .ok (.rt e, η', s1) := by
  show ((x (η.set i (some (.fz p))) st).bind _) = _
  rw [h1]; rfl
theorem lc_cons {m : Nat} {xs acc : List P} {rr : R (List P × Sr)} (h1 : t (η.set m (some (.fz p))) st = .ok (true, s1)) (h2 : f (η.set m (some (.fz p))) s1 = .ok (a, s2)) (h3 : toP s2 a = some (q, s3)) (hl : acc.length < 16777216) (h4 : lcD m t f η xs (acc ++ [q]) s3 = rr) : lcD m t f η (p :: xs) acc st = rr := by
  unfold lcD; rw [h1, bind_ok]; dsimp only; rw [if_pos rfl, h2, bind_ok]; dsimp only; rw [h3]; dsimp only; rw [if_pos hl]; exact h4
theorem lc_no {m : Nat} {xs acc : List P} {rr : R (List P × Sr)} (h1 : t (η.set m (some (.fz p))) st = .ok (false, s1)) (h4 : lcD m t f η xs acc s1 = rr) : lcD m t f η (p :: xs) acc st = rr := by
  unfold lcD; rw [h1, bind_ok]; dsimp only; rw [if_neg (by decide)]; exact h4
theorem lc_nil {m : Nat} {acc : List P} : lcD m t f η [] acc st = .ok (acc, st) := rfl
theorem e_yes : dYes η st = .ok (true, st) := rfl
/-! ### cells at the store's end -/
variable {pre more : Sr} {xs ys : List P}
theorem get_end {ct : Ct} : (pre ++ ct :: more)[pre.length]? = some ct := by
  rw [List.getElem?_append_right (Nat.le_refl _), Nat.sub_self]; rfl
theorem get_end1 {c0 ct : Ct} : (pre ++ c0 :: ct :: more)[pre.length + 1]? = some ct := by
  rw [List.getElem?_append_right (by omega), show pre.length + 1 - pre.length = 1 by omega]; rfl
theorem set_end {ct ct' : Ct} : (pre ++ ct :: more).set pre.length ct' = pre ++ ct' :: more := by
  rw [List.set_append_right _ _ (Nat.le_refl _), Nat.sub_self]; rfl
theorem set_end1 {c0 ct ct' : Ct} : (pre ++ c0 :: ct :: more).set (pre.length + 1) ct' = pre ++ c0 :: ct' :: more := by
  rw [List.set_append_right _ _ (by omega), show pre.length + 1 - pre.length = 1 by omega]; rfl
theorem peek_lst (h : st[n]? = some (.lst xs)) : peek st (.cell n) = some (.lst xs) := by unfold peek; dsimp only; rw [h]
theorem peek_dct {kvs : List (Key × P)} (h : st[n]? = some (.dct kvs)) : peek st (.cell n) = some (.dct kvs) := by unfold peek; dsimp only; rw [h]
theorem append_at (hn : st[n]? = some (.lst xs)) (h : xs.length < 16777216) : appendO (.cell n) [.fz p] st = .ok (.fz .non, st.set n (.lst (xs ++ [p]))) := by
  unfold appendO; dsimp only [toP]; rw [hn]; dsimp only; rw [if_pos h]
theorem isLst_at (hn : st[n]? = some (.lst xs)) : isLst st (.cell n) = true := by unfold isLst; rw [peek_lst hn]
theorem toP_lst (hn : st[n]? = some (.lst xs)) : toP st (.cell n) = some (.lst xs, st.set n (.frz (.lst xs))) := by unfold toP; dsimp only; rw [hn]
theorem s_append (hi : η[i]? = some (some (.cell n))) (hn : st[n]? = some (.lst xs)) (h1 : f η st = .ok (.fz p, st)) (h : xs.length < 16777216) : dEx (dBM isLst appendO (dVar i) (dCons f (dNil))) η st = .ok (.nx, η, st.set n (.lst (xs ++ [p]))) :=
  s_ex (e_bm (e_var hi) (isLst_at hn) (e_cons h1 e_nil) (append_at hn h))
theorem tup_fz {ps : List P} : ∀ {ds : List D}, ds = ps.map D.fz → toPs st ds = some (ps, st) := by
  induction ps with
  | nil => rintro _ rfl; rfl
  | cons p r ih =>
    rintro _ rfl
    rw [List.map_cons]; unfold toPs; dsimp only [toP]; rw [ih rfl]
theorem tupO_fz {ps : List P} (h : ps.length ≤ 16777216) : tupO (ps.map D.fz) st = .ok (.fz (.tup ps), st) := by
  unfold tupO; rw [tup_fz rfl]; exact if_pos h
end
end M

end
section
set_option Elab.async false
set_option linter.all false
set_option maxRecDepth 100000
set_option maxHeartbeats 0
namespace M
open PySem L2
/-! # More rules -/
abbrev pw (ws : List Int) : P := .tup (ws.map P.int)
abbrev pws (ps : List (List Int)) : P := .lst (ps.map pw)
theorem cut_take (xs : List P) (k : Nat) : cutP xs none (some (k : Int)) = xs.take k := by
  unfold cutP
  rw [HT.sIx_none, HT.sIx_nat, List.drop_zero, Nat.sub_zero]
  exact List.take_eq_take_iff.mpr (by omega)
theorem cut_drop (xs : List P) (k : Nat) : cutP xs (some (k : Int)) none = xs.drop k := by
  unfold cutP
  rw [HT.sIx_none, HT.sIx_nat]
  by_cases h : k ≤ xs.length
  · rw [Nat.min_eq_left h]
    exact List.take_of_length_le (by simp)
  · rw [Nat.min_eq_right (by omega), List.drop_eq_nil_of_le (Nat.le_refl _), List.drop_eq_nil_of_le (by omega), List.take_nil]
theorem cut_lastn (xs : List P) : cutP xs (some (-1)) none = xs.drop (xs.length - 1) := by
  have e : HT.sIx xs.length 0 (some (-1)) = xs.length - 1 := by
    show (if (-1 : Int) < 0 then ((-1 : Int) + (xs.length : Int)).toNat else min (-1 : Int).toNat xs.length) = _
    rw [if_pos (by decide)]; omega
  unfold cutP
  rw [HT.sIx_none, e]
  exact List.take_of_length_le (by simp)
section
variable {η η' : Et} {st st' s1 s2 s3 : Sr} {f g h : DE} {fa ga : DA} {a b c d : D} {as bs : List D} {p q : P} {i j n : Nat} {xs ys : List P}
theorem sl_tup_t (ws : List Int) (k : Nat) : slO (.fz (pw ws)) none (some (k : Int)) st = .ok (.fz (pw (ws.take k)), st) := by
  show R.ok (D.fz (.tup (cutP (ws.map P.int) none (some (k : Int)))), st) = _
  rw [cut_take, ← List.map_take]
theorem sl_tup_d (ws : List Int) (k : Nat) : slO (.fz (pw ws)) (some (k : Int)) none st = .ok (.fz (pw (ws.drop k)), st) := by
  show R.ok (D.fz (.tup (cutP (ws.map P.int) (some (k : Int)) none)), st) = _
  rw [cut_drop, ← List.map_drop]
theorem sl_tup_l (ws : List Int) : slO (.fz (pw ws)) (some (-1)) none st = .ok (.fz (pw (ws.drop (ws.length - 1))), st) := by
  show R.ok (D.fz (.tup (cutP (ws.map P.int) (some (-1)) none)), st) = _
  rw [cut_lastn, ← List.map_drop, List.length_map]
/-- a list: frozen, in a cell, in a frozen cell -/
def IsL (st : Sr) (d : D) (xs : List P) : Prop := peek st d = some (.lst xs)
theorem IsL.fz : IsL st (.fz (.lst xs)) xs := rfl
theorem IsL.cell (h : st[n]? = some (.lst xs)) : IsL st (.cell n) xs := peek_lst h
theorem IsL.frz (h : st[n]? = some (.frz (.lst xs))) : IsL st (.cell n) xs := by unfold IsL peek; dsimp only; rw [h]
theorem sl_lst_t (h : IsL st d xs) (k : Nat) : slO d none (some (k : Int)) st = .ok (.cell st.length, st ++ [.lst (xs.take k)]) := by
  unfold slO; rw [show peek st d = some (.lst xs) from h]; dsimp only; rw [cut_take]
theorem sl_lst_d (h : IsL st d xs) (k : Nat) : slO d (some (k : Int)) none st = .ok (.cell st.length, st ++ [.lst (xs.drop k)]) := by
  unfold slO; rw [show peek st d = some (.lst xs) from h]; dsimp only; rw [cut_drop]
theorem ix_lst (h : IsL st d xs) {k : Nat} (hk : xs[k]? = some p) : ixO d (.fz (.int (k : Int))) st = .ok (.fz p, st) := by
  unfold ixO; rw [show peek st d = some (.lst xs) from h]
  show (match L2.atI xs (k : Int) with | some q => R.ok (D.fz q, st) | none => .stuck) = _
  rw [L2.atI_nat hk]
theorem add_lst (h1 : IsL st a xs) (h2 : IsL st b ys) (hl : xs.length + ys.length ≤ 16777216) : addO a b st = .ok (.cell st.length, st ++ [.lst (xs ++ ys)]) := by
  unfold addO; rw [show peek st a = some (.lst xs) from h1, show peek st b = some (.lst ys) from h2]; dsimp only; exact if_pos hl
theorem len_lst (h : IsL st d xs) : lenO [d] st = .ok (.fz (.int (xs.length : Int)), st) := by
  unfold lenO; dsimp only; rw [show peek st d = some (.lst xs) from h]; rfl
theorem list_lst (h : IsL st d xs) : listO [d] st = .ok (.cell st.length, st ++ [.lst xs]) := by
  unfold listO; dsimp only; rw [show peek st d = some (.lst xs) from h]; rfl
theorem add_int {i j : Int} : addO (.fz (.int i)) (.fz (.int j)) st = .ok (.fz (.int (i + j)), st) := rfl
theorem addw {u v : List Int} (h : u.length + v.length ≤ 100000) : addO (.fz (pw u)) (.fz (pw v)) st = .ok (.fz (pw (u ++ v)), st) := by
  show (if (u.map P.int).length + (v.map P.int).length ≤ szL then R.ok (D.fz (.tup (u.map P.int ++ v.map P.int)), st) else .stuck) = _
  rw [if_pos (show _ ≤ 16777216 by simp; omega), ← List.map_append]
theorem lenw {u : List Int} : lenO [.fz (pw u)] st = .ok (.fz (.int (u.length : Int)), st) := by
  show R.ok (D.fz (.int (((u.map P.int).length : Nat) : Int)), st) = _
  rw [List.length_map]
theorem eq_int {i j : Int} : eqO (.fz (.int i)) (.fz (.int j)) st = .ok (.fz (.bl (decide (i = j))), st) := by
  show (if shP (.int i) = true ∧ shP (.int j) = true then R.ok (D.fz (.bl (eqP (.int i) (.int j))), st) else .stuck) = _
  rw [if_pos ⟨rfl, rfl⟩, eqP_int]
theorem t_eq {x y : Int} {v : Bool} (h1 : f η st = .ok (.fz (.int x), s1)) (h2 : g η s1 = .ok (.fz (.int y), s2)) (hv : decide (x = y) = v) : dTru (dBin eqO f g) η st = .ok (v, s2) := e_tru (e_bin h1 h2 eq_int) (tru_bl hv)
theorem t_lt {x y : Int} {v : Bool} (h1 : f η st = .ok (.fz (.int x), s1)) (h2 : g η s1 = .ok (.fz (.int y), s2)) (hv : decide (x < y) = v) : dTru (dBin ltO f g) η st = .ok (v, s2) := e_tru (e_bin h1 h2 rfl) (tru_bl hv)
theorem t_gt {x y : Int} {v : Bool} (h1 : f η st = .ok (.fz (.int x), s1)) (h2 : g η s1 = .ok (.fz (.int y), s2)) (hv : decide (y < x) = v) : dTru (dBin gtO f g) η st = .ok (v, s2) := e_tru (e_bin h1 h2 rfl) (tru_bl hv)
/-- tuple * k -/
theorem mulw {u : List Int} {k : Int} (hu : u ≠ []) (h1 : 1 ≤ k) (h2 : k ≤ 1000) (hl : u.length ≤ 1000) : mulO (.fz (pw u)) (.fz (.int k)) st = .ok (.fz (pw (List.replicate k.toNat u).flatten), st) := by
  have hm : u.map P.int ≠ [] := by simpa using hu
  show (if u.map P.int ≠ [] ∧ k = 1 then R.ok (D.fz (pw u), st) else if u.map P.int ≠ [] ∧ 2 ≤ k ∧ k ≤ 1000 ∧ (u.map P.int).length ≤ 1000 then .ok (.fz (.tup (List.replicate k.toNat (u.map P.int)).flatten), st) else .stuck) = _
  by_cases h : k = 1
  · subst h
    rw [if_pos ⟨hm, rfl⟩]
    simp
  · rw [if_neg (fun q => h q.2), if_pos ⟨hm, by omega, h2, by simpa using hl⟩]
    congr 3
    unfold pw
    rw [List.map_flatten, List.map_replicate]
/-! ### and, or as values -/
theorem v_and {x : Bool} {r : R (D × Sr)} (h1 : f η st = .ok (.fz (.bl x), s1)) (h2 : x = true → g η s1 = r) (h3 : x = false → .ok (.fz (.bl false), s1) = r) : dAndV f g η st = r := by
  unfold dAndV; rw [h1, bind_ok]; cases x
  · exact h3 rfl
  · exact h2 rfl
theorem v_and_t {r : R (D × Sr)} (h1 : f η st = .ok (.fz (.bl true), s1)) (h2 : g η s1 = r) : dAndV f g η st = r := v_and h1 (fun _ => h2) (fun h => by cases h)
theorem v_and_f (h1 : f η st = .ok (.fz (.bl false), s1)) : dAndV f g η st = .ok (.fz (.bl false), s1) := v_and h1 (fun h => by cases h) (fun _ => rfl)
theorem v_or {x : Bool} {r : R (D × Sr)} (h1 : f η st = .ok (.fz (.bl x), s1)) (h2 : x = false → g η s1 = r) (h3 : x = true → .ok (.fz (.bl true), s1) = r) : dOrV f g η st = r := by
  unfold dOrV; rw [h1, bind_ok]; cases x
  · exact h2 rfl
  · exact h3 rfl
/-! ### a def that returns a new cell -/
theorem callF_new {F : DF} {ps : List P} {ct : Ct} (h : F (ps.map D.fz) [] = .ok (.cell 0, [ct])) (hc : plainC ct = true) : callF F (ps.map D.fz) η st = .ok (.cell st.length, st ++ [ct]) := by
  unfold callF
  rw [cellsA_fz]
  show callI F [] (ps.map D.fz) η st = _
  unfold callI
  rw [if_pos List.nodup_nil, renA_fz]
  show (match F (ps.map D.fz) [] with
    | .ok (d, st2) => if ([] : List Nat).length ≤ st2.length then R.ok (bkD [] st.length d, backS [] st st2) else .stuck
    | .exc c fs _ st2 => if ([] : List Nat).length ≤ st2.length then .exc c fs η (backS [] st st2) else .stuck
    | .stuck => .stuck) = _
  rw [h]
  show R.ok (D.cell _, putAll st [] _ ++ [bkC [] st.length ct]) = _
  rw [plainC_bk hc]
  rfl
theorem e_revA {r : R (D × Sr)} (h1 : f η st = .ok (a, s1)) (h3 : revAO a s1 = r) : dRevA f η st = r := by
  unfold dRevA; rw [h1, bind_ok]; exact h3
theorem e_callK {F : DF} {m : Nat} {sel : List Src} {mz : List P} {r : R (D × Sr)} (h1 : fa η st = .ok (as, s1)) (h2 : ga η s1 = .ok (bs, s2)) (l1 : as.length = n) (l2 : bs.length = m) (h3 : callF F (as ++ selK sel (mz.map D.fz) bs) η s2 = r) : dCallK F n m sel mz fa ga η st = r := by
  unfold dCallK; rw [h1, bind_ok]; dsimp only; rw [h2, bind_ok]; dsimp only; rw [if_pos ⟨l1, l2⟩]; exact h3
/-! ### equality of lists of words -/
theorem toPys_pws : ∀ ps : List (List Int), toPys (ps.map pw) = ps.map fun w => PyData.tuple (w.map PyData.int)
  | [] => rfl
  | w :: r => by
    rw [List.map_cons, List.map_cons]; unfold toPys; rw [toPys_pws r]
    show PyData.tuple (toPys (w.map P.int)) :: _ = _
    rw [toPys_map]
theorem eqvAll_pws : ∀ ps qs : List (List Int), PyData.eqvAll (ps.map fun w => PyData.tuple (w.map PyData.int)) (qs.map fun w => PyData.tuple (w.map PyData.int)) = decide (ps = qs)
  | [], [] => rfl
  | [], _ :: _ => by simp [PyData.eqvAll]
  | _ :: _, [] => by simp [PyData.eqvAll]
  | x :: xs, y :: ys => by
    rw [List.map_cons, List.map_cons]
    show (PyData.eqvAll (x.map PyData.int) (y.map PyData.int) && PyData.eqvAll (xs.map fun w => PyData.tuple (w.map PyData.int)) (ys.map fun w => PyData.tuple (w.map PyData.int))) = _
    rw [eqvAll_pws xs ys, eqvAll_ints]
    by_cases h : x = y <;> by_cases h2 : xs = ys <;> simp [h, h2]
theorem eqP_pws (ps qs : List (List Int)) : eqP (pws ps) (pws qs) = decide (ps = qs) := by
  show PyData.eqvAll (toPys (ps.map pw)) (toPys (qs.map pw)) = _
  rw [toPys_pws, toPys_pws, eqvAll_pws]
theorem canLay_pws : ∀ ps : List (List Int), PyData.canLayAll0 (ps.map fun w => PyData.tuple (w.map PyData.int)) = true
  | [] => rfl
  | x :: r => by rw [List.map_cons]; show (PyData.canLayAll0 (x.map PyData.int) && PyData.canLayAll0 (r.map fun w => PyData.tuple (w.map PyData.int))) = true; rw [canLay_pws r, canLay_ints]; rfl
theorem depth_pws : ∀ ps : List (List Int), PyData.depthAll (ps.map fun w => PyData.tuple (w.map PyData.int)) ≤ 1
  | [] => Nat.zero_le _
  | x :: r => by
    rw [List.map_cons]
    show max (PyData.depthAll (x.map PyData.int) + 1) (PyData.depthAll (r.map fun w => PyData.tuple (w.map PyData.int))) ≤ 1
    rw [depth_ints0]
    exact Nat.max_le.mpr ⟨Nat.le_refl _, depth_pws r⟩
theorem shP_pws (ps : List (List Int)) : shP (pws ps) = true := by
  show (PyData.canLayAll0 (toPys (ps.map pw)) && decide (PyData.depthAll (toPys (ps.map pw)) + 1 ≤ 64)) = true
  have := depth_pws ps
  rw [toPys_pws, canLay_pws, decide_eq_true (by omega)]
  rfl
theorem eq_pws {d e : D} {ps qs : List (List Int)} (h1 : IsL st d (ps.map pw)) (h2 : IsL st e (qs.map pw)) : eqO d e st = .ok (.fz (.bl (decide (ps = qs))), st) := by
  unfold eqO; rw [show peek st d = some (pws ps) from h1, show peek st e = some (pws qs) from h2]; dsimp only
  rw [if_pos ⟨shP_pws _, shP_pws _⟩, eqP_pws]
theorem eq_w {u v : List Int} : eqO (.fz (pw u)) (.fz (pw v)) st = .ok (.fz (.bl (decide (u = v))), st) := by
  show (if shP (pw u) = true ∧ shP (pw v) = true then R.ok (D.fz (.bl (eqP (pw u) (pw v))), st) else .stuck) = _
  rw [if_pos ⟨shP_tup _, shP_tup _⟩, eqP_tup]
theorem eq_il {u v : List Int} {d e : D} (h1 : IsL st d (u.map P.int)) (h2 : IsL st e (v.map P.int)) : eqO d e st = .ok (.fz (.bl (decide (u = v))), st) := by
  unfold eqO; rw [show peek st d = some (.lst (u.map P.int)) from h1, show peek st e = some (.lst (v.map P.int)) from h2]; dsimp only
  rw [if_pos ⟨shP_lst _, shP_lst _⟩, eqP_lst]
end
end M

end
section
set_option Elab.async false
set_option linter.all false
set_option maxRecDepth 100000
set_option maxHeartbeats 0
namespace M
open PySem L2
/-! # What a run gave -/
def rTup : R (D × Sr) → List Int
  | .ok (.fz (.tup ps), _) => (intsP ps).getD []
  | _ => []
def rInt : R (D × Sr) → Int
  | .ok (.fz (.int i), _) => i
  | _ => 0
def rStm : R (D × Sr) → List Int
  | .ok (_, .lst xs :: _) => (intsP xs).getD []
  | _ => []
def pInts : P → List Int
  | .tup xs => (intsP xs).getD []
  | _ => []
def rPws : R (D × Sr) → List (List Int)
  | .ok (.fz (.lst ps), _) => ps.map pInts
  | _ => []
theorem pInts_pw (ws : List Int) : pInts (pw ws) = ws := by
  show (intsP (ws.map P.int)).getD [] = ws
  rw [intsP_map]; rfl
theorem rTup_ok {ws : List Int} {st : Sr} : rTup (.ok (.fz (pw ws), st)) = ws := pInts_pw ws
theorem rStm_ok {d : D} {ys : List Int} {st : Sr} : rStm (.ok (d, .lst (ys.map P.int) :: st)) = ys := by
  show (intsP (ys.map P.int)).getD [] = ys
  rw [intsP_map]; rfl
theorem rPws_ok {ps : List (List Int)} {st : Sr} : rPws (.ok (.fz (pws ps), st)) = ps := by
  show (ps.map pw).map pInts = ps
  rw [List.map_map]
  exact (List.map_congr_left fun w _ => pInts_pw w).trans (List.map_id ps)
theorem ex_tup {r : R (D × Sr)} {Q : List Int → Prop} (h : ∃ ws ys : List Int, Q ws ∧ r = .ok (.fz (pw ws), [.lst (ys.map P.int)])) : Q (rTup r) ∧ r = .ok (.fz (pw (rTup r)), [.lst ((rStm r).map P.int)]) := by
  obtain ⟨ws, ys, hq, rfl⟩ := h
  rw [rTup_ok, rStm_ok]; exact ⟨hq, rfl⟩
theorem ex_pws {r : R (D × Sr)} {Q : List (List Int) → Prop} (h : ∃ (ps : List (List Int)) (ys : List Int), Q ps ∧ r = .ok (.fz (pws ps), [.lst (ys.map P.int)])) : Q (rPws r) ∧ r = .ok (.fz (pws (rPws r)), [.lst ((rStm r).map P.int)]) := by
  obtain ⟨ps, ys, hq, rfl⟩ := h
  rw [rPws_ok, rStm_ok]; exact ⟨hq, rfl⟩
theorem ex_int {r : R (D × Sr)} {Q : Int → Prop} (h : ∃ (i : Int) (ys : List Int), Q i ∧ r = .ok (.fz (.int i), [.lst (ys.map P.int)])) : Q (rInt r) ∧ r = .ok (.fz (.int (rInt r)), [.lst ((rStm r).map P.int)]) := by
  obtain ⟨i, ys, hq, rfl⟩ := h
  rw [rStm_ok]; exact ⟨hq, rfl⟩
section
variable {η η' : Et} {st st' s1 s2 s3 : Sr} {f g h : DE} {fa ga : DA} {t u : DT} {a b c d : D} {as bs : List D} {p q : P} {i j n : Nat} {xs ys : List P} {x y : DS} {r : R (Fl × Et × Sr)} {z : Int}
/-! ### parts, places by integers -/
theorem slw_t {ws : List Int} (hz : 0 ≤ z) : slO (.fz (pw ws)) none (some z) st = .ok (.fz (pw (ws.take z.toNat)), st) := by
  have h := sl_tup_t (st := st) ws z.toNat
  rwa [Int.toNat_of_nonneg hz] at h
theorem slw_d {ws : List Int} (hz : 0 ≤ z) : slO (.fz (pw ws)) (some z) none st = .ok (.fz (pw (ws.drop z.toNat)), st) := by
  have h := sl_tup_d (st := st) ws z.toNat
  rwa [Int.toNat_of_nonneg hz] at h
theorem sll_t (h : IsL st d xs) (hz : 0 ≤ z) : slO d none (some z) st = .ok (.cell st.length, st ++ [.lst (xs.take z.toNat)]) := by
  have h := sl_lst_t h z.toNat
  rwa [Int.toNat_of_nonneg hz] at h
theorem sll_d (h : IsL st d xs) (hz : 0 ≤ z) : slO d (some z) none st = .ok (.cell st.length, st ++ [.lst (xs.drop z.toNat)]) := by
  have h := sl_lst_d h z.toNat
  rwa [Int.toNat_of_nonneg hz] at h
theorem ixl (h : IsL st d xs) (hz : 0 ≤ z) (hk : xs[z.toNat]? = some p) : ixO d (.fz (.int z)) st = .ok (.fz p, st) := by
  have h := ix_lst h hk
  rwa [Int.toNat_of_nonneg hz] at h
theorem ixt (hz : 0 ≤ z) (hk : xs[z.toNat]? = some p) : ixO (.fz (.tup xs)) (.fz (.int z)) st = .ok (.fz p, st) := by
  show (match L2.atI xs z with | some q => R.ok (D.fz q, st) | none => .stuck) = _
  have := L2.atI_nat hk
  rw [Int.toNat_of_nonneg hz] at this
  rw [this]
theorem atI_last {r : List P} : L2.atI (r ++ [p]) (-1) = some p := by
  have e : L2.ixN (r ++ [p]).length (-1) = some r.length := by
    unfold L2.ixN
    rw [if_neg (by decide), List.length_append]
    rw [if_pos (by simp; omega)]
    simp
    omega
  unfold L2.atI
  rw [e]
  simp
theorem ixw_l {ws : List Int} {v : Int} : ixO (.fz (pw (ws ++ [v]))) (.fz (.int (-1))) st = .ok (.fz (.int v), st) := by
  show (match L2.atI ((ws ++ [v]).map P.int) (-1) with | some q => R.ok (D.fz q, st) | none => .stuck) = _
  rw [List.map_append, List.map_singleton, atI_last]
theorem for_r1 {gg : DG} (h1 : fa η st = .ok ([.fz (.int z)], s1)) (h0 : 0 ≤ z) (hk : z ≤ 1000000) (h4 : loopD gg x (rangeP 0 z.toNat) η s1 = r) : dForR1 fa gg x η st = r := by
  refine s_forR1 (k := z.toNat) ?_ (by omega) h4
  rw [Int.toNat_of_nonneg h0]; exact h1
theorem lstO_fz {ps : List P} (h : ps.length ≤ 16777216) : lstO (ps.map D.fz) st = .ok (.cell st.length, st ++ [.lst ps]) := by
  unfold lstO; rw [tup_fz rfl]; exact if_pos h
/-! ### tests -/
theorem s_if {v : Bool} (h1 : t η st = .ok (v, s1)) (h2 : v = true → x η s1 = r) (h3 : v = false → y η s1 = r) : dIf t x y η st = r := by
  cases v
  · exact s_iff h1 (h3 rfl)
  · exact s_ift h1 (h2 rfl)
theorem d_lt {x y : Int} (h1 : f η st = .ok (.fz (.int x), s1)) (h2 : g η s1 = .ok (.fz (.int y), s2)) : dTru (dBin ltO f g) η st = .ok (decide (x < y), s2) := t_lt h1 h2 rfl
theorem d_eq {x y : Int} (h1 : f η st = .ok (.fz (.int x), s1)) (h2 : g η s1 = .ok (.fz (.int y), s2)) : dTru (dBin eqO f g) η st = .ok (decide (x = y), s2) := t_eq h1 h2 rfl
theorem d_gt {x y : Int} (h1 : f η st = .ok (.fz (.int x), s1)) (h2 : g η s1 = .ok (.fz (.int y), s2)) : dTru (dBin gtO f g) η st = .ok (decide (y < x), s2) := t_gt h1 h2 rfl
theorem lp_consT {gs : DG} {η1 : Et} (hg : gs (.fz p) η st = some η1) (h1 : x η1 st = .ok (.nx, η', s1)) (h2 : loopD gs x xs η' s1 = r) : loopD gs x (p :: xs) η st = r := by
  unfold loopD; rw [hg]; dsimp only; rw [h1]; exact h2
theorem s_seqR (hr : ∃ e η' s', r = R.ok (Fl.rt e, η', s')) (h1 : x η st = r) : dSeq x y η st = r := by
  obtain ⟨e, η', s', rfl⟩ := hr
  exact s_seqr h1
/-! ### ends, the slots not told -/
theorem run0e {np n : Nat} {b : DS} {ds : List D} {p : P} (hl : ds.length = np) (h : ∃ η' st', b (ds.map some ++ List.replicate (n - np) none) [] = .ok (.rt (.fz p), η', st')) : runF np n true b ds [] = .ok (.fz p, []) := let ⟨_, _, h⟩ := h; run0 hl h
theorem run0le {np n k : Nat} {b : DS} {ds : List D} {xs : List P} {st' : Sr} (hk : st'[k]? = some (.lst xs)) (hl : ds.length = np) (h : ∃ η', b (ds.map some ++ List.replicate (n - np) none) [] = .ok (.rt (.cell k), η', st')) : runF np n true b ds [] = .ok (.fz (.lst xs), []) := let ⟨_, h⟩ := h; run0l hl h hk
theorem run1e {np n : Nat} {b : DS} {ds : List D} {p : P} {c0 c : Ct} {more : Sr} (hc : plainC c = true) (hl : ds.length = np) (h : ∃ η', b (ds.map some ++ List.replicate (n - np) none) [c0] = .ok (.rt (.fz p), η', c :: more)) : runF np n true b ds [c0] = .ok (.fz p, [c]) := let ⟨_, h⟩ := h; run1 hl h rfl hc
theorem run1le {np n k : Nat} {b : DS} {ds : List D} {xs : List P} {c0 c : Ct} {more : Sr} (hk : (c :: more)[k + 1]? = some (.lst xs)) (hc : plainC c = true) (hl : ds.length = np) (h : ∃ η', b (ds.map some ++ List.replicate (n - np) none) [c0] = .ok (.rt (.cell (k + 1)), η', c :: more)) : runF np n true b ds [c0] = .ok (.fz (.lst xs), [c]) := let ⟨_, h⟩ := h; run1l hl h hk rfl hc
/-- a list: what a loop over it leaves -/
theorem toP_fz : toP st (.fz p) = some (p, st) := rfl
theorem toP_frz (h : st[n]? = some (.frz p)) : toP st (.cell n) = some (p, st) := by unfold toP; dsimp only; rw [h]
end
end M

end
section
set_option Elab.async false
set_option linter.all false
set_option maxRecDepth 100000
set_option maxHeartbeats 0
namespace M
open PySem L2
/-! # all, any of a list of truth values -/
def boolsP : List P → Option (List Bool)
  | [] => some []
  | .bl i :: r => match boolsP r with
    | some is => some (i :: is)
    | none => none
  | _ :: _ => none
theorem boolsP_eq : ∀ {xs : List P} {is : List Bool}, boolsP xs = some is → xs = is.map P.bl
  | [], _, h => by cases h; rfl
  | .bl i :: r, is, h => by
    unfold boolsP at h
    split at h
    · rename_i js e; cases h; rw [List.map_cons, ← boolsP_eq e]
    · cases h
  | .non :: _, _, h => by simp [boolsP] at h
  | .int _ :: _, _, h => by simp [boolsP] at h
  | .str _ :: _, _, h => by simp [boolsP] at h
  | .tup _ :: _, _, h => by simp [boolsP] at h
  | .lst _ :: _, _, h => by simp [boolsP] at h
  | .rol _ :: _, _, h => by simp [boolsP] at h
  | .dct _ :: _, _, h => by simp [boolsP] at h
  | .obj _ _ :: _, _, h => by simp [boolsP] at h
theorem boolsP_map : ∀ (is : List Bool), boolsP (is.map P.bl) = some is
  | [] => rfl
  | i :: r => by rw [List.map_cons]; unfold boolsP; rw [boolsP_map r]
def allO (ds : List D) (st : Sr) : R (D × Sr) := match ds with
  | [d] => match ((peek st d).bind itemsP).bind boolsP with
    | some bs => .ok (.fz (.bl (bs.all id)), st)
    | none => .stuck
  | _ => .stuck
def anyO (ds : List D) (st : Sr) : R (D × Sr) := match ds with
  | [d] => match ((peek st d).bind itemsP).bind boolsP with
    | some bs => .ok (.fz (.bl (bs.any id)), st)
    | none => .stuck
  | _ => .stuck
theorem reps_bools {K : PySem.W.Frag} {Z : Hp} : ∀ {is : List Bool} {vs : List V}, Reps K Z (is.map P.bl) vs → vs = is.map V.bl
  | [], vs, h => by rw [List.map_nil, Reps] at h; exact h
  | i :: r, vs, h => by
    rw [List.map_cons, Reps] at h
    obtain ⟨v, ws, rfl, h1, h2⟩ := h
    rw [Rep] at h1
    rw [h1, reps_bools h2]; rfl
theorem vals_bools {h : Heap} : ∀ {is : List Bool} {us : List Value}, Vals (is.map V.bl) us → ReadsAll h us (is.map PyData.bool) []
  | [], us, hv => by cases hv; exact .nil
  | i :: r, us, hv => by
    rw [List.map_cons] at hv
    cases hv with
    | cons h1 h2 =>
      cases h1
      exact ReadsAll.cons (as := []) (bs := []) (.bool i) (vals_bools h2)
theorem plain_bools : ∀ is : List Bool, PyData.plainAll (is.map PyData.bool) = true
  | [] => rfl
  | i :: r => by rw [List.map_cons, PyData.plainAll, plain_bools r]; rfl
theorem all_bools (is : List Bool) : (is.map PyData.bool).all PyData.truthy = is.all id := by
  rw [List.all_map]; rfl
theorem any_bools (is : List Bool) : (is.map PyData.bool).any PyData.truthy = is.any id := by
  rw [List.any_map]; rfl
section
variable {X : Cx} {W : WX}
theorem c_all (hh : X.A.handled = none) : CallR X (.builtin "all") (rMA X.K W allO) := by
  intro pins s σ H xs us Q I r ⟨ds, Z, φ, st, rs, rdd, af⟩
  unfold allO at af
  split at af
  · obtain ⟨v, rfl, rd⟩ := rdd.one
    split at af
    · rename_i is e
      obtain ⟨ys, e1, e2⟩ := Option.bind_eq_some_iff.mp e
      obtain ⟨q, e3, e4⟩ := Option.bind_eq_some_iff.mp e1
      obtain ⟨a, vs, rfl, h2, h3⟩ := pk_items (peek_pk rs e3 rd) e4
      rw [boolsP_eq e2] at h3
      have hv := reps_bools h3
      subst hv
      rw [Vals.ref1 r]
      have hf : ∀ x ∈ is.map PyData.bool, x.fits63 := fun x hx => by
        obtain ⟨b, _, rfl⟩ := List.mem_map.mp hx
        trivial
      have fin : ∀ (h' : Heap) (tk : Nat), (∀ b o, s.heap.get? b = some o → h'.get? b = some o) → EP X pins σ Q (.bool ((is.map PyData.bool).all PyData.truthy)) { s with heap := h', toks := tk } := fun h' tk k => by
        rw [all_bools]
        exact ⟨.bl (is.all id), H, I.kept (t' := tk) k, rfl, af.here rs (by show Rep _ _ _ _; rw [Rep])⟩
      rcases h2 with h2 | h2
      · obtain ⟨its, rv, hl, hz⟩ := I.list h2
        exact PySem.W.all_list_data hh hl.isList (vals_bools rv) (plain_bools is) hf fin
      · obtain ⟨its, rv, hl, hz⟩ := I.tuple h2
        exact PySem.W.all_tuple_data hh hl (vals_bools rv) (plain_bools is) hf fin
    · exact af.elim
  · exact af.elim
theorem c_any (hh : X.A.handled = none) : CallR X (.builtin "any") (rMA X.K W anyO) := by
  intro pins s σ H xs us Q I r ⟨ds, Z, φ, st, rs, rdd, af⟩
  unfold anyO at af
  split at af
  · obtain ⟨v, rfl, rd⟩ := rdd.one
    split at af
    · rename_i is e
      obtain ⟨ys, e1, e2⟩ := Option.bind_eq_some_iff.mp e
      obtain ⟨q, e3, e4⟩ := Option.bind_eq_some_iff.mp e1
      obtain ⟨a, vs, rfl, h2, h3⟩ := pk_items (peek_pk rs e3 rd) e4
      rw [boolsP_eq e2] at h3
      have hv := reps_bools h3
      subst hv
      rw [Vals.ref1 r]
      have hf : ∀ x ∈ is.map PyData.bool, x.fits63 := fun x hx => by
        obtain ⟨b, _, rfl⟩ := List.mem_map.mp hx
        trivial
      have fin : ∀ (h' : Heap) (tk : Nat), (∀ b o, s.heap.get? b = some o → h'.get? b = some o) → EP X pins σ Q (.bool ((is.map PyData.bool).any PyData.truthy)) { s with heap := h', toks := tk } := fun h' tk k => by
        rw [any_bools]
        exact ⟨.bl (is.any id), H, I.kept (t' := tk) k, rfl, af.here rs (by show Rep _ _ _ _; rw [Rep])⟩
      rcases h2 with h2 | h2
      · obtain ⟨its, rv, hl, hz⟩ := I.list h2
        exact PySem.W.any_list_data hh hl.isList (vals_bools rv) (plain_bools is) hf fin
      · obtain ⟨its, rv, hl, hz⟩ := I.tuple h2
        exact PySem.W.any_tuple_data hh hl (vals_bools rv) (plain_bools is) hf fin
    · exact af.elim
  · exact af.elim
end
section
variable {X : Cx} {W : WX} {o e : Expr} {f : DE} {fs : DA} {apos cpos : Pos}
theorem de_pop1 (ho : PE X o (tE X.K W f)) (ha : PA X [e] (tA X.K W fs)) (hbase : attributeBase o "pop" X.env (eval o X.env) = eval o X.env := by rfl)
    (hfew : ((backTo cpos (starEach (e :: []) X.env)).all (fun x => !x.1) && (backToKw cpos (keywordEach [] X.env)).all (fun x => x.1.isSome)
      && decide ((e :: ([] : List Expr)).length + ([] : List Keyword).length + (if ([] : List Keyword).isEmpty then 0 else 1) < 30)) = true := by rfl)
    (hline : (apos.endLine == cpos.line) = true := by rfl) (hs : starEach (e :: []) X.env = (false, eval e X.env) :: starEach [] X.env := by rfl) (hplain : (backTo cpos (starEach [] X.env)).any (·.1) = false := by rfl) :
    PE X (.Call (.Attribute o "pop" apos) [e] [] cpos) (tE X.K W (dBM isLst popO f fs)) := de_bm isLst_ty PySem.F.plainAttrs_list PySem.F.slot_list_pop PySem.F.type_list_pop m_pop ho ha hbase hfew hline hs hplain
end
theorem bt_all : bootBuiltins "all" = some (.builtin "all") := by decide +kernel
theorem bt_any : bootBuiltins "any" = some (.builtin "any") := by decide +kernel
end M

end
section
set_option Elab.async false
set_option linter.all false
set_option maxRecDepth 100000
set_option maxHeartbeats 0
namespace M
open PySem L2
/-! # Lists that are frozen from the start -/
section
variable {K : PySem.W.Frag} {W : WX} {Z Z' Z2 H H' : Hp} {φ φ' : List Addr} {st : Sr} {Q : VK}
theorem RepDF.cut {a : Addr} (e : Same Z' Z2) : ∀ {fs : List (Str × D)} {gs gs0 : List (Str × V)}, RepDF K Z' (φ ++ [a]) fs gs → RepDF K Z φ fs gs0 → RepDF K Z2 φ fs gs
  | [], gs, gs0, h, _ => h
  | (k, d) :: fs, gs, gs0, h, h0 => by
    obtain ⟨v, ws, rfl, h1, h2⟩ := h
    obtain ⟨v0, ws0, rfl, g1, g2⟩ := h0
    refine ⟨v, ws, rfl, ?_, RepDF.cut e h2 g2⟩
    cases d with
    | fz p => exact Rep.mono e p v h1
    | cell m =>
      obtain ⟨b, hb, rfl⟩ := h1
      obtain ⟨b0, hb0, _⟩ := g1
      have hl := (List.getElem?_eq_some_iff.mp hb0).1
      exact ⟨b, by rw [List.getElem?_append_left hl] at hb; exact hb, rfl⟩
/-- what is promised of a frozen list holds of a new cell -/
theorem Af.thaw {xs : List P} (rs : RS K Z φ st H) (af : Af K W Z φ H (.ok (.fz (.lst xs), st)) (GE K Q)) : Af K W Z φ H (.ok (.cell st.length, st ++ [.lst xs])) (GE K Q) := by
  intro Z' φ' H' s rs' v rv
  obtain ⟨a, ha, rfl⟩ := rv
  obtain ⟨psi, rfl, hpsi⟩ := s.pre
  have hl := rs'.len
  rw [List.length_append, List.length_append, rs.len] at hl
  obtain ⟨a', rfl⟩ : ∃ a', psi = [a'] := List.length_eq_one_iff.mp (by simpa using hl)
  have ea : a' = a := by
    rw [← rs.len, List.getElem?_append_right (Nat.le_refl _), Nat.sub_self] at ha
    simpa using ha
  subst ea
  obtain ⟨hz, vs, h1, h2⟩ := rs'.cells st.length a' (.lst xs) ha (by simp)
  have sz : Same Z' (upd Z' a' (.lst vs)) := fun b u hb => by rw [upd_ne (by rintro rfl; rw [hz] at hb; cases hb)]; exact hb
  have na : a' ∉ φ := fun hm => (List.nodup_append.mp rs'.nd).2.2 a' hm a' (by simp) rfl
  refine af (upd Z' a' (.lst vs)) φ H' ⟨s.hz.trans sz, ⟨[], by simp, by simp⟩, s.fr, fun b hb => ?_, s.up⟩ ⟨fun b u hb => ?_, rs.len, rs.nd, fun j b c hj hc => ?_, rs'.tb, fun b ps z => ?_⟩ (.ref a') ?_
  · by_cases q : b = a'
    · subst q; exact .inr (.inl (hpsi b (by simp)))
    · rw [upd_ne q] at hb; exact s.zn b hb
  · by_cases q : b = a'
    · subst q; rw [upd_same] at hb; cases hb; exact h1
    · rw [upd_ne q] at hb; exact rs'.same b u hb
  · have nb : b ≠ a' := by rintro rfl; exact na (List.mem_of_getElem? hj)
    have hlj := (List.getElem?_eq_some_iff.mp hj).1
    have hj' : (φ ++ [a'])[j]? = some b := by rw [List.getElem?_append_left hlj]; exact hj
    have hc' : (st ++ [Ct.lst xs])[j]? = some c := by rw [List.getElem?_append_left (by rw [← rs.len]; exact hlj)]; exact hc
    have r := rs'.cells j b c hj' hc'
    have r0 := rs.cells j b c hj hc
    cases c with
    | lst ys => obtain ⟨g1, ws, g2, g3⟩ := r; exact ⟨by rw [upd_ne nb]; exact g1, ws, g2, g3.mono sz⟩
    | dct kvs => obtain ⟨g1, ws, g2, g3⟩ := r; exact ⟨by rw [upd_ne nb]; exact g1, ws, g2, RepK.mono sz _ _ g3⟩
    | obj c fs =>
      obtain ⟨g1, dx, gs, g2, g3⟩ := r
      obtain ⟨_, _, gs0, _, g4⟩ := r0
      exact ⟨by rw [upd_ne nb]; exact g1, dx, gs, g2, g3.cut sz g4⟩
    | frz p => obtain ⟨g1, o, g2, g3⟩ := r; exact ⟨Rep.mono sz _ _ g1, o, g2, g3⟩
  · by_cases q : b = a'
    · subst q; rw [upd_same] at z; cases z
    · rw [upd_ne q] at z; exact rs'.zd b ps z
  · show Rep _ _ _ _
    rw [Rep]
    exact ⟨a', vs, rfl, upd_same, h2.mono sz⟩
end
/-! ### operations -/
def addF (d e : D) (st : Sr) : R (D × Sr) := match peek st d, peek st e with
  | some (.lst xs), some (.lst ys) => if xs.length + ys.length ≤ szL then .ok (.fz (.lst (xs ++ ys)), st) else .stuck
  | _, _ => addO d e st
def slF (d : D) (lo hi : Option Int) (st : Sr) : R (D × Sr) := match peek st d with
  | some (.tup xs) => .ok (.fz (.tup (cutP xs lo hi)), st)
  | some (.lst xs) => .ok (.fz (.lst (cutP xs lo hi)), st)
  | some (.rol xs) => .ok (.fz (.lst (cutP xs lo hi)), st)
  | _ => .stuck
def dSlF (f : DE) (l u : DO) : DE := fun η st => (f η st).bind fun a => (l η a.2).bind fun b => (u η b.2).bind fun c => slF a.1 b.1 c.1 c.2
def listF (ds : List D) (st : Sr) : R (D × Sr) := match ds with
  | [d] => match (peek st d).bind itemsP with
    | some xs => .ok (.fz (.lst xs), st)
    | none => .stuck
  | _ => .stuck
def sortF (ds : List D) (st : Sr) : R (D × Sr) := match ds with
  | [d] => match ((peek st d).bind itemsP).bind intsP with
    | some is => .ok (.fz (.lst ((is.mergeSort fun i j => decide (i ≤ j)).map P.int)), st)
    | none => .stuck
  | _ => .stuck
def rgF (d : D) (st : Sr) : R (D × Sr) := match d with
  | .fz (.int n) => if 0 ≤ n ∧ n ≤ 16777216 then .ok (.fz (.lst (rangeP 0 n.toNat)), st) else .stuck
  | _ => .stuck
def revF (d : D) (st : Sr) : R (D × Sr) := match peek st d with
  | some (.lst xs) => .ok (.fz (.lst xs.reverse), st)
  | some (.rol xs) => .ok (.fz (.lst xs.reverse), st)
  | some (.tup xs) => .ok (.fz (.tup xs.reverse), st)
  | _ => .stuck
def dRevF (f : DE) : DE := fun η st => (f η st).bind fun a => revF a.1 a.2
def lstF (ds : List D) (st : Sr) : R (D × Sr) := match toPs st ds with
  | some (ps, st') => if ps.length ≤ szL then .ok (.fz (.lst ps), st') else .stuck
  | none => .stuck
section
variable {K : PySem.W.Frag} {W : WX} {Z H : Hp} {φ : List Addr} {st : Sr} {Q : VK} {d e : D} {ds : List D}
theorem addF_to (rs : RS K Z φ st H) (af : Af K W Z φ H (addF d e st) (GE K Q)) : Af K W Z φ H (addO d e st) (GE K Q) := by
  unfold addF at af
  split at af
  · rename_i xs ys h1 h2
    have e : addO d e st = (if xs.length + ys.length ≤ szL then R.ok (D.cell st.length, st ++ [Ct.lst (xs ++ ys)]) else .stuck) := by unfold addO; rw [h1, h2]
    rw [e]
    by_cases hz : xs.length + ys.length ≤ szL
    · rw [if_pos hz] at af ⊢; exact af.thaw rs
    · rw [if_neg hz] at af; exact af.elim
  · exact af
theorem slF_to {lo hi : Option Int} (rs : RS K Z φ st H) (af : Af K W Z φ H (slF d lo hi st) (GE K Q)) : Af K W Z φ H (slO d lo hi st) (GE K Q) := by
  unfold slF at af
  unfold slO
  split at af
  · rename_i xs h1; first | exact af | (rw [h1]; exact af)
  · rename_i xs h1; first | exact af.thaw rs | (rw [h1]; exact af.thaw rs)
  · rename_i xs h1; first | exact af.thaw rs | (rw [h1]; exact af.thaw rs)
  · exact af.elim
theorem listF_to (rs : RS K Z φ st H) (af : Af K W Z φ H (listF ds st) (GE K Q)) : Af K W Z φ H (listO ds st) (GE K Q) := by
  unfold listF at af
  unfold listO
  split at af
  · rename_i d
    try dsimp only
    split at af
    · rename_i h1; first | exact af.thaw rs | (rw [h1]; exact af.thaw rs)
    · exact af.elim
  · exact af.elim
theorem sortF_to (rs : RS K Z φ st H) (af : Af K W Z φ H (sortF ds st) (GE K Q)) : Af K W Z φ H (sortO ds st) (GE K Q) := by
  unfold sortF at af
  unfold sortO
  split at af
  · rename_i d
    try dsimp only
    split at af
    · rename_i h1; first | exact af.thaw rs | (rw [h1]; exact af.thaw rs)
    · exact af.elim
  · exact af.elim
theorem rgF_to (rs : RS K Z φ st H) (af : Af K W Z φ H (rgF d st) (GE K Q)) : Af K W Z φ H (rgO d st) (GE K Q) := by
  unfold rgF at af
  unfold rgO
  split at af
  · rename_i n
    try dsimp only
    split at af
    · rename_i hz; first | exact af.thaw rs | (rw [if_pos hz]; exact af.thaw rs)
    · exact af.elim
  · exact af.elim
theorem revF_to (rs : RS K Z φ st H) (af : Af K W Z φ H (revF d st) (GE K Q)) : Af K W Z φ H (revAO d st) (GE K Q) := by
  unfold revF at af
  unfold revAO
  split at af
  · rename_i h1; first | exact af.thaw rs | (rw [h1]; exact af.thaw rs)
  · rename_i h1; first | exact af.thaw rs | (rw [h1]; exact af.thaw rs)
  · rename_i h1; first | exact af | (rw [h1]; exact af)
  · exact af.elim
end
section
variable {X : Cx} {W : WX} {a e : Expr} {es : List Expr} {f g : DE} {fs : DA} {pos p p1 p2 p3 : Pos}
theorem o_addF : OpR X (binaryOp .Add) (rM X.K W addF) := fun pins s σ H x y v u Q I rx ry ⟨d, e, Z, φ, st, rs, rd, re, af⟩ => o_add pins s σ H x y v u Q I rx ry ⟨d, e, Z, φ, st, rs, rd, re, addF_to rs af⟩
theorem c_listF : CallR X (.type "list") (rMA X.K W listF) := fun pins s σ H xs us Q I r ⟨ds, Z, φ, st, rs, rdd, af⟩ => c_list pins s σ H xs us Q I r ⟨ds, Z, φ, st, rs, rdd, listF_to rs af⟩
theorem c_sortF (hu : X.A.units + 3 < cLine) : CallR X (.builtin "sorted") (rMA X.K W sortF) := fun pins s σ H xs us Q I r ⟨ds, Z, φ, st, rs, rdd, af⟩ => c_sorted hu pins s σ H xs us Q I r ⟨ds, Z, φ, st, rs, rdd, sortF_to rs af⟩
theorem s_slF : SlR X (fun x lo hi H Q => ∃ d, ∃ Z φ st, RS X.K Z φ st H ∧ RepD X.K Z φ d x ∧ Af X.K W Z φ H (slF d lo hi st) (GE X.K Q)) := fun pins s σ H x v vl vu lo hi sl Q I rx hs pl pu ⟨d, Z, φ, st, rs, rd, af⟩ => s_sl pins s σ H x v vl vu lo hi sl Q I rx hs pl pu ⟨d, Z, φ, st, rs, rd, slF_to rs af⟩
theorem de_slF {lo hi : Option Expr} {l u : DO} (ha : PE X a (tE X.K W f)) (hl : PO X lo (tO X.K W l)) (hu : PO X hi (tO X.K W u)) : PE X (.Subscript a (.Slice lo hi none p2) pos) (tE X.K W (dSlF f l u)) := by
  refine (pe_slice (s_slF (W := W)) ha hl hu).to fun σ H Q h => ?_
  obtain ⟨Z, φ, η, st, rs, sl, af⟩ := h
  refine ⟨Z, φ, η, st, rs, sl, af.bind.mono fun a Z' φ' H' t g' rs' v r => ?_⟩
  refine ⟨Z', φ', η, a.2, rs', sl.mono t, g'.bind.mono fun b Z2 φ2 H2 t2 g2 rs2 => ?_⟩
  refine ⟨Z2, φ2, η, b.2, rs2, (sl.mono t).mono t2, g2.bind.mono fun c Z3 φ3 H3 t3 g3 rs3 => ?_⟩
  exact ⟨a.1, Z3, φ3, c.2, rs3, (r.mono t2.hz t2.app).mono t3.hz t3.app, g3⟩
theorem de_lstF (h : PA X es (tA X.K W fs)) : PE X (.List es pos) (tE X.K W (dAp lstF fs)) := by
  refine (pe_lst h).to fun σ H Q h => ?_
  obtain ⟨Z, φ, η, st, rs, sl, af⟩ := h
  refine ⟨Z, φ, η, st, rs, sl, af.bind.mono fun a Z' φ' H' t g' rs' vs r => ?_⟩
  unfold lstF at g'
  split at g'
  · rename_i ps st' e
    split at g'
    · rename_i hz
      obtain ⟨Z2, f2, rs2, q2⟩ := toPs_ok rs' e r
      refine ⟨by rw [← q2.length, ← szL_eq]; exact hz, fun p hp => ?_⟩
      exact (g'.later f2.step).newZ rs2 hp fun sz => by rw [Rep]; exact ⟨p, vs, rfl, upd_same, q2.mono sz⟩
    · exact g'.elim
  · exact g'.elim
theorem de_listRgF (hc : X.calm = true) (hg : Gl X "list") (hm : X.mg "list" = none) (hgr : Gl X "range") (hmr : X.mg "range" = none) (ha : PE X a (tE X.K W f)) (na : starEach [a] X.env = (false, eval a X.env) :: starEach [] X.env := by rfl)
    (nb : starEach [.Call (.Name "range" p1) [a] [] p2] X.env = (false, eval (.Call (.Name "range" p1) [a] [] p2) X.env) :: starEach [] X.env := by rfl) : PE X (.Call (.Name "list" p) [.Call (.Name "range" p1) [a] [] p2] [] pos) (tE X.K W (dUn rgF f)) := by
  refine (pe_listRg hc hg hm (prg_1 hgr hmr ha na) nb).to fun σ H Q hh => ?_
  obtain ⟨Z, φ, η, st, rs, sl, af⟩ := hh
  refine ⟨Z, φ, η, st, rs, sl, af.bind.mono fun a Z' φ' H' t g' rs' v r => ?_⟩
  have g' := rgF_to rs' g'
  unfold rgO at g'
  split at g'
  · rename_i n en
    rw [en] at r
    obtain rfl := fz_int r
    split at g'
    · rename_i hz
      exact ⟨n, rfl, RgOk.of_le (Int.le_refl _) hz.2 (by decide) hz.1, fun q hq => g'.lst rs' hq (rg_reps hz.1)⟩
    · exact g'.elim
  · exact g'.elim
theorem de_revF {k : Nat} (he : PE X e (tE X.K W f)) : PE X (.Subscript e (.Slice none none (some (.UnaryOp .USub (.Constant (.int 1) k p1) p2)) p3) pos) (tE X.K W (dRevF f)) := by
  refine (pe_revA he).to fun σ H Q h => ?_
  obtain ⟨Z, φ, η, st, rs, sl, af⟩ := h
  refine ⟨Z, φ, η, st, rs, sl, af.bind.mono fun a Z' φ' H' t g' rs' v r => ?_⟩
  have g' := revF_to rs' g'
  unfold revAO at g'
  split at g'
  · rename_i xs e1
    obtain ⟨a', vs, rfl, h2, h3⟩ := peek_pk rs' e1 r
    exact ⟨a', vs, rfl, .inl ⟨SqL.of h2, fun p hp => g'.lst rs' hp h3.reverse⟩⟩
  · rename_i xs e1
    obtain ⟨a', vs, rfl, h2, h3⟩ := peek_pk rs' e1 r
    exact ⟨a', vs, rfl, .inl ⟨h2, fun p hp => g'.lst rs' hp h3.reverse⟩⟩
  · rename_i xs e1
    obtain ⟨a', vs, rfl, h2, h3⟩ := peek_pk rs' e1 r
    refine ⟨a', vs, rfl, .inr ⟨h2, fun p hp => g'.newZ rs' hp fun sz => ?_⟩⟩
    rw [Rep]
    exact ⟨p, _, rfl, .inl (.inl upd_same), Reps.mono sz _ _ h3.reverse⟩
  · exact g'.elim
end
/-! ### comprehensions -/
def lcZ (r : R (List P × Sr)) : R (D × Sr) := r.calm.bind fun a => .ok (.fz (.lst a.1), a.2)
def dLcLZ (f : DE) (i : Nat) (t : DT) (fe : DE) : DE := fun η st => (f η st).bind fun a => match toP a.2 a.1 with
  | some (p, st') => match itemsP p with
    | some xs => lcZ (lcD i t fe η xs [] st')
    | none => .stuck
  | none => .stuck
def dLcR1Z (f : DA) (i : Nat) (t : DT) (fe : DE) : DE := fun η st => (f η st).bind fun a => match a.1 with
  | [.fz (.int j)] => if -(2 ^ 62) ≤ j ∧ j < 2 ^ 62 then lcZ (lcD i t fe η (rangeP 0 j.toNat) [] a.2) else .stuck
  | _ => .stuck
section
variable {X : Cx} {W : WX}
def LcJ (K : PySem.W.Frag) (W : WX) (i : Nat) (t : DT) (fe : DE) (η : Et) (Q : VK) (σ : St) (Z0 : Hp) (φ0 : List Addr) (H0 : Hp) (p : Addr) (Ex : Hp → Prop) (ys : List P) (H : Hp) : Prop :=
  ∃ Z φ st acc, RS K Z φ st H ∧ Slots K Z φ η σ ∧ Ex Z ∧ Mk1 K Z φ H p acc ∧ Step Z0 φ0 H0 Z φ H ∧ Af K W Z0 φ0 H0 (lcZ (lcD i t fe η ys acc st)) (GE K Q)
variable {K : PySem.W.Frag} {i : Nat} {t : DT} {fe : DE} {η : Et} {Q : VK} {σ : St} {Z0 H0 : Hp} {φ0 : List Addr} {p : Addr} {Ex : Hp → Prop}
theorem LcJ.done {H : Hp} (h0 : H0 p = none) (h : LcJ K W i t fe η Q σ Z0 φ0 H0 p Ex [] H) : Q (.ref p) H := by
  obtain ⟨Z, φ, st, acc, rs, sl, ex, m, s, af⟩ := h
  obtain ⟨vs, h1, h2⟩ := m.at_
  have af2 : Af K W Z0 φ0 H0 (.ok (.fz (.lst acc), st)) (GE K Q) := af
  have sz : Same Z (upd Z p (.lst vs)) := fun b u hb => by rw [upd_ne (by rintro rfl; rw [m.zn] at hb; cases hb)]; exact hb
  refine af2 (upd Z p (.lst vs)) φ H ⟨s.hz.trans sz, s.pre, s.fr, fun b hb => ?_, s.up⟩ ⟨fun b u hb => ?_, rs.len, rs.nd, fun j b c hj hc => ?_, rs.tb, fun b ps z => ?_⟩ (.ref p) ?_
  · by_cases q : b = p
    · subst q; exact .inr (.inl (.of h0))
    · rw [upd_ne q] at hb; exact s.zn b hb
  · by_cases q : b = p
    · subst q; rw [upd_same] at hb; cases hb; exact h1
    · rw [upd_ne q] at hb; exact rs.same b u hb
  · have nb : b ≠ p := by rintro rfl; exact m.out (List.mem_of_getElem? hj)
    exact (rs.cells j b c hj hc).keep sz ⟨[], by simp⟩ (fun q => by rw [upd_ne nb]; exact (rs.cells j b c hj hc).free q) fun u hu _ => hu
  · by_cases q : b = p
    · subst q; rw [upd_same] at z; cases z
    · rw [upd_ne q] at z; exact rs.zd b ps z
  · show Rep _ _ _ _
    rw [Rep]
    exact ⟨p, vs, rfl, upd_same, h2.mono sz⟩
theorem lcZ_some {r : R (List P × Sr)} {Z : Hp} {φ : List Addr} {H : Hp} (h : Af K W Z φ H (lcZ r) (GE K Q)) : ∃ a, r = .ok a := by
  cases r with
  | ok a => exact ⟨a, rfl⟩
  | exc => exact h.elim
  | stuck => exact h.elim
theorem LcJ.turn (h0 : H0 p = none) (hm : ∀ Z Z', Same Z Z' → Ex Z → Ex Z') {x : P} {ys : List P} {H : Hp} {v : V} (h : LcJ K W i t fe η Q σ Z0 φ0 H0 p Ex (x :: ys) H) (hv : ∀ Z, Same Z H → Ex Z → Rep K Z x v) :
    tT K W0 t (σ.set i (some v)) H (fun b H3 => if b = true then tE K W0 fe (σ.set i (some v)) H3 (fun y H4 => ∃ acc, H4 p = some (.lst acc) ∧ acc.length < sizeLine ∧ LcJ K W i t fe η Q σ Z0 φ0 H0 p Ex ys (upd H4 p (.lst (acc ++ [y])))) else LcJ K W i t fe η Q σ Z0 φ0 H0 p Ex ys H3) := by
  obtain ⟨Z, φ, st, acc, rs, sl, ex, m, s, af⟩ := h
  have slv : Slots K Z φ (η.set i (some (.fz x))) (σ.set i (some v)) := sl.set (hv Z rs.same ex)
  refine ⟨Z, φ, _, st, rs, slv, ?_⟩
  obtain ⟨⟨acc', st'⟩, he⟩ := lcZ_some af
  have he0 := he
  unfold lcD at he
  cases e1 : t (η.set i (some (.fz x))) st with
  | exc => rw [e1] at he; cases he
  | stuck => rw [e1] at he; cases he
  | ok a =>
    rw [e1] at he
    intro Z1 φ1 H1 s1 rs1
    have he1 : (if a.1 = true then (fe (η.set i (some (.fz x))) a.2).bind fun b => match toP b.2 b.1 with
      | some (p, st2) => if acc.length < szL then lcD i t fe η ys (acc ++ [p]) st2 else .stuck
      | none => .stuck
    else lcD i t fe η ys acc a.2) = .ok (acc', st') := he
    have m1 := m.step s1
    by_cases ha : a.1 = true
    · rw [if_pos ha] at he1 ⊢
      refine ⟨Z1, φ1, _, a.2, rs1, slv.mono s1, ?_⟩
      cases e2 : fe (η.set i (some (.fz x))) a.2 with
      | exc => rw [e2] at he1; cases he1
      | stuck => rw [e2] at he1; cases he1
      | ok b =>
        rw [e2] at he1
        intro Z2 φ2 H2 s2 rs2 y ry
        have he2 : (match toP b.2 b.1 with
          | some (p, st2) => if acc.length < szL then lcD i t fe η ys (acc ++ [p]) st2 else .stuck
          | none => .stuck) = .ok (acc', st') := he1
        have m2 := m1.step s2
        obtain ⟨vs, h1, h2⟩ := m2.at_
        cases e3 : toP b.2 b.1 with
        | none => rw [e3] at he2; cases he2
        | some pr =>
          obtain ⟨q, st3⟩ := pr
          rw [e3] at he2
          dsimp only at he2
          split at he2
          · rename_i hz
            obtain ⟨Z3, f3, rs3, r3⟩ := toP_ok rs2 e3 ry
            have m3 := m2.step f3.step
            obtain ⟨rs4, m4⟩ := m3.push rs3 h1 r3
            have s3 := ((s.trans s1).trans s2).trans f3.step
            refine ⟨vs, h1, by rw [← h2.length, ← szL_eq]; exact hz, Z3, φ2, st3, acc ++ [q], rs4, ((sl.mono s1).mono s2).mono f3.step, hm _ _ f3.hz (hm _ _ s2.hz (hm _ _ s1.hz ex)), m4, ?_, ?_⟩
            · refine ⟨s3.hz, s3.pre, fun b o hb hn ht => ?_, s3.zn, fun b hb => ?_⟩
              · rw [upd_ne]
                · exact s3.fr b o hb hn ht
                · rintro rfl
                  rw [h0] at hb; cases hb
              · by_cases q : b = p
                · subst q; exact .of h0
                · exact s3.up b fun o ho => hb o (by rw [upd_ne q]; exact ho)
            · rw [he2]; rw [he0] at af; exact af
          · cases he2
    · rw [if_neg ha] at he1 ⊢
      exact ⟨Z1, φ1, a.2, acc, rs1, sl.mono s1, hm _ _ s1.hz ex, m1, s.trans s1, by rw [he1]; rw [he0] at af; exact af⟩
end
section
variable {X : Cx} {W : WX} {elt iter a : Expr} {scope : Scope} {x : Str} {i : Nat} {tpos pos p2 : Pos} {ifs : List Expr} {f fe : DE} {fs : DA} {t : DT}
/-- what a comprehension over frozen items asks -/
theorem lcZ_read {D : Addr} {σ : St} {η : Et} {H Z : Hp} {φ : List Addr} {st : Sr} {xs : List P} {Q : VK} {Ex : Hp → Prop} (hD : H D = none) (rs : RS X.K Z φ st H) (sl : Slots X.K Z φ η σ) (ex : Ex Z) (af : Af X.K W Z φ H (lcZ (lcD i t fe η xs [] st)) (GE X.K Q)) :
    LcJ X.K W i t fe η Q σ Z φ H D Ex xs (upd H D (.lst [])) := by
  have hz : Z D = none := rs.same.free hD
  have na : D ∉ φ := fun hm => by obtain ⟨u, hu⟩ := rs.some_ hm; rw [hD] at hu; cases hu
  refine ⟨Z, φ, st, [], ⟨fun b u hb => ?_, rs.len, rs.nd, fun j b c hj hc => ?_, tabs_upd rs.tb (fun u hu => by rw [hD] at hu; cases hu), rs.zd⟩, sl, ex, ⟨na, hz, [], upd_same, .nil⟩, ⟨Same.refl _, ⟨[], by simp, by simp⟩, fun b u hb hn _ => ?_, fun b hb => .inl hb, fun b hb => ?_⟩, af⟩
  · rw [upd_ne (by rintro rfl; rw [hz] at hb; cases hb)]; exact rs.same b u hb
  · have nb : b ≠ D := by rintro rfl; exact na (List.mem_of_getElem? hj)
    exact (rs.cells j b c hj hc).keep (Same.refl _) ⟨[], by simp⟩ (fun q => (rs.cells j b c hj hc).free q) fun u hu _ => by rw [upd_ne nb]; exact hu
  · rw [upd_ne (by rintro rfl; rw [hD] at hb; cases hb)]; exact hb
  · by_cases q : b = D
    · subst q; exact .of hD
    · exact fun o ho => hb o (by rw [upd_ne q]; exact ho)
theorem lcZL_to {σ : St} {H : Hp} {Q : VK} (hh : tE X.K W (dLcLZ f i t fe) σ H Q) :
    tLc (fun σ H R => tE X.K W f σ H fun x H1 => ∃ a, x = .ref a ∧ (((∃ xs, SqL X.K H1 a xs) ∧ R (Itl X.K a) H1) ∨ ((∃ xs, SqT X.K H1 a xs) ∧ R (Itt X.K a) H1))) (gName i) (tT X.K W0 t) (tE X.K W0 fe) [i] σ H Q := by
  obtain ⟨Z, φ, η, st, rs, sl, af⟩ := hh
  refine ⟨Z, φ, η, st, rs, sl, af.bind.mono fun a Z' φ' H' t' g' rs' v r => ?_⟩
  split at g'
  · rename_i p st' e1
    split at g'
    · rename_i xs e2
      obtain ⟨Z2, f2, rs2, q2⟩ := toP_ok rs' e1 r
      obtain ⟨a', vs, rfl, h2, h3⟩ := pk_itemsZ q2 e2
      have af2 := g'.later f2.step
      have sl2 := (sl.mono t').mono f2.step
      rcases h2 with h2 | h2
      · refine ⟨a', rfl, .inl ⟨⟨vs, rs2.same.seq h2⟩, fun D hD => ?_⟩⟩
        refine lc_list (K := X.K) (a := a') (xs := vs) (Qd := fun H => Q (.ref D) H) (fun j H => LcJ X.K W i t fe η Q σ Z2 φ' H' D (fun Z => SqL X.K Z a' vs ∧ Reps X.K Z xs vs) (xs.drop j) H) (by rw [List.drop_zero]; exact lcZ_read hD rs2 sl2 ⟨h2, h3⟩ af2) (fun j H _ hh => ?_) (fun j x H hx hh => ?_) (fun H hh => ?_)
        · obtain ⟨Z3, _, _, _, rs3, _, ⟨e3, _⟩, _⟩ := hh; exact rs3.same.seq e3
        · have hl : j < xs.length := by rw [h3.length]; exact (List.getElem?_eq_some_iff.mp hx).1
          rw [drop_cons (List.getElem?_eq_getElem hl)] at hh
          refine ⟨wipe1 _ _ _, ?_⟩
          rw [wipe1s]
          refine hh.turn hD (fun Z Z' s ⟨e1, e2⟩ => ⟨s.seq e1, e2.mono s⟩) fun Z _ ⟨_, e2⟩ => ?_
          obtain ⟨v, hv, rv⟩ := e2.get (List.getElem?_eq_getElem hl)
          rw [hx] at hv; cases hv; exact rv
        · rw [← h3.length, List.drop_length] at hh
          exact hh.done hD
      · refine ⟨a', rfl, .inr ⟨⟨vs, same_sqT rs2.same h2⟩, fun D hD => ?_⟩⟩
        refine lc_tup (K := X.K) (a := a') (xs := vs) (Qd := fun H => Q (.ref D) H) (fun j H => LcJ X.K W i t fe η Q σ Z2 φ' H' D (fun Z => SqT X.K Z a' vs ∧ Reps X.K Z xs vs) (xs.drop j) H) (by rw [List.drop_zero]; exact lcZ_read hD rs2 sl2 ⟨h2, h3⟩ af2) (fun j H _ hh => ?_) (fun j x H hx hh => ?_) (fun H hh => ?_)
        · obtain ⟨Z3, _, _, _, rs3, _, ⟨e3, _⟩, _⟩ := hh; exact same_sqT rs3.same e3
        · have hl : j < xs.length := by rw [h3.length]; exact (List.getElem?_eq_some_iff.mp hx).1
          rw [drop_cons (List.getElem?_eq_getElem hl)] at hh
          refine ⟨wipe1 _ _ _, ?_⟩
          rw [wipe1s]
          refine hh.turn hD (fun Z Z' s ⟨e1, e2⟩ => ⟨same_sqT s e1, e2.mono s⟩) fun Z _ ⟨_, e2⟩ => ?_
          obtain ⟨v, hv, rv⟩ := e2.get (List.getElem?_eq_getElem hl)
          rw [hx] at hv; cases hv; exact rv
        · rw [← h3.length, List.drop_length] at hh
          exact hh.done hD
    · exact g'.elim
  · exact g'.elim
theorem lcZR1_to {σ : St} {H : Hp} {Q : VK} (hh : tE X.K W (dLcR1Z fs i t fe) σ H Q) : tLc (iRng1 (tA X.K W fs)) (gName i) (tT X.K W0 t) (tE X.K W0 fe) [i] σ H Q := by
  obtain ⟨Z, φ, η, st, rs, sl, af⟩ := hh
  refine ⟨Z, φ, η, st, rs, sl, af.bind.mono fun a Z' φ' H' t' g' rs' vs r => ?_⟩
  split at g'
  · rename_i j ej
    rw [ej] at r
    obtain ⟨v, rfl, rj⟩ := r.one
    obtain rfl := fz_int rj
    split at g'
    · rename_i hz
      refine ⟨j, rfl, hz.1, hz.2, fun D hD => ?_⟩
      refine lc_range (lo := 0) (n := j.toNat) (Qd := fun H => Q (.ref D) H) (fun k H => LcJ X.K W i t fe η Q σ Z' φ' H' D (fun _ => True) ((rangeP 0 j.toNat).drop k) H) (by rw [List.drop_zero]; exact lcZ_read hD rs' (sl.mono t') trivial g') (fun k H hk hh => ?_) (fun H hh => ?_)
      · rw [drop_cons (rangeP_get hk)] at hh
        refine ⟨wipe1 _ _ _, ?_⟩
        rw [wipe1s]
        exact hh.turn hD (fun _ _ _ _ => trivial) fun Z _ _ => by rw [Rep]
      · rw [List.drop_eq_nil_of_le (by rw [rangeP_len]; exact Nat.le_refl _)] at hh
        exact hh.done hD
    · exact g'.elim
  · exact g'.elim
/-- [elt for x in iter if ..] -/
theorem de_lcLZ (hc : X.calm = true) (hN : X.N.Nodup) (hl : PE X iter (tE X.K W f)) (ok : BlkOk X.N X.env.scope scope [(x, i)])
    (hg : ∀ (s : Shared) (H : Hp) (C : Addr) (cl : List (Str × Addr)) (fp : List Addr), PG (X.blk s H scope (compEnvC scope cl C X.env) fp) (.Name x tpos) (gName i)) (ht : ∀ (s : Shared) (H : Hp) (C : Addr) (cl : List (Str × Addr)) (fp : List Addr), PTs (X.blk s H scope (compEnvC scope cl C X.env) fp) ifs (tT X.K W0 t))
    (he : ∀ (s : Shared) (H : Hp) (C : Addr) (cl : List (Str × Addr)) (fp : List Addr), PE (X.blk s H scope (compEnvC scope cl C X.env) fp) elt (tE X.K W0 fe)) (hs : ∀ x, foldedSetIterable iter X.env x = pure x := by intro _; rfl) :
    PE X (.ListComp elt [⟨.Name x tpos, iter, ifs, 0⟩] scope pos) (tE X.K W (dLcLZ f i t fe)) := (pe_lc (own := [(x, i)]) hc hN (pi_seq hl) ok hg ht he hs).to fun σ H Q hh => lcZL_to hh
theorem de_lcR1Z {p pos' : Pos} (hc : X.calm = true) (hN : X.N.Nodup) (hgl : Gl X "range") (hm : X.mg "range" = none) (ha : PA X [a] (tA X.K W fs)) (ok : BlkOk X.N X.env.scope scope [(x, i)])
    (hg : ∀ (s : Shared) (H : Hp) (C : Addr) (cl : List (Str × Addr)) (fp : List Addr), PG (X.blk s H scope (compEnvC scope cl C X.env) fp) (.Name x tpos) (gName i)) (ht : ∀ (s : Shared) (H : Hp) (C : Addr) (cl : List (Str × Addr)) (fp : List Addr), PTs (X.blk s H scope (compEnvC scope cl C X.env) fp) ifs (tT X.K W0 t))
    (he : ∀ (s : Shared) (H : Hp) (C : Addr) (cl : List (Str × Addr)) (fp : List Addr), PE (X.blk s H scope (compEnvC scope cl C X.env) fp) elt (tE X.K W0 fe)) (hss : starEach [a] X.env = [(false, eval a X.env)] := by rfl) (hs : ∀ x, foldedSetIterable (.Call (.Name "range" p) [a] [] pos) X.env x = pure x := by intro _; rfl) :
    PE X (.ListComp elt [⟨.Name x tpos, .Call (.Name "range" p) [a] [] pos, ifs, 0⟩] scope pos') (tE X.K W (dLcR1Z fs i t fe)) := (pe_lc (own := [(x, i)]) hc hN (pi_range1 hgl hm ha hss) ok hg ht he hs).to fun σ H Q hh => lcZR1_to hh
theorem ds_lcLZ {j : Nat} {y : Str} {py spos : Pos} (hc : X.calm = true) (hN : X.N.Nodup) (hl : PE X iter (tE X.K W f)) (ok : BlkOk X.N X.env.scope scope [(x, i)])
    (hg : ∀ (s : Shared) (H : Hp) (C : Addr) (cl : List (Str × Addr)) (fp : List Addr), PG (X.blk s H scope (compEnvC scope cl C X.env) fp) (.Name x tpos) (gName i)) (ht : ∀ (s : Shared) (H : Hp) (C : Addr) (cl : List (Str × Addr)) (fp : List Addr), PTs (X.blk s H scope (compEnvC scope cl C X.env) fp) ifs (tT X.K W0 t))
    (he : ∀ (s : Shared) (H : Hp) (C : Addr) (cl : List (Str × Addr)) (fp : List Addr), PE (X.blk s H scope (compEnvC scope cl C X.env) fp) elt (tE X.K W0 fe))
    (hsw : swapsWith (.ListComp elt [⟨.Name x tpos, iter, ifs, 0⟩] scope pos) (some (.Name y py)) spos.line X.env = pure true) (hy : X.N[j]? = some y := by rfl) (hyl : X.env.scope.names.lookup y = some .local := by rfl) (hs : ∀ x, foldedSetIterable iter X.env x = pure x := by intro _; rfl) :
    PS X (.Assign [.Name y py] (.ListComp elt [⟨.Name x tpos, iter, ifs, 0⟩] scope pos) spos) (tS X.K W (dAsg (dLcLZ f i t fe) (gNm j))) := (ps_setLc (own := [(x, i)]) hc hN hy hyl hsw (pi_seq hl) ok hg ht he hs).to fun D σ H hh => lcZL_to (dAsg_to hh)
theorem ds_lcR1Z {j : Nat} {y : Str} {py spos p pos' : Pos} (hc : X.calm = true) (hN : X.N.Nodup) (hgl : Gl X "range") (hm : X.mg "range" = none) (ha : PA X [a] (tA X.K W fs)) (ok : BlkOk X.N X.env.scope scope [(x, i)])
    (hg : ∀ (s : Shared) (H : Hp) (C : Addr) (cl : List (Str × Addr)) (fp : List Addr), PG (X.blk s H scope (compEnvC scope cl C X.env) fp) (.Name x tpos) (gName i)) (ht : ∀ (s : Shared) (H : Hp) (C : Addr) (cl : List (Str × Addr)) (fp : List Addr), PTs (X.blk s H scope (compEnvC scope cl C X.env) fp) ifs (tT X.K W0 t))
    (he : ∀ (s : Shared) (H : Hp) (C : Addr) (cl : List (Str × Addr)) (fp : List Addr), PE (X.blk s H scope (compEnvC scope cl C X.env) fp) elt (tE X.K W0 fe))
    (hsw : swapsWith (.ListComp elt [⟨.Name x tpos, .Call (.Name "range" p) [a] [] pos, ifs, 0⟩] scope pos') (some (.Name y py)) spos.line X.env = pure true) (hy : X.N[j]? = some y := by rfl) (hyl : X.env.scope.names.lookup y = some .local := by rfl) (hss : starEach [a] X.env = [(false, eval a X.env)] := by rfl) (hs : ∀ x, foldedSetIterable (.Call (.Name "range" p) [a] [] pos) X.env x = pure x := by intro _; rfl) :
    PS X (.Assign [.Name y py] (.ListComp elt [⟨.Name x tpos, .Call (.Name "range" p) [a] [] pos, ifs, 0⟩] scope pos') spos) (tS X.K W (dAsg (dLcR1Z fs i t fe) (gNm j))) := (ps_setLc (own := [(x, i)]) hc hN hy hyl hsw (pi_range1 hgl hm ha hss) ok hg ht he hs).to fun D σ H hh => lcZR1_to (dAsg_to hh)
end
end M

end
section
set_option Elab.async false
set_option linter.all false
set_option maxRecDepth 100000
set_option maxHeartbeats 0
namespace M
open PySem L2
/-! # a, b = x, y -/
def dPar (i j : Nat) (f : DA) : DS := fun η st => (f η st).bind fun a => match a.1 with
  | [d, e] => .ok (.nx, (η.set i (some d)).set j (some e), a.2)
  | _ => .stuck
section
variable {X : Cx} {W : WX} {pos : Pos}
theorem ds_par {i j : Nat} {x y : Str} {a b : Expr} {fs : DA} {px py pt : Pos} {kt k2 pt2} (hc : X.calm = true) (hN : X.N.Nodup) (ha : PA X [a, b] (tA X.K W fs)) (hi : X.N[i]? = some x := by rfl) (hj : X.N[j]? = some y := by rfl) (hij : i ≠ j := by decide)
    (hx : X.env.scope.names.lookup x = some .local := by rfl) (hy : X.env.scope.names.lookup y = some .local := by rfl)
    (hw : swappedStores [.Tuple [.Name x px, .Name y py] kt pt] (.Tuple [a, b] k2 pt2) X.env = pure (some [x, y]) := by rfl)
    (hs : swapsWithSole [.Tuple [.Name x px, .Name y py] kt pt] (.Tuple [a, b] k2 pt2) pos.line X.env = pure false := by rfl) :
    PS X (.Assign [.Tuple [.Name x px, .Name y py] kt pt] (.Tuple [a, b] k2 pt2) pos) (tS X.K W (dPar i j fs)) := by
  refine (ps_par hc hN hi hj hij hx hy ha hw hs).to fun D σ H hh => ?_
  obtain ⟨Z, φ, η, st, rs, sl, af⟩ := hh
  refine ⟨Z, φ, η, st, rs, sl, af.bind.mono fun a Z' φ' H' t g' rs' vs r => ?_⟩
  split at g'
  · rename_i d e ed
    rw [ed] at r
    obtain ⟨v, w, rfl, r1, r2⟩ := r.two
    exact ⟨v, w, rfl, g' _ _ _ .refl rs' _ (((sl.mono t).set r1).set r2)⟩
  · exact g'.elim
end
end M

end
section
set_option Elab.async false
set_option linter.all false
set_option maxRecDepth 100000
set_option maxHeartbeats 0
namespace M
open PySem L2
/-! # Rules: frozen lists; booleans; errors -/
section
variable {η η' η1 : Et} {st st' s1 s2 s3 : Sr} {f g h : DE} {fa ga : DA} {t u : DT} {a b c d : D} {as bs : List D} {p q : P} {i j n : Nat} {xs ys : List P} {x y : DS} {r : R (Fl × Et × Sr)} {z : Int}
theorem add_intF {i j : Int} : addF (.fz (.int i)) (.fz (.int j)) st = .ok (.fz (.int (i + j)), st) := rfl
theorem addwF {u v : List Int} (h : u.length + v.length ≤ 100000) : addF (.fz (pw u)) (.fz (pw v)) st = .ok (.fz (pw (u ++ v)), st) := addw h
theorem add_f (h : xs.length + ys.length ≤ 16777216) : addF (.fz (.lst xs)) (.fz (.lst ys)) st = .ok (.fz (.lst (xs ++ ys)), st) := by
  show (if xs.length + ys.length ≤ szL then R.ok (D.fz (.lst (xs ++ ys)), st) else .stuck) = _
  exact if_pos h
theorem slf_t (h : IsL st d xs) (hz : 0 ≤ z) : slF d none (some z) st = .ok (.fz (.lst (xs.take z.toNat)), st) := by
  unfold slF; rw [show peek st d = some (.lst xs) from h]; dsimp only
  have := cut_take xs z.toNat
  rw [Int.toNat_of_nonneg hz] at this
  rw [this]
theorem slf_d (h : IsL st d xs) (hz : 0 ≤ z) : slF d (some z) none st = .ok (.fz (.lst (xs.drop z.toNat)), st) := by
  unfold slF; rw [show peek st d = some (.lst xs) from h]; dsimp only
  have := cut_drop xs z.toNat
  rw [Int.toNat_of_nonneg hz] at this
  rw [this]
theorem slwF_t {ws : List Int} (hz : 0 ≤ z) : slF (.fz (pw ws)) none (some z) st = .ok (.fz (pw (ws.take z.toNat)), st) := slw_t hz
theorem slwF_d {ws : List Int} (hz : 0 ≤ z) : slF (.fz (pw ws)) (some z) none st = .ok (.fz (pw (ws.drop z.toNat)), st) := slw_d hz
theorem listf (h : IsL st d xs) : listF [d] st = .ok (.fz (.lst xs), st) := by
  unfold listF; dsimp only; rw [show peek st d = some (.lst xs) from h]; rfl
theorem lstf {ps : List P} (h : ps.length ≤ 16777216) : lstF (ps.map D.fz) st = .ok (.fz (.lst ps), st) := by
  unfold lstF; rw [tup_fz rfl]; exact if_pos h
theorem rgf {n : Nat} (h : n ≤ 16777216) : rgF (.fz (.int (n : Int))) st = .ok (.fz (.lst ((List.range n).map fun i : Nat => P.int (i : Int))), st) := by
  have hb : (0 : Int) ≤ (n : Int) ∧ (n : Int) ≤ 16777216 := by omega
  show (if 0 ≤ (n : Int) ∧ (n : Int) ≤ 16777216 then R.ok (D.fz (.lst (rangeP 0 (n : Int).toNat)), st) else .stuck) = _
  rw [if_pos hb, Int.toNat_natCast]
  have : rangeP 0 n = (List.range n).map fun i : Nat => P.int (i : Int) := by
    unfold rangeP; congr 1; funext i; rw [Int.zero_add]
  rw [this]
/-! lists of words -/
variable {ps qs : List (List Int)}
theorem add_ps (h : ps.length + qs.length ≤ 10000) : addF (.fz (pws ps)) (.fz (pws qs)) st = .ok (.fz (pws (ps ++ qs)), st) := by
  have := add_f (st := st) (xs := ps.map pw) (ys := qs.map pw) (by simp; omega)
  rw [← List.map_append] at this; exact this
theorem take_ps (hz : 0 ≤ z) : slF (.fz (pws ps)) none (some z) st = .ok (.fz (pws (ps.take z.toNat)), st) := by
  have := slf_t (st := st) (d := .fz (pws ps)) (xs := ps.map pw) rfl hz
  rw [← List.map_take] at this; exact this
theorem drop_ps (hz : 0 ≤ z) : slF (.fz (pws ps)) (some z) none st = .ok (.fz (pws (ps.drop z.toNat)), st) := by
  have := slf_d (st := st) (d := .fz (pws ps)) (xs := ps.map pw) rfl hz
  rw [← List.map_drop] at this; exact this
theorem ix_ps {w : List Int} (hz : 0 ≤ z) (hk : ps[z.toNat]? = some w) : ixO (.fz (pws ps)) (.fz (.int z)) st = .ok (.fz (pw w), st) :=
  ixl IsL.fz hz (by rw [List.getElem?_map, hk]; rfl)
theorem len_ps : lenO [.fz (pws ps)] st = .ok (.fz (.int (ps.length : Int)), st) := by
  have := len_lst (st := st) (d := .fz (pws ps)) (xs := ps.map pw) rfl
  rw [List.length_map] at this; exact this
theorem list_ps : listF [.fz (pws ps)] st = .ok (.fz (pws ps), st) := listf IsL.fz
theorem lst_ps2 {v w : List Int} : lstF [.fz (pw v), .fz (pw w)] st = .ok (.fz (pws [v, w]), st) := lstf (ps := [pw v, pw w]) (by simp)
theorem lst_ps1 {v : List Int} : lstF [.fz (pw v)] st = .ok (.fz (pws [v]), st) := lstf (ps := [pw v]) (by simp)
theorem tup_2 {p q : P} : tupO [.fz p, .fz q] st = .ok (.fz (.tup [p, q]), st) := tupO_fz (ps := [p, q]) (by simp)
theorem ix2_0 {p q : P} : ixO (.fz (.tup [p, q])) (.fz (.int 0)) st = .ok (.fz p, st) := ixt (z := 0) (by decide) rfl
theorem ix2_1 {p q : P} : ixO (.fz (.tup [p, q])) (.fz (.int 1)) st = .ok (.fz q, st) := ixt (z := 1) (by decide) rfl
theorem all_bl (l : List Bool) (h : IsL st d (l.map P.bl)) : allO [d] st = .ok (.fz (.bl (l.all id)), st) := by
  unfold allO; dsimp only; rw [show peek st d = some (.lst (l.map P.bl)) from h]
  show (match boolsP (l.map P.bl) with | some bs => R.ok (D.fz (.bl (bs.all id)), st) | none => .stuck) = _
  rw [boolsP_map]
/-! comparing -/
theorem le_b {x y : Int} {v : Bool} (h : decide (x ≤ y) = v) : leO (.fz (.int x)) (.fz (.int y)) st = .ok (.fz (.bl v), st) := by subst h; rfl
theorem lt_b {x y : Int} {v : Bool} (h : decide (x < y) = v) : ltO (.fz (.int x)) (.fz (.int y)) st = .ok (.fz (.bl v), st) := by subst h; rfl
theorem gt_b {x y : Int} {v : Bool} (h : decide (y < x) = v) : gtO (.fz (.int x)) (.fz (.int y)) st = .ok (.fz (.bl v), st) := by subst h; rfl
theorem eq_b {x y : Int} {v : Bool} (h : decide (x = y) = v) : eqO (.fz (.int x)) (.fz (.int y)) st = .ok (.fz (.bl v), st) := by subst h; exact eq_int
theorem ne_bl {x y : Bool} : neO (.fz (.bl x)) (.fz (.bl y)) st = .ok (.fz (.bl (x != y)), st) := by cases x <;> cases y <;> rfl
theorem eq_bl {x y : Bool} : eqO (.fz (.bl x)) (.fz (.bl y)) st = .ok (.fz (.bl (x == y)), st) := by cases x <;> cases y <;> rfl
theorem ne_w {u v : List Int} : neO (.fz (pw u)) (.fz (pw v)) st = .ok (.fz (.bl (!decide (u = v))), st) := by
  show (if shP (pw u) = true ∧ shP (pw v) = true then R.ok (D.fz (.bl (!eqP (pw u) (pw v))), st) else .stuck) = _
  rw [if_pos ⟨shP_tup _, shP_tup _⟩, eqP_tup]
theorem kitBB : kitB "bool" "bool" = some true := by decide +kernel
theorem kitTT : kitB "tuple" "tuple" = some true := by decide +kernel
theorem kitNT : kitB "NoneType" "tuple" = some false := by decide +kernel
/-! an error on its way -/
variable {cl : Str} {fs : Option (List (Str × P))}
theorem x_seq (h : x η st = .exc cl fs η1 s1) : dSeq x y η st = .exc cl fs η1 s1 := by unfold dSeq; rw [h]; rfl
theorem x_ex (h : f η st = .exc cl fs η1 s1) : dEx f η st = .exc cl fs η1 s1 := by unfold dEx; rw [h]; rfl
theorem s_try {tab : List (Str × Bool)} {b : DS} {su : Str → Option (List (Str × P)) → DS} (h : b η st = .exc cl fs η1 s1) (hl : look1 cl tab = some true) (hi : i < η1.length) (h2 : su cl fs (η1.set i none) s1 = .ok (.nx, η', s2)) : dTryAs tab i b su η st = .ok (.nx, η'.set i none, s2) := by
  unfold dTryAs; rw [h]; dsimp only; rw [hl]; dsimp only; rw [if_pos hi, h2]; rfl
theorem run0x {np n : Nat} {b : DS} {ds : List D} {η' : Et} {st' : Sr} (hl : ds.length = np) (h : b (ds.map some ++ List.replicate (n - np) none) [] = .exc cl fs η' st') : runF np n true b ds [] = .exc cl fs [] [] := by
  unfold runF
  rw [if_pos hl, h]
  show exitX 0 cl fs st' = _
  have e : exitI 0 (.fz .non) st' = .ok (.fz .non, []) := exit0 (p := .non)
  unfold exitX
  rw [e]
theorem s_par {d e : D} (h1 : fa η st = .ok ([d, e], s1)) : dPar i j fa η st = .ok (.nx, (η.set i (some d)).set j (some e), s1) := by unfold dPar; rw [h1]; rfl
/-! loops over a frozen list -/
theorem e_lcLZ {m : Nat} (h1 : h η st = .ok (a, s1)) (h2 : toP s1 a = some (p, s2)) (h3 : itemsP p = some xs) (h4 : lcD m t f η xs [] s2 = .ok (ys, s3)) : dLcLZ h m t f η st = .ok (.fz (.lst ys), s3) := by
  unfold dLcLZ; rw [h1, bind_ok]; dsimp only; rw [h2]; dsimp only; rw [h3]; dsimp only; rw [h4]; rfl
theorem e_lcR1Z {k m : Nat} (h1 : fa η st = .ok ([.fz (.int k)], s1)) (hk : k ≤ 1000000) (h4 : lcD m t f η (rangeP 0 k) [] s1 = .ok (ys, s2)) : dLcR1Z fa m t f η st = .ok (.fz (.lst ys), s2) := by
  unfold dLcR1Z
  rw [h1, bind_ok]
  have e : (if -(2 ^ 62) ≤ (k : Int) ∧ (k : Int) < 2 ^ 62 then lcZ (lcD m t f η (rangeP 0 (k : Int).toNat) [] s1) else .stuck) = lcZ (lcD m t f η (rangeP 0 (k : Int).toNat) [] s1) := if_pos ⟨ge62 k, lt62 hk⟩
  refine e.trans ?_
  rw [Int.toNat_natCast, h4]; rfl
theorem e_slF {l v : DO} {lo hi : Option Int} {r : R (D × Sr)} (h1 : f η st = .ok (a, s1)) (hl : l η s1 = .ok (lo, s2)) (hu : v η s2 = .ok (hi, s3)) (h3 : slF a lo hi s3 = r) : dSlF f l v η st = r := by
  unfold dSlF; rw [h1, bind_ok]; dsimp only; rw [hl, bind_ok]; dsimp only; rw [hu, bind_ok]; exact h3
theorem e_revF {r : R (D × Sr)} (h1 : f η st = .ok (a, s1)) (h3 : revF a s1 = r) : dRevF f η st = r := by
  unfold dRevF; rw [h1, bind_ok]; exact h3
theorem s_forE {gg : DG} (h1 : fa η st = .ok ([d], s1)) (h2 : toP s1 d = some (.lst xs, s2)) (h4 : loopD gg x (enumP 0 xs) η s2 = r) : dForE fa gg x η st = r := by
  unfold dForE; rw [h1, bind_ok]; dsimp only; rw [h2]; exact h4
theorem lp_retT {gs : DG} {η1 : Et} {e : D} (hg : gs (.fz p) η st = some η1) (h1 : x η1 st = .ok (.rt e, η', s1)) : loopD gs x (p :: xs) η st = .ok (.rt e, η', s1) := by
  unfold loopD; rw [hg]; dsimp only; rw [h1]; rfl
end
end M

end
section
set_option Elab.async false
set_option linter.all false
set_option maxRecDepth 100000
set_option maxHeartbeats 0
namespace M
open PySem L2
/-! # Rules: searching loops, slices with two ends, comprehensions by their values -/
/-- a loop that returns at the first item of which c tells something -/
theorem lp_find {α : Type} {g : DG} {body : DS} {h : α → P} {c : α → Option P} {I : Et → Prop} {st : Sr} : ∀ (l : List α),
    (∀ x ∈ l, ∀ η, I η → ∃ η1, g (.fz (h x)) η st = some η1 ∧ (c x = none → ∃ η2, I η2 ∧ body η1 st = .ok (.nx, η2, st)) ∧ (∀ r, c x = some r → ∃ η2, body η1 st = .ok (.rt (.fz r), η2, st))) →
    ∀ η, I η → (l.findSome? c = none → ∃ η', I η' ∧ loopD g body (l.map h) η st = .ok (.nx, η', st)) ∧ (∀ r, l.findSome? c = some r → ∃ η', loopD g body (l.map h) η st = .ok (.rt (.fz r), η', st))
  | [], _, η, hI => ⟨fun _ => ⟨η, hI, rfl⟩, fun r hr => by cases hr⟩
  | x :: l, hx, η, hI => by
    obtain ⟨η1, g1, g2, g3⟩ := hx x List.mem_cons_self η hI
    rw [List.findSome?_cons, List.map_cons]
    cases hc : c x with
    | some r =>
      obtain ⟨η2, e⟩ := g3 r hc
      refine ⟨fun h => (by cases h), fun r' hr => ?_⟩
      cases hr
      exact ⟨η2, lp_retT g1 e⟩
    | none =>
      obtain ⟨η2, i2, e⟩ := g2 hc
      obtain ⟨k1, k2⟩ := lp_find l (fun y hy => hx y (List.mem_cons_of_mem _ hy)) η2 i2
      refine ⟨fun h => ?_, fun r hr => ?_⟩
      · obtain ⟨η', j, e'⟩ := k1 h
        exact ⟨η', j, lp_consT g1 e e'⟩
      · obtain ⟨η', e'⟩ := k2 r hr
        exact ⟨η', lp_consT g1 e e'⟩
/-- [f(x) for x in l], by its values -/
theorem lc_map {α : Type} {i : Nat} {fe : DE} {η : Et} {st : Sr} {g : α → P} {h : α → P} : ∀ (l : List α) (acc : List P), (∀ x ∈ l, fe (η.set i (some (.fz (h x)))) st = .ok (.fz (g x), st)) → acc.length + l.length < 16777216 → lcD i dYes fe η (l.map h) acc st = .ok (acc ++ l.map g, st)
  | [], acc, _, _ => by rw [List.map_nil, List.map_nil, List.append_nil]; rfl
  | x :: l, acc, hx, hl => by
    simp only [List.length_cons] at hl
    rw [List.map_cons, List.map_cons]
    refine lc_cons e_yes (hx x List.mem_cons_self) rfl (by omega) ?_
    rw [lc_map l (acc ++ [g x]) (fun y hy => hx y (List.mem_cons_of_mem _ hy)) (by rw [List.length_append]; simp only [List.length_cons, List.length_nil]; omega), List.append_assoc]
    rfl
theorem cut_both (xs : List P) {a b : Nat} (h : a ≤ b) : cutP xs (some (a : Int)) (some (b : Int)) = (xs.drop a).take (b - a) := by
  unfold cutP
  rw [HT.sIx_nat, HT.sIx_nat]
  by_cases ha : a ≤ xs.length
  · rw [Nat.min_eq_left ha]
    apply List.ext_getElem?
    intro i
    rw [List.getElem?_take, List.getElem?_take]
    by_cases h1 : i < b - a
    · rw [if_pos h1]
      by_cases h2 : i < min b xs.length - a
      · rw [if_pos h2]
      · rw [if_neg h2, List.getElem?_drop, List.getElem?_eq_none (by omega)]
    · rw [if_neg h1, if_neg (by omega)]
  · rw [List.drop_eq_nil_of_le (i := min a xs.length) (by omega), List.drop_eq_nil_of_le (i := a) (by omega), List.take_nil, List.take_nil]
section
variable {η η' : Et} {st s1 : Sr} {fa : DA} {x : DS} {r : R (Fl × Et × Sr)} {ps : List (List Int)}
theorem mid_ps {a b : Nat} (h : a ≤ b) : slF (.fz (pws ps)) (some (a : Int)) (some (b : Int)) st = .ok (.fz (pws ((ps.drop a).take (b - a))), st) := by
  show R.ok (D.fz (.lst (cutP (ps.map pw) (some (a : Int)) (some (b : Int)))), st) = _
  rw [cut_both _ h]
  show _ = R.ok (D.fz (.lst (((ps.drop a).take (b - a)).map pw)), st)
  rw [List.map_take, List.map_drop]
theorem rev_ps : revF (.fz (pws ps)) st = .ok (.fz (pws ps.reverse), st) := by
  show R.ok (D.fz (.lst (ps.map pw).reverse), st) = _
  rw [← List.map_reverse]
theorem for_r2 {gg : DG} {i j : Nat} (h1 : fa η st = .ok ([.fz (.int (i : Int)), .fz (.int (j : Int))], s1)) (hi : i ≤ 1000000) (hj : j ≤ 1000000) (h4 : loopD gg x ((List.range' i (j - i)).map fun k : Nat => P.int (k : Int)) η s1 = r) : dForR2 fa gg x η st = r := by
  unfold dForR2
  rw [h1, bind_ok]
  have e : (if (-(2 ^ 62) ≤ (i : Int) ∧ (i : Int) < 2 ^ 62) ∧ (-(2 ^ 62) ≤ (j : Int) ∧ (j : Int) < 2 ^ 62) then loopD gg x (rangeP (i : Int) ((j : Int) - (i : Int)).toNat) η s1 else .stuck) = loopD gg x (rangeP (i : Int) ((j : Int) - (i : Int)).toNat) η s1 := if_pos ⟨⟨ge62 i, lt62 hi⟩, ⟨ge62 j, lt62 hj⟩⟩
  refine e.trans ?_
  have e2 : rangeP (i : Int) ((j : Int) - (i : Int)).toNat = (List.range' i (j - i)).map fun k : Nat => P.int (k : Int) := by
    unfold rangeP
    rw [show ((j : Int) - (i : Int)).toNat = j - i by omega, List.range'_eq_map_range, List.map_map]
    refine List.map_congr_left fun k _ => ?_
    show P.int ((i : Int) + (k : Int)) = P.int (((i + k : Nat)) : Int)
    rw [Int.natCast_add]
  rw [e2]; exact h4
theorem rangeN' (n : Nat) : rangeP 0 n = (List.range n).map fun i : Nat => P.int (i : Int) := by
  unfold rangeP; congr 1; funext i; rw [Int.zero_add]
theorem for_r1n {gg : DG} {n : Nat} (h1 : fa η st = .ok ([.fz (.int (n : Int))], s1)) (hn : n ≤ 1000000) (h4 : loopD gg x ((List.range n).map fun k : Nat => P.int (k : Int)) η s1 = r) : dForR1 fa gg x η st = r := by
  refine for_r1 (z := (n : Int)) h1 (by omega) (by omega) ?_
  rw [Int.toNat_natCast, rangeN']; exact h4
end
end M

end
section
set_option Elab.async false
set_option linter.all false
namespace Kd
/-! # Plain mathematics of the kinds -/
def hgo : List Int → List Int → List Int
  | acc, [] => acc
  | acc, x :: r => if x ∈ acc then hgo acc r else hgo (acc ++ [x]) r
def heads (l : List Int) : List Int := hgo [] l
theorem hgo_app : ∀ (l r acc : List Int), hgo acc (l ++ r) = hgo (hgo acc l) r
  | [], r, acc => rfl
  | x :: l, r, acc => by
    rw [List.cons_append]
    by_cases h : x ∈ acc
    · rw [show hgo acc (x :: (l ++ r)) = hgo acc (l ++ r) by rw [hgo, if_pos h], show hgo acc (x :: l) = hgo acc l by rw [hgo, if_pos h]]
      exact hgo_app l r acc
    · rw [show hgo acc (x :: (l ++ r)) = hgo (acc ++ [x]) (l ++ r) by rw [hgo, if_neg h], show hgo acc (x :: l) = hgo (acc ++ [x]) l by rw [hgo, if_neg h]]
      exact hgo_app l r _
theorem hgo_sub : ∀ (l acc : List Int) {x : Int}, x ∈ acc → x ∈ hgo acc l
  | [], acc, x, h => h
  | y :: l, acc, x, h => by
    unfold hgo
    split
    · exact hgo_sub l acc h
    · exact hgo_sub l _ (List.mem_append_left _ h)
theorem hgo_mem : ∀ (l acc : List Int) {x : Int}, x ∈ l → x ∈ hgo acc l
  | y :: l, acc, x, h => by
    unfold hgo
    rcases List.mem_cons.mp h with e | h
    · subst e
      split
      · rename_i hm; exact hgo_sub l acc hm
      · exact hgo_sub l _ (by simp)
    · split
      · exact hgo_mem l acc h
      · exact hgo_mem l _ h
theorem hgo_hgo : ∀ (r acc b : List Int), hgo acc (hgo b r) = hgo (hgo acc b) r
  | [], acc, b => rfl
  | x :: r, acc, b => by
    by_cases h : x ∈ b
    · have h2 : x ∈ hgo acc b := hgo_mem b acc h
      rw [show hgo b (x :: r) = hgo b r by rw [hgo, if_pos h], show hgo (hgo acc b) (x :: r) = hgo (hgo acc b) r by rw [hgo, if_pos h2]]
      exact hgo_hgo r acc b
    · rw [show hgo b (x :: r) = hgo (b ++ [x]) r by rw [hgo, if_neg h], hgo_hgo r acc (b ++ [x]), hgo_app]
      show hgo (hgo (hgo acc b) [x]) r = hgo (hgo acc b) ([x] ++ r)
      rw [hgo_app]
theorem heads_join (l r : List Int) : heads (heads l ++ heads r) = heads (l ++ r) := by
  unfold heads
  rw [hgo_app, hgo_hgo, hgo_app, hgo_hgo]
  rfl
theorem heads_idem (l : List Int) : heads (heads l) = heads l := by
  unfold heads
  rw [hgo_hgo]
  rfl
end Kd

end
section
set_option Elab.async false
set_option linter.all false
namespace Kd
def sortI (l : List Int) : List Int := l.mergeSort fun a b => decide (a ≤ b)
theorem sortI_perm (l : List Int) : (sortI l).Perm l := List.mergeSort_perm _ _
theorem sortI_sorted (l : List Int) : (sortI l).Pairwise (· ≤ ·) := by
  have h := List.pairwise_mergeSort (le := fun a b : Int => decide (a ≤ b)) (fun a b c h1 h2 => by simp at *; omega) (fun a b => by simp; omega) l
  exact h.imp fun {a b} q => of_decide_eq_true q
theorem sorted_eq {l m : List Int} (hl : l.Pairwise (· ≤ ·)) (hm : m.Pairwise (· ≤ ·)) (p : l.Perm m) : l = m := p.eq_of_pairwise (fun a b _ _ h1 h2 => Int.le_antisymm h1 h2) hl hm
theorem sortI_eq {l m : List Int} (p : l.Perm m) : sortI l = sortI m := sorted_eq (sortI_sorted l) (sortI_sorted m) (((sortI_perm l).trans p).trans (sortI_perm m).symm)
theorem sortI_join (l r : List Int) : sortI (sortI l ++ sortI r) = sortI (l ++ r) := sortI_eq ((sortI_perm l).append (sortI_perm r))
theorem sortI_idem (l : List Int) : sortI (sortI l) = sortI l := sortI_eq (sortI_perm l)
end Kd

end
section
set_option Elab.async false
set_option linter.all false
namespace Kd
theorem hgo_nodup : ∀ (l acc : List Int), acc.Nodup → (hgo acc l).Nodup
  | [], acc, h => h
  | x :: l, acc, h => by
    by_cases hx : x ∈ acc
    · rw [hgo, if_pos hx]; exact hgo_nodup l acc h
    · rw [hgo, if_neg hx]; exact hgo_nodup l _ (List.nodup_append.mpr ⟨h, by simp, fun a ha b hb => by simp at hb; subst hb; rintro rfl; exact hx ha⟩)
theorem hgo_of : ∀ (l acc : List Int) {x : Int}, x ∈ hgo acc l → x ∈ acc ∨ x ∈ l
  | [], acc, x, h => .inl h
  | y :: l, acc, x, h => by
    by_cases hy : y ∈ acc
    · rw [hgo, if_pos hy] at h
      rcases hgo_of l acc h with h | h
      · exact .inl h
      · exact .inr (List.mem_cons_of_mem _ h)
    · rw [hgo, if_neg hy] at h
      rcases hgo_of l _ h with h | h
      · rcases List.mem_append.mp h with h | h
        · exact .inl h
        · simp at h; subst h; exact .inr List.mem_cons_self
      · exact .inr (List.mem_cons_of_mem _ h)
theorem mem_heads {l : List Int} {x : Int} : x ∈ heads l ↔ x ∈ l := ⟨fun h => by rcases hgo_of l [] h with h | h; cases h; exact h, fun h => hgo_mem l [] h⟩
theorem heads_nodup (l : List Int) : (heads l).Nodup := hgo_nodup l [] List.nodup_nil
theorem heads_perm {l m : List Int} (h : ∀ x, x ∈ l ↔ x ∈ m) : (heads l).Perm (heads m) := (List.perm_ext_iff_of_nodup (heads_nodup l) (heads_nodup m)).mpr fun x => by rw [mem_heads, mem_heads]; exact h x
def setI (l : List Int) : List Int := sortI (heads l)
theorem mem_sortI {l : List Int} {x : Int} : x ∈ sortI l ↔ x ∈ l := (sortI_perm l).mem_iff
theorem setI_eq {l m : List Int} (h : ∀ x, x ∈ l ↔ x ∈ m) : setI l = setI m := sortI_eq (heads_perm h)
theorem mem_setI {l : List Int} {x : Int} : x ∈ setI l ↔ x ∈ l := mem_sortI.trans mem_heads
theorem setI_join (l r : List Int) : setI (setI l ++ setI r) = setI (l ++ r) := setI_eq fun x => by simp [mem_setI]
theorem setI_idem (l : List Int) : setI (setI l) = setI l := setI_eq fun x => mem_setI
def tails (l : List Int) : List Int := (heads l.reverse).reverse
theorem tails_join (l r : List Int) : tails (tails l ++ tails r) = tails (l ++ r) := by
  unfold tails
  rw [List.reverse_append, List.reverse_reverse, List.reverse_reverse, heads_join, List.reverse_append]
theorem tails_idem (l : List Int) : tails (tails l) = tails l := by
  unfold tails
  rw [List.reverse_reverse, heads_idem]
end Kd

end
section
set_option Elab.async false
set_option linter.all false
namespace Kd
def firstI (l : List Int) : List Int := l.take 1
def lastI (l : List Int) : List Int := (l.reverse.take 1)
def endsI (l : List Int) : List Int := firstI l ++ lastI l
theorem firstI_join (l r : List Int) : firstI (firstI l ++ firstI r) = firstI (l ++ r) := by
  cases l with
  | nil => cases r <;> rfl
  | cons a l => rfl
theorem firstI_idem (l : List Int) : firstI (firstI l) = firstI l := by cases l <;> rfl
theorem lastI_rev (l : List Int) : lastI l = firstI l.reverse := rfl
theorem firstI_rev1 (l : List Int) : (firstI l).reverse = firstI l := by cases l <;> rfl
theorem lastI_join (l r : List Int) : lastI (lastI l ++ lastI r) = lastI (l ++ r) := by
  rw [lastI_rev, List.reverse_append, lastI_rev, lastI_rev, firstI_rev1, firstI_rev1, firstI_join, lastI_rev, List.reverse_append]
theorem lastI_idem (l : List Int) : lastI (lastI l) = lastI l := by rw [lastI_rev, lastI_rev, firstI_rev1, firstI_idem]
theorem endsI_nil : endsI [] = [] := rfl
theorem firstI_ends (l : List Int) : firstI (endsI l) = firstI l := by cases l <;> rfl
theorem lastI_ends (l : List Int) : lastI (endsI l) = lastI l := by
  rcases List.eq_nil_or_concat l with rfl | ⟨m, x, rfl⟩
  · rfl
  · unfold endsI
    rw [lastI_rev, lastI_rev]
    simp [firstI]
theorem firstI_app (l r : List Int) : firstI (l ++ r) = firstI (firstI l ++ firstI r) := (firstI_join l r).symm
theorem lastI_app (l r : List Int) : lastI (l ++ r) = lastI (lastI l ++ lastI r) := (lastI_join l r).symm
theorem endsI_join (l r : List Int) : endsI (endsI l ++ endsI r) = endsI (l ++ r) := by
  show firstI (endsI l ++ endsI r) ++ lastI (endsI l ++ endsI r) = firstI (l ++ r) ++ lastI (l ++ r)
  rw [firstI_app (endsI l), lastI_app (endsI l), firstI_ends, firstI_ends, lastI_ends, lastI_ends, ← firstI_app, ← lastI_app]
theorem endsI_idem (l : List Int) : endsI (endsI l) = endsI l := by
  show firstI (endsI l) ++ lastI (endsI l) = _
  rw [firstI_ends, lastI_ends]
  rfl
end Kd

end
section
set_option Elab.async false
set_option linter.all false
namespace Kd
/-! # New values -/
def nw (known l : List Int) : List Int := (heads l).filter fun x => decide (x ∉ known)
def ngo (known : List Int) : List Int → List Int → List Int
  | acc, [] => acc
  | acc, x :: r => if x ∉ known ∧ x ∉ acc then ngo known (acc ++ [x]) r else ngo known acc r
theorem hgo_nd : ∀ (h acc : List Int), h.Nodup → hgo acc h = acc ++ h.filter fun x => decide (x ∉ acc)
  | [], acc, _ => by simp [hgo]
  | x :: h, acc, hn => by
    obtain ⟨h1, h2⟩ := List.nodup_cons.mp hn
    by_cases hx : x ∈ acc
    · rw [hgo, if_pos hx, hgo_nd h acc h2, List.filter_cons, if_neg (by simp [hx])]
    · rw [hgo, if_neg hx, hgo_nd h _ h2, List.filter_cons, if_pos (by simp [hx]), List.append_assoc]
      congr 1
      show x :: _ = x :: _
      congr 1
      refine List.filter_congr fun y hy => ?_
      have : y ≠ x := fun e => h1 (e ▸ hy)
      simp [this]
theorem hgo_nw (l acc : List Int) : hgo acc l = acc ++ nw acc l := by
  have h := hgo_hgo l acc []
  rw [show hgo acc [] = acc from rfl] at h
  rw [← h, show hgo [] l = heads l from rfl, hgo_nd _ _ (heads_nodup l)]
  rfl
theorem hgo_ngo (known : List Int) : ∀ (l acc : List Int), hgo (known ++ acc) l = known ++ ngo known acc l
  | [], acc => rfl
  | x :: l, acc => by
    by_cases hx : x ∈ known ++ acc
    · rw [hgo, if_pos hx, ngo, if_neg (by simp at hx; rcases hx with h | h <;> simp [h])]
      exact hgo_ngo known l acc
    · rw [hgo, if_neg hx, ngo, if_pos (by simp at hx; exact hx), List.append_assoc]
      exact hgo_ngo known l _
theorem ngo_nw (known l : List Int) : ngo known [] l = nw known l := by
  have h := hgo_ngo known l []
  rw [List.append_nil, hgo_nw] at h
  exact (List.append_cancel_left h).symm
theorem nw_congr {a b : List Int} (l : List Int) (h : ∀ x, x ∈ a ↔ x ∈ b) : nw a l = nw b l := by
  unfold nw
  refine List.filter_congr fun y _ => ?_
  by_cases hy : y ∈ a
  · simp [hy, (h y).mp hy]
  · have hb : y ∉ b := fun q => hy ((h y).mpr q)
    simp [hy, hb]
theorem mem_nw {known l : List Int} {x : Int} : x ∈ nw known l ↔ x ∈ l ∧ x ∉ known := by
  unfold nw; rw [List.mem_filter, mem_heads]; simp
theorem nw_nodup (known l : List Int) : (nw known l).Nodup := (heads_nodup l).sublist List.filter_sublist
theorem nw_len (known l : List Int) : (nw known l).length ≤ (heads l).length := List.length_filter_le _ _
theorem heads_app (a b : List Int) : heads (a ++ b) = heads a ++ nw a b := by
  unfold heads
  rw [hgo_app, hgo_nw]
  show heads a ++ nw (heads a) b = _
  rw [nw_congr b fun x => mem_heads]
  rfl
theorem nw_app (k a b : List Int) : nw (k ++ a) b = (nw k b).filter fun x => decide (x ∉ a) := by
  unfold nw
  rw [List.filter_filter]
  refine List.filter_congr fun y _ => ?_
  by_cases h1 : y ∈ k <;> by_cases h2 : y ∈ a <;> simp [h1, h2]
/-- a copy of what stood before: seen from behind -/
theorem pre_iff (Y p X : List Int) : nw Y X = nw Y p ++ nw (Y ++ p) X ↔ (nw Y X).take (nw Y p).length = nw Y p := by
  constructor
  · intro h
    rw [h, List.take_left]
  · intro h
    have e : nw Y X = nw Y p ++ (nw Y X).drop (nw Y p).length := by
      conv => lhs; rw [← List.take_append_drop (nw Y p).length (nw Y X), h]
    generalize hr : (nw Y X).drop (nw Y p).length = r at e
    have nd := nw_nodup Y X
    rw [e] at nd
    obtain ⟨_, _, dj⟩ := List.nodup_append.mp nd
    have f1 : (nw Y p).filter (fun x => decide (x ∉ p)) = [] := List.filter_eq_nil_iff.mpr fun x hx => by
      have := (mem_nw.mp hx).1
      simp [this]
    have f2 : r.filter (fun x => decide (x ∉ p)) = r := List.filter_eq_self.mpr fun x hx => by
      have hX : x ∈ nw Y X := by rw [e]; exact List.mem_append_right _ hx
      have hY := (mem_nw.mp hX).2
      simp only [decide_eq_true_eq]
      intro hp
      exact dj x (mem_nw.mpr ⟨hp, hY⟩) x hx rfl
    rw [nw_app]
    conv => lhs; rw [e]
    rw [e, List.filter_append, f1, f2, List.nil_append]
theorem tails_iff (X p Y : List Int) : tails (X ++ Y) = tails (X ++ p ++ Y) ↔ (nw Y.reverse X.reverse).take (nw Y.reverse p.reverse).length = nw Y.reverse p.reverse := by
  rw [← pre_iff]
  unfold tails
  rw [List.reverse_append, List.reverse_append, List.reverse_append, List.reverse_inj, heads_app, ← List.append_assoc, heads_app (Y.reverse ++ p.reverse), heads_app Y.reverse p.reverse, List.append_assoc]
  exact ⟨fun h => List.append_cancel_left h, fun h => by rw [h]⟩
/-! ## the kinds: a parcel again -/
theorem first_again {X : List Int} (h : X ≠ []) (p Y : List Int) : firstI (X ++ Y) = firstI (X ++ p ++ Y) := by
  cases X with
  | nil => exact absurd rfl h
  | cons a l => rfl
theorem heads_again {X p : List Int} (h : ∀ x ∈ p, x ∈ X) (Y : List Int) : heads (X ++ Y) = heads (X ++ p ++ Y) := by
  have e : nw X p = [] := List.filter_eq_nil_iff.mpr fun x hx => by simp [h x (mem_heads.mp hx)]
  rw [heads_app, heads_app (X ++ p), heads_app X p, e, List.append_nil]
  congr 1
  exact nw_congr Y fun x => by
    constructor
    · exact fun q => List.mem_append_left _ q
    · intro q
      rcases List.mem_append.mp q with q | q
      · exact q
      · exact h x q
theorem set_again {X p : List Int} (h : ∀ x ∈ p, x ∈ X) (Y : List Int) : setI (X ++ Y) = setI (X ++ p ++ Y) := setI_eq fun x => by
  simp only [List.mem_append]
  constructor
  · rintro (q | q)
    · exact .inl (.inl q)
    · exact .inr q
  · rintro ((q | q) | q)
    · exact .inl q
    · exact .inl (h x q)
    · exact .inr q
theorem list_again {X p Y : List Int} (h : p ≠ []) : ¬ (X ++ Y = X ++ p ++ Y) := fun e => by
  have := congrArg List.length e
  simp at this
  exact h this
theorem bag_again {X p Y : List Int} (h : p ≠ []) : ¬ (sortI (X ++ Y) = sortI (X ++ p ++ Y)) := fun e => by
  have := congrArg List.length e
  rw [(sortI_perm _).length_eq, (sortI_perm _).length_eq] at this
  simp at this
  exact h this
theorem lastI_app_ne {X Y : List Int} (h : Y ≠ []) : lastI (X ++ Y) = lastI Y := by
  rcases List.eq_nil_or_concat Y with rfl | ⟨m, x, rfl⟩
  · exact absurd rfl h
  · simp [lastI]
theorem last_again {X p Y : List Int} (hX : X ≠ []) (hp : p ≠ []) : lastI (X ++ Y) = lastI (X ++ p ++ Y) ↔ Y ≠ [] ∨ lastI X = lastI p := by
  by_cases hY : Y = []
  · subst hY
    rw [List.append_nil, List.append_nil, lastI_app_ne hp]
    simp
  · rw [lastI_app_ne hY, lastI_app_ne hY]
    simp [hY]
theorem ends_again {X p Y : List Int} (hX : X ≠ []) (hp : p ≠ []) : endsI (X ++ Y) = endsI (X ++ p ++ Y) ↔ Y ≠ [] ∨ lastI X = lastI p := by
  rw [← last_again hX hp]
  unfold endsI
  rw [← first_again hX p Y]
  exact ⟨fun h => List.append_cancel_left h, fun h => by rw [h]⟩
end Kd

end
section
set_option Elab.async false
set_option linter.all false
namespace Kd
/-! # Losses -/
def frontB (Y Z p : List Int) : Bool := decide (Y ≠ []) || (decide (Z ≠ []) && decide (Z.head? = p.head?))
def endB (Y Z p : List Int) : Bool := decide (Z ≠ []) || (decide (Y ≠ []) && decide (Y.getLast? = p.getLast?))
theorem first_loss {Y p Z : List Int} (hp : p ≠ []) : firstI (Y ++ p ++ Z) = firstI (Y ++ Z) ↔ frontB Y Z p = true := by
  cases Y with
  | cons y Y => simp [firstI, frontB]
  | nil =>
    cases p with
    | nil => exact absurd rfl hp
    | cons x p =>
      cases Z with
      | nil => simp [firstI, frontB]
      | cons z Z =>
        simp [firstI, frontB]
        exact ⟨fun h => h.symm, fun h => h.symm⟩
theorem endB_rev (Y Z p : List Int) : endB Y Z p = frontB Z.reverse Y.reverse p.reverse := by
  unfold endB frontB
  rw [List.head?_reverse, List.head?_reverse]
  simp
theorem last_loss {Y p Z : List Int} (hp : p ≠ []) : lastI (Y ++ p ++ Z) = lastI (Y ++ Z) ↔ endB Y Z p = true := by
  rw [endB_rev, ← first_loss (by simpa using hp), lastI_rev, lastI_rev]
  simp
theorem ends_two {A B : List Int} (h : A ≠ []) : endsI A = endsI B ↔ firstI A = firstI B ∧ lastI A = lastI B := by
  constructor
  · intro e
    rw [← firstI_ends A, ← firstI_ends B, ← lastI_ends A, ← lastI_ends B, e]
    exact ⟨rfl, rfl⟩
  · rintro ⟨h1, h2⟩
    unfold endsI; rw [h1, h2]
theorem ends_loss {Y p Z : List Int} (hp : p ≠ []) : endsI (Y ++ p ++ Z) = endsI (Y ++ Z) ↔ (frontB Y Z p && endB Y Z p) = true := by
  rw [ends_two (by simp [hp]), first_loss hp, last_loss hp, Bool.and_eq_true]
theorem set_mem {l m : List Int} : setI l = setI m ↔ ∀ x, x ∈ l ↔ x ∈ m := by
  constructor
  · intro h x
    rw [← mem_setI (l := l), h, mem_setI]
  · exact setI_eq
theorem set_loss {Y p Z : List Int} : setI (Y ++ p ++ Z) = setI (Y ++ Z) ↔ ∀ x ∈ p, x ∈ Y ∨ x ∈ Z := by
  rw [set_mem]
  constructor
  · intro h x hx
    have := (h x).mp (by simp [hx])
    simpa using this
  · intro h x
    simp only [List.mem_append]
    constructor
    · rintro ((h1 | h1) | h1)
      · exact .inl h1
      · exact h x h1
      · exact .inr h1
    · rintro (h1 | h1)
      · exact .inl (.inl h1)
      · exact .inr h1
theorem heads_loss {Y p Z : List Int} : heads (Y ++ p ++ Z) = heads (Y ++ Z) ↔ (nw Y Z).take (nw Y p).length = nw Y p := by
  rw [← pre_iff, heads_app (Y ++ p) Z, heads_app Y p, heads_app Y Z, List.append_assoc]
  constructor
  · intro h; exact (List.append_cancel_left h).symm
  · intro h; rw [h]
end Kd

end
section
set_option Elab.async false
set_option linter.all false
namespace Kd
/-! # Shuffles of two words -/
theorem nw_app_r (a X Y : List Int) : nw a (X ++ Y) = nw a X ++ nw (a ++ X) Y := by
  have h1 := heads_app a (X ++ Y)
  have h2 := heads_app (a ++ X) Y
  rw [heads_app a X, List.append_assoc a X Y, h1, List.append_assoc] at h2
  exact List.append_cancel_left h2
def chain (A B : List Int) : Prop := A <+: B ∨ B <+: A
def chainB (A B : List Int) : Bool := decide (A.take (min A.length B.length) = B.take (min A.length B.length))
theorem chainB_iff {A B : List Int} : chainB A B = true ↔ chain A B := by
  unfold chainB
  rw [decide_eq_true_iff]
  constructor
  · intro h
    rcases Nat.le_total A.length B.length with hl | hl
    · rw [Nat.min_eq_left hl, List.take_length] at h
      exact .inl (h ▸ List.take_prefix _ _)
    · rw [Nat.min_eq_right hl, List.take_length] at h
      exact .inr (h ▸ List.take_prefix _ _)
  · rintro (⟨c, rfl⟩ | ⟨c, rfl⟩)
    · rw [Nat.min_eq_left (by simp)]; simp
    · rw [Nat.min_eq_right (by simp)]; simp
theorem chain.symm {A B : List Int} (h : chain A B) : chain B A := Or.symm h
theorem filter_out {A C : List Int} (h : (A ++ C).Nodup) : (A ++ C).filter (fun x => decide (x ∉ A)) = C := by
  rw [List.filter_append]
  have h1 : A.filter (fun x => decide (x ∉ A)) = [] := List.filter_eq_nil_iff.mpr fun x hx => by simp [hx]
  have h2 : C.filter (fun x => decide (x ∉ A)) = C := List.filter_eq_self.mpr fun x hx => by
    have := (List.nodup_append.mp h).2.2
    simp only [decide_eq_true_eq]
    exact fun ha => this x ha x hx rfl
  rw [h1, h2, List.nil_append]
theorem filter_sub {A B : List Int} (h : ∀ x ∈ A, x ∈ B) : A.filter (fun x => decide (x ∉ B)) = [] := List.filter_eq_nil_iff.mpr fun x hx => by simp [h x hx]
theorem app_iff {A B : List Int} (hA : A.Nodup) (hB : B.Nodup) : A ++ B.filter (fun x => decide (x ∉ A)) = B ++ A.filter (fun x => decide (x ∉ B)) ↔ chain A B := by
  constructor
  · intro h
    rcases List.append_eq_append_iff.mp h with ⟨c, h1, _⟩ | ⟨c, h1, _⟩
    · exact .inl ⟨c, h1.symm⟩
    · exact .inr ⟨c, h1.symm⟩
  · rintro (⟨c, rfl⟩ | ⟨c, rfl⟩)
    · rw [filter_out hB, filter_sub (fun x hx => List.mem_append_left _ hx), List.append_nil]
    · rw [filter_out hA, filter_sub (fun x hx => List.mem_append_left _ hx), List.append_nil]
/-- the new ones behind further known ones -/
theorem nw_more (a p V : List Int) : nw (a ++ p) V = (nw a V).filter (fun x => decide (x ∉ nw a p)) := by
  rw [nw_app]
  refine List.filter_congr fun x hx => ?_
  have hxa := (mem_nw.mp hx).2
  have : x ∈ p ↔ x ∈ nw a p := ⟨fun h => mem_nw.mpr ⟨h, hxa⟩, fun h => (mem_nw.mp h).1⟩
  by_cases h : x ∈ p
  · simp [h, this.mp h]
  · have h2 : x ∉ nw a p := fun q => h (this.mpr q)
    simp [h, h2]
theorem heads_sh (a b U V : List Int) : heads (a ++ U ++ V ++ b) = heads (a ++ V ++ U ++ b) ↔ chain (nw a U) (nw a V) := by
  rw [heads_app (a ++ U ++ V) b, heads_app (a ++ V ++ U) b]
  have e : nw (a ++ U ++ V) b = nw (a ++ V ++ U) b := nw_congr b fun x => by simp only [List.mem_append]; constructor <;> (rintro ((h | h) | h) <;> simp [h])
  rw [e, ← app_iff (nw_nodup a U) (nw_nodup a V), heads_app (a ++ U) V, heads_app (a ++ V) U, heads_app a U, heads_app a V, nw_more a U V, nw_more a V U]
  constructor
  · intro h
    have := List.append_cancel_right h
    rw [List.append_assoc, List.append_assoc] at this
    exact List.append_cancel_left this
  · intro h
    have h' := congrArg (heads a ++ ·) h
    simp only [← List.append_assoc] at h'
    rw [h']
theorem tails_sh (a b U V : List Int) : tails (a ++ U ++ V ++ b) = tails (a ++ V ++ U ++ b) ↔ chain (nw b U.reverse) (nw b V.reverse) := by
  have h := heads_sh b.reverse a.reverse V.reverse U.reverse
  rw [nw_congr (a := b.reverse) (b := b) V.reverse (fun x => List.mem_reverse), nw_congr (a := b.reverse) (b := b) U.reverse (fun x => List.mem_reverse)] at h
  unfold tails
  rw [List.reverse_inj]
  simp only [List.reverse_append]
  rw [← List.append_assoc, ← List.append_assoc, ← List.append_assoc, ← List.append_assoc, h]
  exact ⟨.symm, .symm⟩
theorem chain_step {a p U V : List Int} (h : chain (nw a (p ++ U)) (nw a V)) : chain (nw (a ++ p) U) (nw (a ++ p) V) := by
  rw [nw_app_r] at h
  rw [nw_more a p V]
  have nB := nw_nodup a V
  generalize nw a V = B at *
  generalize nw a p = P at *
  generalize nw (a ++ p) U = A at *
  rcases h with ⟨c, h⟩ | ⟨c, h⟩
  · rw [List.append_assoc] at h
    rw [← h] at nB ⊢
    rw [filter_out nB]
    exact .inl ⟨c, rfl⟩
  · rcases List.append_eq_append_iff.mp h with ⟨c', h1, h2⟩ | ⟨c', h1, h2⟩
    · rw [filter_sub (fun x hx => by rw [h1]; exact List.mem_append_left _ hx)]
      exact .inr (List.nil_prefix)
    · rw [h1] at nB ⊢
      rw [filter_out nB]
      exact .inr ⟨c, h2.symm⟩
theorem chain_pre {A A' B : List Int} (h : A' <+: A) (hc : chain A B) : chain A' B := by
  rcases hc with hc | hc
  · exact .inl (h.trans hc)
  · exact List.prefix_or_prefix_of_prefix h hc
theorem chain_step_t {b p U V : List Int} (h : chain (nw b (p ++ U).reverse) (nw b V.reverse)) : chain (nw b U.reverse) (nw b V.reverse) := by
  rw [List.reverse_append, nw_app_r] at h
  exact chain_pre (List.prefix_append _ _) h
/-! first, last, ends -/
def frF (a U V : List Int) : Bool := decide (a ≠ []) || decide (U.head? = V.head?)
def enF (b U V : List Int) : Bool := decide (b ≠ []) || decide (U.getLast? = V.getLast?)
theorem first_sh {a b U V : List Int} (hU : U ≠ []) (hV : V ≠ []) : firstI (a ++ U ++ V ++ b) = firstI (a ++ V ++ U ++ b) ↔ frF a U V = true := by
  cases a with
  | cons y a => simp [firstI, frF]
  | nil =>
    cases U with
    | nil => exact absurd rfl hU
    | cons x U =>
      cases V with
      | nil => exact absurd rfl hV
      | cons z V => simp [firstI, frF]
theorem enF_rev (b U V : List Int) : enF b U V = frF b.reverse V.reverse U.reverse := by
  unfold enF frF
  rw [List.head?_reverse, List.head?_reverse]
  have : decide (b ≠ []) = decide (b.reverse ≠ []) := by simp
  rw [this, decide_eq_decide.mpr (eq_comm (a := U.getLast?))]
theorem last_sh {a b U V : List Int} (hU : U ≠ []) (hV : V ≠ []) : lastI (a ++ U ++ V ++ b) = lastI (a ++ V ++ U ++ b) ↔ enF b U V = true := by
  rw [enF_rev, ← first_sh (b := a.reverse) (by simpa using hV) (by simpa using hU), lastI_rev, lastI_rev]
  simp
theorem ends_sh {a b U V : List Int} (hU : U ≠ []) (hV : V ≠ []) : endsI (a ++ U ++ V ++ b) = endsI (a ++ V ++ U ++ b) ↔ (frF a U V && enF b U V) = true := by
  rw [ends_two (by simp [hU]), first_sh hU hV, last_sh hU hV, Bool.and_eq_true]
theorem bag_sh (a b U V : List Int) : sortI (a ++ U ++ V ++ b) = sortI (a ++ V ++ U ++ b) := by
  refine sortI_eq ?_
  refine List.Perm.append_right b ?_
  rw [List.append_assoc, List.append_assoc]
  exact List.Perm.append_left a List.perm_append_comm
theorem set_sh (a b U V : List Int) : setI (a ++ U ++ V ++ b) = setI (a ++ V ++ U ++ b) := setI_eq fun x => by
  simp only [List.mem_append]
  constructor <;> (rintro (((h | h) | h) | h) <;> simp [h])
theorem enF_step {b p U V : List Int} (hU : U ≠ []) (h : enF b (p ++ U) V = true) : enF b U V = true := by
  have e : (p ++ U).getLast? = U.getLast? := by
    rcases List.eq_nil_or_concat U with rfl | ⟨r, x, rfl⟩
    · exact absurd rfl hU
    · rw [List.concat_eq_append, ← List.append_assoc]; simp
  unfold enF at *
  rwa [e] at h
theorem frF_step {a p U V : List Int} (hp : p ≠ []) : frF (a ++ p) U V = true := by
  unfold frF
  have : a ++ p ≠ [] := by simp [hp]
  simp [this]
theorem frF_symm (a U V : List Int) : frF a U V = frF a V U := by unfold frF; rw [decide_eq_decide.mpr (eq_comm (a := U.head?))]
theorem enF_symm (a U V : List Int) : enF a U V = enF a V U := by unfold enF; rw [decide_eq_decide.mpr (eq_comm (a := U.getLast?))]
/-! ### parcels that commute -/
def rowC (p : List Int) : Nat → List (List Int) → Option Nat
  | _, [] => none
  | j, q :: v => if p ++ q = q ++ p then rowC p (j + 1) v else some j
def allC (v : List (List Int)) : Nat → List (List Int) → Option (Nat × Nat)
  | _, [] => none
  | i, p :: u => match rowC p 0 v with
    | some j => some (i, j)
    | none => allC v (i + 1) u
def clash (u v : List (List Int)) : Option (Nat × Nat) := allC v 0 u
theorem rowC_none {p : List Int} : ∀ {v : List (List Int)} {j : Nat}, rowC p j v = none ↔ ∀ q ∈ v, p ++ q = q ++ p
  | [], j => by simp [rowC]
  | q :: v, j => by
    rw [rowC]
    by_cases h : p ++ q = q ++ p
    · rw [if_pos h, rowC_none]
      simp [h]
    · rw [if_neg h]
      simp [h]
theorem rowC_some {p : List Int} : ∀ {v : List (List Int)} {j k : Nat}, rowC p j v = some k → ∃ i q, k = j + i ∧ v[i]? = some q ∧ p ++ q ≠ q ++ p
  | [], j, k, h => by cases h
  | q :: v, j, k, h => by
    rw [rowC] at h
    by_cases hc : p ++ q = q ++ p
    · rw [if_pos hc] at h
      obtain ⟨i, q', h1, h2, h3⟩ := rowC_some h
      exact ⟨i + 1, q', by omega, by simpa using h2, h3⟩
    · rw [if_neg hc] at h
      cases h
      exact ⟨0, q, rfl, rfl, hc⟩
theorem allC_none {v : List (List Int)} : ∀ {u : List (List Int)} {i : Nat}, allC v i u = none ↔ ∀ p ∈ u, ∀ q ∈ v, p ++ q = q ++ p
  | [], i => by simp [allC]
  | p :: u, i => by
    rw [allC]
    cases h : rowC p 0 v with
    | none =>
      have := rowC_none.mp h
      simp only [List.mem_cons, forall_eq_or_imp]
      rw [allC_none]
      exact ⟨fun h => ⟨this, h⟩, fun h => h.2⟩
    | some j =>
      simp only [List.mem_cons, forall_eq_or_imp, reduceCtorEq, false_iff, not_and]
      intro hp
      rw [rowC_none.mpr hp] at h
      cases h
theorem allC_some {v : List (List Int)} : ∀ {u : List (List Int)} {i : Nat} {r : Nat × Nat}, allC v i u = some r → ∃ k p q, r.1 = i + k ∧ u[k]? = some p ∧ v[r.2]? = some q ∧ p ++ q ≠ q ++ p
  | [], i, r, h => by cases h
  | p :: u, i, r, h => by
    rw [allC] at h
    cases hr : rowC p 0 v with
    | none =>
      rw [hr] at h
      obtain ⟨k, p', q, h1, h2, h3, h4⟩ := allC_some h
      exact ⟨k + 1, p', q, by omega, by simpa using h2, h3, h4⟩
    | some j =>
      rw [hr] at h
      cases h
      obtain ⟨i', q, h1, h2, h3⟩ := rowC_some hr
      exact ⟨0, p, q, rfl, rfl, by rw [h1, Nat.zero_add]; exact h2, h3⟩
theorem clash_none {u v : List (List Int)} : clash u v = none ↔ ∀ p ∈ u, ∀ q ∈ v, p ++ q = q ++ p := allC_none
theorem clash_some {u v : List (List Int)} {i j : Nat} (h : clash u v = some (i, j)) : ∃ p q, u[i]? = some p ∧ v[j]? = some q ∧ p ++ q ≠ q ++ p := by
  obtain ⟨k, p, q, h1, h2, h3, h4⟩ := allC_some h
  exact ⟨p, q, by rw [show i = k by simpa using h1]; exact h2, h3, h4⟩
theorem comm_flat {p : List Int} : ∀ {v : List (List Int)}, (∀ q ∈ v, p ++ q = q ++ p) → p ++ v.flatten = v.flatten ++ p
  | [], _ => by simp
  | q :: v, h => by
    rw [List.flatten_cons, ← List.append_assoc, h q List.mem_cons_self, List.append_assoc, comm_flat fun r hr => h r (List.mem_cons_of_mem _ hr), List.append_assoc]
theorem comm_all : ∀ {u v : List (List Int)}, (∀ p ∈ u, ∀ q ∈ v, p ++ q = q ++ p) → u.flatten ++ v.flatten = v.flatten ++ u.flatten
  | [], v, _ => by simp
  | p :: u, v, h => by
    rw [List.flatten_cons, List.append_assoc, comm_all fun r hr => h r (List.mem_cons_of_mem _ hr), ← List.append_assoc, comm_flat (h p List.mem_cons_self), List.append_assoc]
end Kd

end
section
set_option Elab.async false
set_option linter.all false
namespace Kd
/-! # All shuffles of two lists -/
inductive Inter : List (List Int) → List (List Int) → List (List Int) → Prop
  | nil : Inter [] [] []
  | left {r u v p} : Inter r u v → Inter (p :: r) (p :: u) v
  | right {r u v q} : Inter r u v → Inter (q :: r) u (q :: v)
theorem Inter.snocL {r u v : List (List Int)} {p : List Int} (h : Inter r u v) : Inter (r ++ [p]) (u ++ [p]) v := by
  induction h with
  | nil => exact .left .nil
  | left _ ih => exact .left ih
  | right _ ih => exact .right ih
theorem Inter.snocR {r u v : List (List Int)} {p : List Int} (h : Inter r u v) : Inter (r ++ [p]) u (v ++ [p]) := by
  induction h with
  | nil => exact .right .nil
  | left _ ih => exact .left ih
  | right _ ih => exact .right ih
theorem Inter.nilL {r v : List (List Int)} : Inter r [] v → r = v := by
  generalize hu : ([] : List (List Int)) = u
  intro h
  induction h with
  | nil => rfl
  | left _ _ => cases hu
  | right _ ih => rw [ih hu]
theorem Inter.nilR {r u : List (List Int)} : Inter r u [] → r = u := by
  generalize hu : ([] : List (List Int)) = v
  intro h
  induction h with
  | nil => rfl
  | right _ _ => cases hu
  | left _ ih => rw [ih hu]
theorem Inter.len {r u v : List (List Int)} (h : Inter r u v) : r.flatten.length = u.flatten.length + v.flatten.length := by
  induction h with
  | nil => rfl
  | left _ ih => simp only [List.flatten_cons, List.length_append] at *; omega
  | right _ ih => simp only [List.flatten_cons, List.length_append] at *; omega
/-- the way there: a row, so many of each list -/
inductive Way (u v : List (List Int)) : List (List Int) → Nat → Nat → Prop
  | nil : Way u v [] 0 0
  | left {r i j p} : Way u v r i j → u[i]? = some p → Way u v (r ++ [p]) (i + 1) j
  | right {r i j q} : Way u v r i j → v[j]? = some q → Way u v (r ++ [q]) i (j + 1)
section
variable {u v : List (List Int)}
theorem take_snoc {l : List (List Int)} {i : Nat} {p : List Int} (h : l[i]? = some p) : l.take (i + 1) = l.take i ++ [p] := by rw [List.take_add_one, h]; rfl
theorem Way.inter {r : List (List Int)} {i j : Nat} (h : Way u v r i j) : Inter r (u.take i) (v.take j) := by
  induction h with
  | nil => exact .nil
  | left _ hp ih => rw [take_snoc hp]; exact ih.snocL
  | right _ hp ih => rw [take_snoc hp]; exact ih.snocR
theorem Way.le {r : List (List Int)} {i j : Nat} (h : Way u v r i j) : i ≤ u.length ∧ j ≤ v.length := by
  induction h with
  | nil => exact ⟨Nat.zero_le _, Nat.zero_le _⟩
  | left _ hp ih => exact ⟨(List.getElem?_eq_some_iff.mp hp).1, ih.2⟩
  | right _ hp ih => exact ⟨ih.1, (List.getElem?_eq_some_iff.mp hp).1⟩
theorem Way.addL {r : List (List Int)} {i j : Nat} (h : Way u v r i j) : ∀ m, i + m ≤ u.length → Way u v (r ++ (u.drop i).take m) (i + m) j
  | 0, _ => by simpa using h
  | m + 1, hm => by
    have ih := h.addL m (by omega)
    have hl : i + m < u.length := by omega
    have hg : u[i + m]? = some u[i + m] := List.getElem?_eq_getElem hl
    have e : (u.drop i).take (m + 1) = (u.drop i).take m ++ [u[i + m]] := take_snoc (by rw [List.getElem?_drop]; exact hg)
    rw [e, ← List.append_assoc]
    exact .left ih hg
theorem Way.addR {r : List (List Int)} {i j : Nat} (h : Way u v r i j) : ∀ m, j + m ≤ v.length → Way u v (r ++ (v.drop j).take m) i (j + m)
  | 0, _ => by simpa using h
  | m + 1, hm => by
    have ih := h.addR m (by omega)
    have hl : j + m < v.length := by omega
    have hg : v[j + m]? = some v[j + m] := List.getElem?_eq_getElem hl
    have e : (v.drop j).take (m + 1) = (v.drop j).take m ++ [v[j + m]] := take_snoc (by rw [List.getElem?_drop]; exact hg)
    rw [e, ← List.append_assoc]
    exact .right ih hg
theorem Way.allL {r : List (List Int)} {i j : Nat} (h : Way u v r i j) : Way u v (r ++ u.drop i) u.length j := by
  have hi := h.le.1
  have := h.addL (u.length - i) (by omega)
  rwa [List.take_of_length_le (by simp), show i + (u.length - i) = u.length by omega] at this
theorem Way.allR {r : List (List Int)} {i j : Nat} (h : Way u v r i j) : Way u v (r ++ v.drop j) i v.length := by
  have hi := h.le.2
  have := h.addR (v.length - j) (by omega)
  rwa [List.take_of_length_le (by simp), show j + (v.length - j) = v.length by omega] at this
theorem way_uv : Way u v (u ++ v) u.length v.length := by
  have := (Way.nil (u := u) (v := v)).allL.allR
  simpa using this
theorem way_vu : Way u v (v ++ u) u.length v.length := by
  have := (Way.nil (u := u) (v := v)).allR.allL
  simpa using this
theorem way_mix {p q : List Int} {i j : Nat} (hp : u[i]? = some p) (hq : v[j]? = some q) : Way u v ((u.take i ++ v.take j) ++ [p, q] ++ (u.drop (i + 1) ++ v.drop (j + 1))) u.length v.length ∧ Way u v ((u.take i ++ v.take j) ++ [q, p] ++ (u.drop (i + 1) ++ v.drop (j + 1))) u.length v.length := by
  have hi := (List.getElem?_eq_some_iff.mp hp).1
  have hj := (List.getElem?_eq_some_iff.mp hq).1
  have h0 := ((Way.nil (u := u) (v := v)).addL i (by omega)).addR j (by omega)
  simp only [List.nil_append, List.drop_zero, Nat.zero_add] at h0
  constructor
  · have := ((h0.left hp).right hq).allL.allR
    simpa using this
  · have := ((h0.right hq).left hp).allL.allR
    simpa using this
/-! the levels -/
abbrev Ent := List (List Int) × Nat × Nat
def exL (u v : List (List Int)) (e : Ent) : List Ent := (match u[e.2.1]? with | some p => [(e.1 ++ [p], e.2.1 + 1, e.2.2)] | none => []) ++ (match v[e.2.2]? with | some q => [(e.1 ++ [q], e.2.1, e.2.2 + 1)] | none => [])
def lev (u v : List (List Int)) : Nat → List Ent
  | 0 => [([], 0, 0)]
  | t + 1 => (lev u v t).flatMap (exL u v)
theorem lev_way : ∀ {t : Nat} {e : Ent}, e ∈ lev u v t → Way u v e.1 e.2.1 e.2.2 ∧ e.2.1 + e.2.2 = t
  | 0, e, h => by
    rw [lev, List.mem_singleton] at h
    subst h; exact ⟨.nil, rfl⟩
  | t + 1, e, h => by
    rw [lev, List.mem_flatMap] at h
    obtain ⟨e0, h0, h1⟩ := h
    obtain ⟨w, ht⟩ := lev_way h0
    unfold exL at h1
    rcases List.mem_append.mp h1 with h1 | h1
    · cases hp : u[e0.2.1]? with
      | none => rw [hp] at h1; cases h1
      | some p => rw [hp, List.mem_singleton] at h1; subst h1; exact ⟨.left w hp, by simp only; omega⟩
    · cases hp : v[e0.2.2]? with
      | none => rw [hp] at h1; cases h1
      | some p => rw [hp, List.mem_singleton] at h1; subst h1; exact ⟨.right w hp, by simp only; omega⟩
theorem way_lev {r : List (List Int)} {i j : Nat} (h : Way u v r i j) : (r, i, j) ∈ lev u v (i + j) := by
  induction h with
  | nil => exact List.mem_singleton.mpr rfl
  | left w hp ih =>
    rename_i r i j p
    rw [show i + 1 + j = (i + j) + 1 by omega, lev, List.mem_flatMap]
    exact ⟨_, ih, List.mem_append_left _ (by simp only [hp, List.mem_singleton])⟩
  | right w hp ih =>
    rename_i r i j p
    rw [show i + (j + 1) = (i + j) + 1 by omega, lev, List.mem_flatMap]
    exact ⟨_, ih, List.mem_append_right _ (by simp only [hp, List.mem_singleton])⟩
theorem exL_len (e : Ent) : (exL u v e).length ≤ 2 := by
  unfold exL
  rw [List.length_append]
  cases u[e.2.1]? <;> cases v[e.2.2]? <;> simp
theorem flatMap_len {f : Ent → List Ent} (h : ∀ e, (f e).length ≤ 2) : ∀ l : List Ent, (l.flatMap f).length ≤ 2 * l.length
  | [] => by simp
  | e :: l => by
    rw [List.flatMap_cons, List.length_append, List.length_cons]
    have := h e
    have := flatMap_len h l
    omega
theorem lev_len : ∀ t, (lev u v t).length ≤ 2 ^ t
  | 0 => Nat.le_refl _
  | t + 1 => by
    rw [lev]
    have h1 := flatMap_len (f := exL u v) exL_len (lev u v t)
    have h2 := lev_len t
    rw [Nat.pow_succ]
    omega
/-- the rows at the end -/
def rows (u v : List (List Int)) : List (List (List Int)) := (lev u v (u.length + v.length)).map (·.1)
theorem mem_rows {r : List (List Int)} (h : r ∈ rows u v) : Inter r u v := by
  obtain ⟨e, he, rfl⟩ := List.mem_map.mp h
  obtain ⟨w, ht⟩ := lev_way he
  have hl := w.le
  have h1 : e.2.1 = u.length := by omega
  have h2 : e.2.2 = v.length := by omega
  have := w.inter
  rwa [h1, h2, List.take_length, List.take_length] at this
theorem way_rows {r : List (List Int)} (h : Way u v r u.length v.length) : r ∈ rows u v := List.mem_map.mpr ⟨_, way_lev h, rfl⟩
end
/-- all shuffles have one value: from the two straight ones, step by step -/
theorem all_one {fr : List (List Int) → List (List Int) → List Int → List Int → Bool} {f : List Int → List Int} {b : List Int} (Ok : List (List Int) → List (List Int) → List Int → Prop)
    (okL : ∀ {u v p a}, Ok (p :: u) v a → u ≠ [] → Ok u v (a ++ p)) (okR : ∀ {u v q a}, Ok u (q :: v) a → v ≠ [] → Ok u v (a ++ q))
    (sm : ∀ {u v a}, Ok u v a → fr u v a b = true → f (a ++ (u ++ v).flatten ++ b) = f (a ++ (v ++ u).flatten ++ b))
    (sl : ∀ {u v p a}, Ok (p :: u) v a → u ≠ [] → fr (p :: u) v a b = true → fr u v (a ++ p) b = true)
    (sr : ∀ {u v q a}, Ok u (q :: v) a → v ≠ [] → fr u (q :: v) a b = true → fr u v (a ++ q) b = true)
    {r u v : List (List Int)} (h : Inter r u v) : ∀ {a : List Int}, Ok u v a → fr u v a b = true → f (a ++ r.flatten ++ b) = f (a ++ (u ++ v).flatten ++ b) := by
  induction h with
  | nil => intro a _ _; rfl
  | left hi ih =>
    rename_i r u v p
    intro a ho hf
    by_cases hu : u = []
    · subst hu
      rw [hi.nilL]; rfl
    · have := ih (okL ho hu) (sl ho hu hf)
      simp only [List.cons_append, List.flatten_cons, List.append_assoc] at this ⊢
      exact this
  | right hi ih =>
    rename_i r u v q
    intro a ho hf
    have h0 := sm ho hf
    by_cases hv : v = []
    · subst hv
      rw [hi.nilR, h0]; rfl
    · have h1 := ih (okR ho hv) (sr ho hv hf)
      have h2 := sm (okR ho hv) (sr ho hv hf)
      rw [h0]
      rw [h2] at h1
      simp only [List.cons_append, List.flatten_cons, List.append_assoc] at h1 ⊢
      exact h1
end Kd

end
section
set_option Elab.async false
set_option linter.all false
namespace Kd
/-! # Two parcels that may be exchanged in every context -/
theorem chain_filter {A B : List Int} (c : Int → Bool) (h : chain A B) : chain (A.filter c) (B.filter c) := by
  rcases h with h | h
  · exact .inl (h.filter c)
  · exact .inr (h.filter c)
theorem chain_more {a X p q : List Int} (h : chain (nw a p) (nw a q)) : chain (nw (a ++ X) p) (nw (a ++ X) q) := by
  rw [nw_app, nw_app]; exact chain_filter _ h
theorem chain_more' {b Y p q : List Int} (h : chain (nw b p) (nw b q)) : chain (nw (Y ++ b) p) (nw (Y ++ b) q) := by
  have e : ∀ l, nw (Y ++ b) l = nw (b ++ Y) l := fun l => nw_congr l fun x => by simp only [List.mem_append]; exact Or.comm
  rw [e, e]; exact chain_more h
theorem frF_more {a X p q : List Int} (h : frF a p q = true) : frF (a ++ X) p q = true := by
  unfold frF at *
  rw [Bool.or_eq_true] at *
  rcases h with h | h
  · exact .inl (by have := of_decide_eq_true h; exact decide_eq_true (by simp [this]))
  · exact .inr h
theorem enF_more {b Y p q : List Int} (h : enF b p q = true) : enF (Y ++ b) p q = true := by
  unfold enF at *
  rw [Bool.or_eq_true] at *
  rcases h with h | h
  · exact .inl (by have := of_decide_eq_true h; exact decide_eq_true (by simp [this]))
  · exact .inr h
/-- what an exchange needs: tw is stable in every context, and tells of a difference at one end -/
structure Tw (f : List Int → List Int) (tw : List Int → List Int → List Int → List Int → Bool) : Prop where
  symm : ∀ a b p q, tw a b p q = tw a b q p
  t1 : ∀ {a b p q : List Int} (X Y : List Int), p ≠ [] → q ≠ [] → tw a b p q = true → f (a ++ X ++ p ++ q ++ Y ++ b) = f (a ++ X ++ q ++ p ++ Y ++ b)
  t2 : ∀ {a b p q : List Int} (R : List Int), p ≠ [] → q ≠ [] → tw a b p q = false → f (a ++ p ++ q ++ R ++ b) ≠ f (a ++ q ++ p ++ R ++ b) ∨ f (a ++ R ++ p ++ q ++ b) ≠ f (a ++ R ++ q ++ p ++ b)
theorem asY (a X p q Y b : List Int) : a ++ X ++ p ++ q ++ Y ++ b = (a ++ X) ++ p ++ q ++ (Y ++ b) := by simp
theorem chainB_symm (A B : List Int) : chainB A B = chainB B A := by rw [Bool.eq_iff_iff, chainB_iff, chainB_iff]; exact ⟨.symm, .symm⟩
theorem tw_list : Tw id (fun _ _ p q => decide (p ++ q = q ++ p)) where
  symm := fun a b p q => decide_eq_decide.mpr eq_comm
  t1 := fun {a b p q} X Y _ _ h => by
    have h := of_decide_eq_true h
    show a ++ X ++ p ++ q ++ Y ++ b = a ++ X ++ q ++ p ++ Y ++ b
    simp only [List.append_assoc]
    rw [← List.append_assoc p q, h, List.append_assoc]
  t2 := fun {a b p q} R _ _ h => .inl fun e => by
    have h := of_decide_eq_false h
    apply h
    have e : a ++ p ++ q ++ R ++ b = a ++ q ++ p ++ R ++ b := e
    simp only [List.append_assoc] at e
    have e := List.append_cancel_left e
    rw [← List.append_assoc, ← List.append_assoc q p] at e
    exact List.append_cancel_right e
theorem tw_bag : Tw sortI (fun _ _ _ _ => true) where
  symm := fun _ _ _ _ => rfl
  t1 := fun {a b p q} X Y _ _ _ => by rw [asY, asY]; exact bag_sh _ _ _ _
  t2 := fun R _ _ h => by cases h
theorem tw_set : Tw setI (fun _ _ _ _ => true) where
  symm := fun _ _ _ _ => rfl
  t1 := fun {a b p q} X Y _ _ _ => by rw [asY, asY]; exact set_sh _ _ _ _
  t2 := fun R _ _ h => by cases h
theorem asR (a p q R b : List Int) : a ++ p ++ q ++ R ++ b = a ++ p ++ q ++ (R ++ b) := by simp
theorem tw_first : Tw firstI (fun a _ p q => frF a p q) where
  symm := fun a b p q => frF_symm a p q
  t1 := fun {a b p q} X Y hp hq h => by rw [asY, asY]; exact (first_sh hp hq).mpr (frF_more h)
  t2 := fun {a b p q} R hp hq h => .inl fun e => by
    rw [asR, asR, first_sh hp hq, h] at e; cases e
theorem tw_last : Tw lastI (fun _ b p q => enF b p q) where
  symm := fun a b p q => enF_symm b p q
  t1 := fun {a b p q} X Y hp hq h => by rw [asY, asY]; exact (last_sh hp hq).mpr (enF_more h)
  t2 := fun {a b p q} R hp hq h => .inr fun e => by
    rw [last_sh hp hq, h] at e; cases e
theorem tw_ends : Tw endsI (fun a b p q => frF a p q && enF b p q) where
  symm := fun a b p q => by show (frF a p q && enF b p q) = (frF a q p && enF b q p); rw [frF_symm a p q, enF_symm b p q]
  t1 := fun {a b p q} X Y hp hq h => by
    have h : (frF a p q && enF b p q) = true := h
    rw [Bool.and_eq_true] at h
    rw [asY, asY]; exact (ends_sh hp hq).mpr (by rw [Bool.and_eq_true]; exact ⟨frF_more h.1, enF_more h.2⟩)
  t2 := fun {a b p q} R hp hq h => by
    have h : (frF a p q && enF b p q) = false := h
    cases hf : frF a p q with
    | false => exact .inl fun e => by rw [asR, asR, ends_sh hp hq, hf] at e; cases e
    | true =>
      rw [hf, Bool.true_and] at h
      exact .inr fun e => by rw [ends_sh hp hq, h, Bool.and_false] at e; cases e
theorem tw_heads : Tw heads (fun a _ p q => chainB (nw a p) (nw a q)) where
  symm := fun a b p q => chainB_symm _ _
  t1 := fun {a b p q} X Y _ _ h => by rw [asY, asY]; exact (heads_sh _ _ _ _).mpr (chain_more (chainB_iff.mp h))
  t2 := fun {a b p q} R _ _ h => .inl fun e => by
    rw [asR, asR, heads_sh, ← chainB_iff] at e
    have h : chainB (nw a p) (nw a q) = false := h
    rw [h] at e; cases e
theorem tw_tails : Tw tails (fun _ b p q => chainB (nw b p.reverse) (nw b q.reverse)) where
  symm := fun a b p q => chainB_symm _ _
  t1 := fun {a b p q} X Y _ _ h => by rw [asY, asY]; exact (tails_sh _ _ _ _).mpr (chain_more' (chainB_iff.mp h))
  t2 := fun {a b p q} R _ _ h => .inr fun e => by
    rw [tails_sh, ← chainB_iff] at e
    have h : chainB (nw b p.reverse) (nw b q.reverse) = false := h
    rw [h] at e; cases e
section
variable {f : List Int → List Int} {tw : List Int → List Int → List Int → List Int → Bool} (T : Tw f tw)
include T
/-- all orders -/
theorem perm_one {a b : List Int} {l m : List (List Int)} (hp : l.Perm m) : ∀ (X Y : List Int), (∀ p ∈ l, p ≠ []) → l.Pairwise (fun p q => tw a b p q = true) → f (a ++ X ++ l.flatten ++ Y ++ b) = f (a ++ X ++ m.flatten ++ Y ++ b) := by
  induction hp with
  | nil => intro X Y _ _; rfl
  | cons p h ih =>
    intro X Y hn hw
    have := ih (X ++ p) Y (fun q hq => hn q (List.mem_cons_of_mem _ hq)) (List.pairwise_cons.mp hw).2
    simp only [List.flatten_cons, List.append_assoc] at this ⊢
    exact this
  | swap p q l =>
    intro X Y hn hw
    have h1 := (List.pairwise_cons.mp hw).1 p List.mem_cons_self
    have := T.t1 X (l.flatten ++ Y) (hn q List.mem_cons_self) (hn p (List.mem_cons_of_mem _ List.mem_cons_self)) h1
    simp only [List.flatten_cons, List.append_assoc] at this ⊢
    exact this
  | trans h1 h2 ih1 ih2 =>
    intro X Y hn hw
    rw [ih1 X Y hn hw]
    refine ih2 X Y (fun p hp => hn p (h1.mem_iff.mpr hp)) ?_
    exact (h1.pairwise_iff (fun {x y} h => by rw [T.symm]; exact h)).mp hw
end
end Kd

end
section
set_option Elab.async false
set_option linter.all false
set_option maxRecDepth 100000
set_option maxHeartbeats 0
namespace G
open PySem L2 M
def top (i : Nat) : Stmt := PySem.Challenge.pw_movedstates_k39_free_orders_exactly.main.body.getD i (.Pass ⟨0, 0, 0, 0⟩)
theorem xtab_nil {K : PySem.W.Frag} {y : Value} : ∀ c b, (c, b) ∈ ([] : List (Str × Bool)) → PySem.W.exmOne K (.ref (He.ga K c)) y = some b := fun _ _ h => by cases h
theorem xtab_cons {K : PySem.W.Frag} {y : Value} {c : Str} {b : Bool} {l : List (Str × Bool)} (h : PySem.W.exmOne K (.ref (He.ga K c)) y = some b) (r : ∀ c b, (c, b) ∈ l → PySem.W.exmOne K (.ref (He.ga K c)) y = some b) : ∀ c' b', (c', b') ∈ (c, b) :: l → PySem.W.exmOne K (.ref (He.ga K c')) y = some b' := fun c' b' hm => by
  rcases List.mem_cons.mp hm with e | e
  · cases e; exact h
  · exact r _ _ e
theorem xtb_nil {Q : Str → Bool → Prop} : ∀ c b, (c, b) ∈ ([] : List (Str × Bool)) → Q c b := fun _ _ h => by cases h
theorem xtb_cons {Q : Str → Bool → Prop} {c : Str} {b : Bool} {l : List (Str × Bool)} (h : Q c b) (r : ∀ c b, (c, b) ∈ l → Q c b) : ∀ c' b', (c', b') ∈ (c, b) :: l → Q c' b' := fun c' b' hm => by
  rcases List.mem_cons.mp hm with e | e
  · cases e; exact h
  · exact r _ _ e
theorem cs_nil {Q : Str → Prop} : ∀ c, ([] : List Str).contains c = true → Q c := fun _ h => by cases h
theorem cs_cons {Q : Str → Prop} {c : Str} {l : List Str} (h : Q c) (r : ∀ c, l.contains c = true → Q c) : ∀ c', (c :: l).contains c' = true → Q c' := fun c' hm => by
  rw [List.contains_cons, Bool.or_eq_true] at hm
  rcases hm with e | e
  · rw [beq_iff_eq.mp e]; exact h
  · exact r _ e

abbrev s_BadKind_init : Stmt := inCls (top 2) 0
def d_BadKind_init : DefC := ⟨"BadKind", "__init__", "BadKind.__init__", defArgs s_BadKind_init, defBody s_BadKind_init, defScope s_BadKind_init⟩
abbrev s_l_stream : Stmt := top 21
def b_l_stream_2 : DS := dSeq (dEx (dBM isLst appendO (dVar 1) (dCons (dBin modO (dAp int1O (dCons (dVar 4) (dNil))) (dK (.int 100))) (dNil)))) (dSeq (dAsg (dBin fdivO (dVar 4) (dK (.int 100))) (gNm 4)) (dIf (dTru (dBin eqO (dVar 4) (dK (.int 0)))) (dBrk) (dSkip)))
def b_l_stream_1 : DS := dSeq (dAsg (dAp absO (dCons (dVar 3) (dNil))) (gNm 4)) (dSeq (dIf (dTru (dBin ltO (dVar 4) (dK (.int 1000000000000000000)))) (dSeq (dAsg (dBin modO (dAp int1O (dCons (dBin mulO (dVar 4) (dBin addO (dBin addO (dK (.int 6364136223846793005)) (dBin mulO (dK (.int 2)) (dVar 2))) (dAp int1O (dCons (dBin ltO (dVar 3) (dK (.int 0))) (dNil))))) (dNil))) (dK (.int 1000000000000000003))) (gNm 4)) (dAsg (dBin modO (dAp int1O (dCons (dBin mulO (dVar 4) (dBin addO (dVar 4) (dK (.int 1442695040888963407)))) (dNil))) (dK (.int 1000000000000000009))) (gNm 4))) (dSkip)) (dForR1 (dCons (dK (.int 60)) (dNil)) (gNm 5) b_l_stream_2))
def b_l_stream : DS := dSeq (dAsg (dAp lstO (dNil)) (gNm 1)) (dSeq (dForE (dCons (dSl (dVar 0) (dNoPart) (dPart (dK (.int 63)))) (dNil)) (gTp [gNm 2, gNm 3]) b_l_stream_1) (dSeq (dEx (dBM isLst reverseO (dVar 1) dNil)) (dRet (dVar 1))))
def F_l_stream : DF := runF 1 6 false b_l_stream
def d_l_stream : He.DefD := ⟨("_law_stream", none), "_law_stream", "_law_stream", defArgs s_l_stream, defBody s_l_stream, defScope s_l_stream, [], []⟩
def F_l_stream_f : DF := runF 1 6 true b_l_stream
abbrev s_l_draw : Stmt := top 22
def b_l_draw : DS := dSeq (dIf (dTru (dBin eqO (dAp lenO (dCons (dVar 0) (dNil))) (dK (.int 0)))) (dRet (dK (.int 0))) (dSkip)) (dRet (dBin modO (dAp int1O (dCons (dBM isLst popO (dVar 0) dNil) (dNil))) (dVar 1)))
def F_l_draw : DF := runF 2 2 true b_l_draw
def d_l_draw : He.DefD := ⟨("_law_draw", none), "_law_draw", "_law_draw", defArgs s_l_draw, defBody s_l_draw, defScope s_l_draw, [], []⟩
abbrev s_l_wide : Stmt := top 23
def b_l_wide_1 : DS := dAsg (dBin addO (dBin mulO (dVar 1) (dK (.int 100))) (dCall F_l_draw (dCons (dVar 0) (dCons (dK (.int 100)) (dNil))))) (gNm 1)
def b_l_wide : DS := dSeq (dAsg (dK (.int 0)) (gNm 1)) (dSeq (dForR1 (dCons (dK (.int 11)) (dNil)) (gNm 2) b_l_wide_1) (dSeq (dIf (dTru (dBin eqO (dCall F_l_draw (dCons (dVar 0) (dCons (dK (.int 2)) (dNil)))) (dK (.int 1)))) (dRet (dUn negO (dVar 1))) (dSkip)) (dRet (dVar 1))))
def F_l_wide : DF := runF 1 3 true b_l_wide
def d_l_wide : He.DefD := ⟨("_law_wide", none), "_law_wide", "_law_wide", defArgs s_l_wide, defBody s_l_wide, defScope s_l_wide, [], []⟩
abbrev s_l_value : Stmt := top 24
def b_l_value : DS := dSeq (dIf (dTru (dBin ltO (dVar 1) (dK (.int 2)))) (dRet (dCall F_l_draw (dCons (dVar 0) (dCons (dK (.int 3)) (dNil))))) (dSkip)) (dSeq (dIf (dTru (dBin eqO (dVar 1) (dK (.int 2)))) (dRet (dCall F_l_draw (dCons (dVar 0) (dCons (dK (.int 6)) (dNil))))) (dSkip)) (dSeq (dIf (dTru (dBin eqO (dVar 1) (dK (.int 3)))) (dRet (dBin subO (dCall F_l_draw (dCons (dVar 0) (dCons (dK (.int 100)) (dNil)))) (dCall F_l_draw (dCons (dVar 0) (dCons (dK (.int 100)) (dNil)))))) (dSkip)) (dSeq (dIf (dTru (dBin eqO (dVar 1) (dK (.int 4)))) (dRet (dBin mulO (dBin subO (dCall F_l_draw (dCons (dVar 0) (dCons (dK (.int 3)) (dNil)))) (dCall F_l_draw (dCons (dVar 0) (dCons (dK (.int 2)) (dNil))))) (dK (.int 100000000000000000000)))) (dSkip)) (dRet (dCall F_l_wide (dCons (dVar 0) (dNil)))))))
def F_l_value : DF := runF 2 2 true b_l_value
def d_l_value : He.DefD := ⟨("_law_value", none), "_law_value", "_law_value", defArgs s_l_value, defBody s_l_value, defScope s_l_value, [], []⟩
abbrev s_l_word : Stmt := top 25
def b_l_word : DS := dRet (dAp tupleO (dCons (dLcR1 (dCons (dVar 1) (dNil)) 3 (dYes) (dCall F_l_value (dCons (dVar 0) (dCons (dVar 2) (dNil))))) (dNil)))
def F_l_word : DF := runF 3 4 true b_l_word
def d_l_word : He.DefD := ⟨("_law_word", none), "_law_word", "_law_word", defArgs s_l_word, defBody s_l_word, defScope s_l_word, [], []⟩
abbrev s_l_parcel : Stmt := top 26
def b_l_parcel : DS := dSeq (dAsg (dBin addO (dK (.int 1)) (dCall F_l_draw (dCons (dVar 0) (dCons (dK (.int 3)) (dNil))))) (gNm 4)) (dSeq (dIf (dOr (dTru (dBin ltO (dVar 2) (dK (.int 2)))) (dTru (dBin eqO (dCall F_l_draw (dCons (dVar 0) (dCons (dK (.int 8)) (dNil)))) (dK (.int 7))))) (dRet (dCall F_l_word (dCons (dVar 0) (dCons (dVar 4) (dCons (dVar 1) (dNil)))))) (dSkip)) (dSeq (dIf (dTru (dBin eqO (dVar 2) (dK (.int 2)))) (dRet (dBin mulO (dVar 3) (dAp min2O (dCons (dVar 4) (dCons (dBin fdivO (dK (.int 4)) (dAp lenO (dCons (dVar 3) (dNil)))) (dNil)))))) (dSkip)) (dSeq (dIf (dTru (dBin eqO (dVar 2) (dK (.int 3)))) (dRet (dSl (dVar 3) (dNoPart) (dPart (dVar 4)))) (dSkip)) (dSeq (dIf (dTru (dBin eqO (dVar 2) (dK (.int 4)))) (dRet (dSl (dVar 3) (dPart (dBin subO (dK (.int 3)) (dVar 4))) (dNoPart))) (dSkip)) (dRet (dBin addO (dBin addO (dSl (dVar 3) (dNoPart) (dPart (dK (.int 1)))) (dCall F_l_word (dCons (dVar 0) (dCons (dBin subO (dVar 4) (dK (.int 1))) (dCons (dVar 1) (dNil)))))) (dSl (dVar 3) (dPart (dUn negO (dK (.int 1)))) (dNoPart))))))))
def F_l_parcel : DF := runF 4 5 true b_l_parcel
def d_l_parcel : He.DefD := ⟨("_law_parcel", none), "_law_parcel", "_law_parcel", defArgs s_l_parcel, defBody s_l_parcel, defScope s_l_parcel, [], []⟩
abbrev s_l_drawn : Stmt := top 27
def b_l_drawn_1 : DS := dEx (dBM isLst appendO (dVar 5) (dCons (dCall F_l_parcel (dCons (dVar 0) (dCons (dVar 2) (dCons (dVar 3) (dCons (dVar 4) (dNil)))))) (dNil)))
def b_l_drawn : DS := dSeq (dAsg (dCall F_l_draw (dCons (dVar 0) (dCons (dK (.int 6)) (dNil)))) (gNm 3)) (dSeq (dAsg (dCall F_l_word (dCons (dVar 0) (dCons (dK (.int 3)) (dCons (dVar 2) (dNil))))) (gNm 4)) (dSeq (dIf (dTru (dBin eqO (dVar 3) (dK (.int 2)))) (dAsg (dSl (dVar 4) (dNoPart) (dPart (dBin addO (dK (.int 1)) (dCall F_l_draw (dCons (dVar 0) (dCons (dK (.int 2)) (dNil))))))) (gNm 4)) (dSkip)) (dSeq (dAsg (dAp lstO (dNil)) (gNm 5)) (dSeq (dForR1 (dCons (dVar 1) (dNil)) (gNm 6) b_l_drawn_1) (dRet (dVar 5))))))
def F_l_drawn : DF := runF 3 7 true b_l_drawn
def d_l_drawn : He.DefD := ⟨("_law_drawn", none), "_law_drawn", "_law_drawn", defArgs s_l_drawn, defBody s_l_drawn, defScope s_l_drawn, [], []⟩
abbrev s_l_around : Stmt := top 28
def b_l_around : DS := dRet (dCall F_l_word (dCons (dVar 0) (dCons (dBin ixO (dAp lstO (dCons (dK (.int 0)) (dCons (dK (.int 0)) (dCons (dK (.int 1)) (dCons (dK (.int 2)) (dNil)))))) (dCall F_l_draw (dCons (dVar 0) (dCons (dK (.int 4)) (dNil))))) (dCons (dVar 1) (dNil)))))
def F_l_around : DF := runF 2 2 true b_l_around
def d_l_around : He.DefD := ⟨("_law_around", none), "_law_around", "_law_around", defArgs s_l_around, defBody s_l_around, defScope s_l_around, [], []⟩
abbrev s_l_orders : Stmt := top 34
def b_l_orders_3 : DS := dIf (dTru (dBin notInO (dVar 5) (dVar 4))) (dEx (dBM isLst appendO (dVar 3) (dCons (dBin addF (dVar 4) (dAp lstF (dCons (dVar 5) (dNil)))) (dNil)))) (dSkip)
def b_l_orders_2 : DS := dForR1 (dCons (dVar 0) (dNil)) (gNm 5) b_l_orders_3
def b_l_orders_1 : DS := dSeq (dAsg (dAp lstO (dNil)) (gNm 3)) (dSeq (dForL (dVar 1) (gNm 4) b_l_orders_2) (dAsg (dAp listF (dCons (dVar 3) (dNil))) (gNm 1)))
def b_l_orders : DS := dSeq (dAsg (dAp lstF (dCons (dAp lstF (dNil)) (dNil))) (gNm 1)) (dSeq (dForR1 (dCons (dVar 0) (dNil)) (gNm 2) b_l_orders_1) (dRet (dVar 1)))
def F_l_orders : DF := runF 1 6 true b_l_orders
def d_l_orders : He.DefD := ⟨("_law_orders", none), "_law_orders", "_law_orders", defArgs s_l_orders, defBody s_l_orders, defScope s_l_orders, [], []⟩
abbrev s_l_joined : Stmt := top 29
def b_l_joined_1 : DS := dAsg (dBin addO (dVar 1) (dVar 2)) (gNm 1)
def b_l_joined : DS := dSeq (dAsg (dAp tupO (dNil)) (gNm 1)) (dSeq (dForL (dVar 0) (gNm 2) b_l_joined_1) (dRet (dVar 1)))
def F_l_joined : DF := runF 1 3 true b_l_joined
def d_l_joined : He.DefD := ⟨("_law_joined", none), "_law_joined", "_law_joined", defArgs s_l_joined, defBody s_l_joined, defScope s_l_joined, [], []⟩
abbrev s_l_chained : Stmt := top 33
def b_l_chained : DS := dSeq (dAsg (dAp min2O (dCons (dAp lenO (dCons (dVar 1) (dNil))) (dCons (dAp lenO (dCons (dVar 2) (dNil))) (dNil)))) (gNm 3)) (dSeq (dIf (dTru (dBin eqO (dVar 0) (dK (.str "heads")))) (dRet (dBin eqO (dSlF (dVar 1) (dNoPart) (dPart (dVar 3))) (dSlF (dVar 2) (dNoPart) (dPart (dVar 3))))) (dSkip)) (dRet (dBin eqO (dSlF (dVar 1) (dPart (dBin subO (dAp lenO (dCons (dVar 1) (dNil))) (dVar 3))) (dNoPart)) (dSlF (dVar 2) (dPart (dBin subO (dAp lenO (dCons (dVar 2) (dNil))) (dVar 3))) (dNoPart)))))
def F_l_chained : DF := runF 3 4 true b_l_chained
def d_l_chained : He.DefD := ⟨("_law_chained", none), "_law_chained", "_law_chained", defArgs s_l_chained, defBody s_l_chained, defScope s_l_chained, [], []⟩
abbrev s_l_new : Stmt := top 31
def b_l_new_1 : DS := dIf (dAnd (dTru (dBin notInO (dVar 3) (dVar 1))) (dTru (dBin notInO (dVar 3) (dVar 2)))) (dEx (dBM isLst appendO (dVar 2) (dCons (dVar 3) (dNil)))) (dSkip)
def b_l_new : DS := dSeq (dAsg (dAp lstO (dNil)) (gNm 2)) (dSeq (dForL (dVar 0) (gNm 3) b_l_new_1) (dRet (dVar 2)))
def F_l_new : DF := runF 2 4 false b_l_new
def d_l_new : He.DefD := ⟨("_law_new", none), "_law_new", "_law_new", defArgs s_l_new, defBody s_l_new, defScope s_l_new, [], []⟩
def F_l_new_f : DF := runF 2 4 true b_l_new
abbrev s_l_rear : Stmt := top 32
def b_l_rear : DS := dSeq (dAsg (dCall F_l_new (dCons (dRevA (dVar 0)) (dCons (dVar 1) (dNil)))) (gNm 2)) (dSeq (dEx (dBM isLst reverseO (dVar 2) dNil)) (dRet (dVar 2)))
def F_l_rear : DF := runF 2 3 true b_l_rear
def d_l_rear : He.DefD := ⟨("_law_rear", none), "_law_rear", "_law_rear", defArgs s_l_rear, defBody s_l_rear, defScope s_l_rear, [], []⟩
abbrev s_l_two : Stmt := top 35
def b_l_two : DS := dSeq (dAsg (dOrV (dBin gtO (dAp lenO (dCons (dVar 3) (dNil))) (dK (.int 0))) (dBin eqO (dBin ixO (dVar 1) (dK (.int 0))) (dBin ixO (dVar 2) (dK (.int 0))))) (gNm 5)) (dSeq (dAsg (dOrV (dBin gtO (dAp lenO (dCons (dVar 4) (dNil))) (dK (.int 0))) (dBin eqO (dBin ixO (dVar 1) (dUn negO (dK (.int 1)))) (dBin ixO (dVar 2) (dUn negO (dK (.int 1)))))) (gNm 6)) (dSeq (dIf (dTru (dBin eqO (dVar 0) (dK (.str "list")))) (dRet (dBin eqO (dBin addF (dVar 1) (dVar 2)) (dBin addF (dVar 2) (dVar 1)))) (dSkip)) (dSeq (dIf (dTru (dBin eqO (dVar 0) (dK (.str "first")))) (dRet (dVar 5)) (dSkip)) (dSeq (dIf (dTru (dBin eqO (dVar 0) (dK (.str "last")))) (dRet (dVar 6)) (dSkip)) (dSeq (dIf (dTru (dBin eqO (dVar 0) (dK (.str "ends")))) (dRet (dAndV (dVar 5) (dVar 6))) (dSkip)) (dSeq (dIf (dTru (dBin eqO (dVar 0) (dK (.str "heads")))) (dRet (dCall F_l_chained (dCons (dVar 0) (dCons (dCall F_l_new_f (dCons (dVar 1) (dCons (dVar 3) (dNil)))) (dCons (dCall F_l_new_f (dCons (dVar 2) (dCons (dVar 3) (dNil)))) (dNil)))))) (dSkip)) (dSeq (dIf (dTru (dBin eqO (dVar 0) (dK (.str "tails")))) (dRet (dCall F_l_chained (dCons (dVar 0) (dCons (dCall F_l_rear (dCons (dVar 1) (dCons (dVar 4) (dNil)))) (dCons (dCall F_l_rear (dCons (dVar 2) (dCons (dVar 4) (dNil)))) (dNil)))))) (dSkip)) (dRet (dK (.bl true))))))))))
def F_l_two : DF := runF 5 7 true b_l_two
def d_l_two : He.DefD := ⟨("_law_two", none), "_law_two", "_law_two", defArgs s_l_two, defBody s_l_two, defScope s_l_two, [], []⟩
abbrev s_l_free : Stmt := top 36
def b_l_free_2 : DS := dIf (dNot (dTru (dCall F_l_two (dCons (dVar 0) (dCons (dBin ixO (dVar 1) (dVar 5)) (dCons (dBin ixO (dVar 1) (dVar 4)) (dCons (dVar 2) (dCons (dVar 3) (dNil))))))))) (dRet (dK (.bl false))) (dSkip)
def b_l_free_1 : DS := dForR1 (dCons (dVar 4) (dNil)) (gNm 5) b_l_free_2
def b_l_free : DS := dSeq (dForR1 (dCons (dAp lenO (dCons (dVar 1) (dNil))) (dNil)) (gNm 4) b_l_free_1) (dRet (dK (.bl true)))
def F_l_free : DF := runF 4 6 true b_l_free
def d_l_free : He.DefD := ⟨("_law_free", none), "_law_free", "_law_free", defArgs s_l_free, defBody s_l_free, defScope s_l_free, [], []⟩
abbrev s_l_plain : Stmt := top 30
def b_l_plain_1 : DS := dSeq (dAsg (dBin ixO (dVar 1) (dVar 4)) (gNm 5)) (dSeq (dIf (dTru (dVar 3)) (dAsg (dBin ixO (dVar 1) (dBin subO (dBin subO (dAp lenO (dCons (dVar 1) (dNil))) (dK (.int 1))) (dVar 4))) (gNm 5)) (dSkip)) (dIf (dTru (dBin notInO (dVar 5) (dVar 2))) (dEx (dBM isLst appendO (dVar 2) (dCons (dVar 5) (dNil)))) (dSkip)))
def b_l_plain : DS := dSeq (dIf (dTru (dBin eqO (dVar 0) (dK (.str "list")))) (dRet (dAp tupleO (dCons (dVar 1) (dNil)))) (dSkip)) (dSeq (dIf (dTru (dBin eqO (dVar 0) (dK (.str "bag")))) (dRet (dAp tupleO (dCons (dAp sortO (dCons (dVar 1) (dNil))) (dNil)))) (dSkip)) (dSeq (dIf (dTru (dBin eqO (dAp lenO (dCons (dVar 1) (dNil))) (dK (.int 0)))) (dRet (dAp tupO (dNil))) (dSkip)) (dSeq (dIf (dTru (dBin eqO (dVar 0) (dK (.str "first")))) (dRet (dAp tupO (dCons (dBin ixO (dVar 1) (dK (.int 0))) (dNil)))) (dSkip)) (dSeq (dIf (dTru (dBin eqO (dVar 0) (dK (.str "last")))) (dRet (dAp tupO (dCons (dBin ixO (dVar 1) (dUn negO (dK (.int 1)))) (dNil)))) (dSkip)) (dSeq (dIf (dTru (dBin eqO (dVar 0) (dK (.str "ends")))) (dRet (dAp tupO (dCons (dBin ixO (dVar 1) (dK (.int 0))) (dCons (dBin ixO (dVar 1) (dUn negO (dK (.int 1)))) (dNil))))) (dSkip)) (dSeq (dAsg (dAp lstO (dNil)) (gNm 2)) (dSeq (dAsg (dBin eqO (dVar 0) (dK (.str "tails"))) (gNm 3)) (dSeq (dForR1 (dCons (dAp lenO (dCons (dVar 1) (dNil))) (dNil)) (gNm 4) b_l_plain_1) (dSeq (dIf (dTru (dVar 3)) (dEx (dBM isLst reverseO (dVar 2) dNil)) (dSkip)) (dSeq (dIf (dTru (dBin eqO (dVar 0) (dK (.str "set")))) (dRet (dAp tupleO (dCons (dAp sortO (dCons (dVar 2) (dNil))) (dNil)))) (dSkip)) (dRet (dAp tupleO (dCons (dVar 2) (dNil))))))))))))))
def F_l_plain : DF := runF 2 6 true b_l_plain
def d_l_plain : He.DefD := ⟨("_law_plain", none), "_law_plain", "_law_plain", defArgs s_l_plain, defBody s_l_plain, defScope s_l_plain, [], []⟩
abbrev s_kind_named : Stmt := top 12
def b_kind_named : DS := dMatch (dVar 0) (dmVal (dK (.str "list")) (dRet (dK (.obj "Kind" []))) (dmVal (dK (.str "bag")) (dRet (dK (.obj "BagKind" []))) (dmVal (dK (.str "set")) (dRet (dK (.obj "SetKind" []))) (dmVal (dK (.str "first")) (dRet (dK (.obj "FirstKind" []))) (dmVal (dK (.str "last")) (dRet (dK (.obj "LastKind" []))) (dmVal (dK (.str "ends")) (dRet (dK (.obj "EndsKind" []))) (dmVal (dK (.str "heads")) (dRet (dK (.obj "HeadsKind" []))) (dmVal (dK (.str "tails")) (dRet (dK (.obj "TailsKind" []))) (dmAny (dRaise "BadKind" "name" (dCons (dVar 0) (dNil))))))))))))
def F_kind_named : DF := runF 1 1 true b_kind_named
def d_kind_named : He.DefD := ⟨("kind_named", none), "kind_named", "kind_named", defArgs s_kind_named, defBody s_kind_named, defScope s_kind_named, [], []⟩
abbrev s_exchanged : Stmt := top 18
def b_exchanged : DS := dSeq (dAsg (dBin addF (dBin addF (dSlF (dVar 0) (dNoPart) (dPart (dVar 1))) (dSlF (dVar 0) (dPart (dBin addF (dVar 1) (dK (.int 1)))) (dPart (dVar 2)))) (dSlF (dVar 0) (dPart (dBin addF (dVar 2) (dK (.int 1)))) (dNoPart))) (gNm 4)) (dSeq (dAsg (dAp lstF (dCons (dBin ixO (dVar 0) (dVar 1)) (dCons (dBin ixO (dVar 0) (dVar 2)) (dNil)))) (gNm 5)) (dSeq (dIf (dTru (dVar 3)) (dRet (dAp tupO (dCons (dBin addF (dVar 4) (dVar 5)) (dCons (dBin addF (dVar 4) (dRevF (dVar 5))) (dNil))))) (dSkip)) (dRet (dAp tupO (dCons (dBin addF (dVar 5) (dVar 4)) (dCons (dBin addF (dRevF (dVar 5)) (dVar 4)) (dNil)))))))
def F_exchanged : DF := runF 4 6 true b_exchanged
def d_exchanged : He.DefD := ⟨("exchanged", none), "exchanged", "exchanged", defArgs s_exchanged, defBody s_exchanged, defScope s_exchanged, [], []⟩
abbrev s_word_of : Stmt := top 15
def b_word_of_1 : DS := dAsg (dBin addO (dVar 3) (dVar 4)) (gNm 3)
def b_word_of : DS := dSeq (dAsg (dVar 1) (gNm 3)) (dSeq (dForL (dVar 0) (gNm 4) b_word_of_1) (dRet (dBin addO (dVar 3) (dVar 2))))
def F_word_of : DF := runF 3 5 true b_word_of
def d_word_of : He.DefD := ⟨("word_of", none), "word_of", "word_of", defArgs s_word_of, defBody s_word_of, defScope s_word_of, [], []⟩
abbrev s_Kind_keep : Stmt := inCls (top 4) 6
def b_Kind_keep : DS := dRet (dUn rgO (dAp lenO (dCons (dVar 1) (dNil))))
def F_Kind_keep : DF := runF 2 2 true b_Kind_keep
def d_Kind_keep : He.DefD := ⟨("Kind", some "keep"), "keep", "Kind.keep", defArgs s_Kind_keep, defBody s_Kind_keep, defScope s_Kind_keep, [], []⟩
def st_BagKind_keep : List (Str × DF) := [("BagKind", F_Kind_keep), ("SetKind", F_Kind_keep)]
abbrev s_BagKind_keep : Stmt := inCls (top 5) 6
def b_BagKind_keep : DS := dRet (dSortK (dSup st_BagKind_keep (dCons (dVar 1) (dNil))) 1)
def F_BagKind_keep : DF := runF 2 2 true b_BagKind_keep
def d_BagKind_keep : DefC := ⟨"BagKind", "keep", "BagKind.keep", defArgs s_BagKind_keep, defBody s_BagKind_keep, defScope s_BagKind_keep⟩
def st_SetKind_keep : List (Str × DF) := [("SetKind", F_BagKind_keep)]
abbrev s_SetKind_keep : Stmt := inCls (top 6) 6
def b_SetKind_keep_1 : DS := dIf (dOr (dNot (dTru (dVar 2))) (dTru (dBin neO (dBin ixO (dVar 1) (dBin ixO (dVar 2) (dUn negO (dK (.int 1))))) (dBin ixO (dVar 1) (dVar 3))))) (dEx (dBM isLst appendO (dVar 2) (dCons (dVar 3) (dNil)))) (dSkip)
def b_SetKind_keep : DS := dSeq (dAsg (dAp lstO (dNil)) (gNm 2)) (dSeq (dForA (dSup st_SetKind_keep (dCons (dVar 1) (dNil))) (gNm 3) b_SetKind_keep_1) (dRet (dVar 2)))
def F_SetKind_keep : DF := runF 2 4 true b_SetKind_keep
def d_SetKind_keep : DefC := ⟨"SetKind", "keep", "SetKind.keep", defArgs s_SetKind_keep, defBody s_SetKind_keep, defScope s_SetKind_keep⟩
def st_HeadsKind_keep : List (Str × DF) := [("HeadsKind", F_Kind_keep), ("FirstKind", F_Kind_keep)]
abbrev s_HeadsKind_keep : Stmt := inCls (top 7) 6
def b_HeadsKind_keep_1 : DS := dIf (dTru (dBin notInO (dBin ixO (dVar 1) (dVar 4)) (dVar 3))) (dSeq (dPut (dK (.bl true)) (dVar 3) (dBin ixO (dVar 1) (dVar 4))) (dEx (dBM isLst appendO (dVar 2) (dCons (dVar 4) (dNil))))) (dSkip)
def b_HeadsKind_keep : DS := dSeq (dAsg (dAp lstO (dNil)) (gNm 2)) (dSeq (dAsg (dNewD) (gNm 3)) (dSeq (dForA (dSup st_HeadsKind_keep (dCons (dVar 1) (dNil))) (gNm 4) b_HeadsKind_keep_1) (dRet (dVar 2))))
def F_HeadsKind_keep : DF := runF 2 5 true b_HeadsKind_keep
def d_HeadsKind_keep : DefC := ⟨"HeadsKind", "keep", "HeadsKind.keep", defArgs s_HeadsKind_keep, defBody s_HeadsKind_keep, defScope s_HeadsKind_keep⟩
def st_FirstKind_keep : List (Str × DF) := [("FirstKind", F_HeadsKind_keep)]
abbrev s_FirstKind_keep : Stmt := inCls (top 8) 6
def b_FirstKind_keep : DS := dRet (dSl (dSup st_FirstKind_keep (dCons (dVar 1) (dNil))) (dNoPart) (dPart (dK (.int 1))))
def F_FirstKind_keep : DF := runF 2 2 true b_FirstKind_keep
def d_FirstKind_keep : DefC := ⟨"FirstKind", "keep", "FirstKind.keep", defArgs s_FirstKind_keep, defBody s_FirstKind_keep, defScope s_FirstKind_keep⟩
def st_TailsKind_keep : List (Str × DF) := [("TailsKind", F_Kind_keep), ("LastKind", F_Kind_keep)]
abbrev s_TailsKind_keep : Stmt := inCls (top 9) 6
def b_TailsKind_keep_1 : DS := dIf (dTru (dBin notInO (dBin ixO (dVar 1) (dVar 4)) (dVar 3))) (dSeq (dPut (dK (.bl true)) (dVar 3) (dBin ixO (dVar 1) (dVar 4))) (dEx (dBM isLst appendO (dVar 2) (dCons (dVar 4) (dNil))))) (dSkip)
def b_TailsKind_keep : DS := dSeq (dAsg (dAp lstO (dNil)) (gNm 2)) (dSeq (dAsg (dNewD) (gNm 3)) (dSeq (dForA (dRev (dSup st_TailsKind_keep (dCons (dVar 1) (dNil)))) (gNm 4) b_TailsKind_keep_1) (dRet (dRevA (dVar 2)))))
def F_TailsKind_keep : DF := runF 2 5 true b_TailsKind_keep
def d_TailsKind_keep : DefC := ⟨"TailsKind", "keep", "TailsKind.keep", defArgs s_TailsKind_keep, defBody s_TailsKind_keep, defScope s_TailsKind_keep⟩
def st_LastKind_keep : List (Str × DF) := [("LastKind", F_TailsKind_keep)]
abbrev s_LastKind_keep : Stmt := inCls (top 10) 6
def b_LastKind_keep : DS := dRet (dSl (dSup st_LastKind_keep (dCons (dVar 1) (dNil))) (dPart (dUn negO (dK (.int 1)))) (dNoPart))
def F_LastKind_keep : DF := runF 2 2 true b_LastKind_keep
def d_LastKind_keep : DefC := ⟨"LastKind", "keep", "LastKind.keep", defArgs s_LastKind_keep, defBody s_LastKind_keep, defScope s_LastKind_keep⟩
def st_EndsKind_keep : List (Str × DF) := [("EndsKind", F_Kind_keep)]
abbrev s_EndsKind_keep : Stmt := inCls (top 11) 6
def b_EndsKind_keep : DS := dSeq (dAsg (dSup st_EndsKind_keep (dCons (dVar 1) (dNil))) (gNm 2)) (dRet (dBin addO (dSl (dVar 2) (dNoPart) (dPart (dK (.int 1)))) (dSl (dVar 2) (dPart (dUn negO (dK (.int 1)))) (dNoPart))))
def F_EndsKind_keep : DF := runF 2 3 true b_EndsKind_keep
def d_EndsKind_keep : DefC := ⟨"EndsKind", "keep", "EndsKind.keep", defArgs s_EndsKind_keep, defBody s_EndsKind_keep, defScope s_EndsKind_keep⟩
def mt_keep : List (Str × DF) := [("Kind", F_Kind_keep), ("BagKind", F_BagKind_keep), ("SetKind", F_SetKind_keep), ("HeadsKind", F_HeadsKind_keep), ("FirstKind", F_FirstKind_keep), ("TailsKind", F_TailsKind_keep), ("LastKind", F_LastKind_keep), ("EndsKind", F_EndsKind_keep)]
abbrev s_Kind_plain : Stmt := inCls (top 4) 7
def b_Kind_plain : DS := dRet (dAp tupleO (dCons (dLcL (dMeth "keep" mt_keep (dVar 0) (dCons (dVar 1) (dNil))) 2 (dYes) (dBin ixO (dVar 1) (dVar 2))) (dNil)))
def F_Kind_plain : DF := runF 2 3 true b_Kind_plain
def d_Kind_plain : He.DefD := ⟨("Kind", some "plain"), "plain", "Kind.plain", defArgs s_Kind_plain, defBody s_Kind_plain, defScope s_Kind_plain, [], []⟩
def mt_plain : List (Str × DF) := [("Kind", F_Kind_plain), ("BagKind", F_Kind_plain), ("SetKind", F_Kind_plain), ("HeadsKind", F_Kind_plain), ("FirstKind", F_Kind_plain), ("TailsKind", F_Kind_plain), ("LastKind", F_Kind_plain), ("EndsKind", F_Kind_plain)]
abbrev s_alike : Stmt := top 13
def b_alike : DS := dSeq (dAsg (dCall F_kind_named (dCons (dVar 0) (dNil))) (gNm 3)) (dRet (dBin eqO (dMeth "plain" mt_plain (dVar 3) (dCons (dVar 1) (dNil))) (dMeth "plain" mt_plain (dVar 3) (dCons (dVar 2) (dNil)))))
def F_alike : DF := runF 3 4 true b_alike
def d_alike : He.DefD := ⟨("alike", none), "alike", "alike", defArgs s_alike, defBody s_alike, defScope s_alike, [], []⟩
abbrev s_free_orders : Stmt := top 19
def b_free_orders_3 : DS := dSeq (dAsg (dCall F_exchanged (dCons (dVar 1) (dCons (dVar 5) (dCons (dVar 6) (dCons (dVar 4) (dNil)))))) (gTp [gNm 8, gNm 9])) (dSeq (dAsg (dAp tupO (dCons (dCall F_word_of (dCons (dVar 8) (dCons (dVar 2) (dCons (dVar 3) (dNil))))) (dCons (dCall F_word_of (dCons (dVar 9) (dCons (dVar 2) (dCons (dVar 3) (dNil))))) (dNil)))) (gNm 7)) (dIf (dNot (dTru (dCall F_alike (dCons (dVar 0) (dCons (dBin ixO (dVar 7) (dK (.int 0))) (dCons (dBin ixO (dVar 7) (dK (.int 1))) (dNil))))))) (dRet (dVar 7)) (dSkip)))
def b_free_orders_2 : DS := dForR2 (dCons (dBin addF (dVar 5) (dK (.int 1))) (dCons (dAp lenO (dCons (dVar 1) (dNil))) (dNil))) (gNm 6) b_free_orders_3
def b_free_orders_1 : DS := dForR1 (dCons (dAp lenO (dCons (dVar 1) (dNil))) (dNil)) (gNm 5) b_free_orders_2
def b_free_orders : DS := dSeq (dEx (dCall F_kind_named (dCons (dVar 0) (dNil)))) (dSeq (dForL (dAp tupO (dCons (dK (.bl false)) (dCons (dK (.bl true)) (dNil)))) (gNm 4) b_free_orders_1) (dRet (dK .non)))
def F_free_orders : DF := runF 4 10 true b_free_orders
def d_free_orders : He.DefD := ⟨("free_orders", none), "free_orders", "free_orders", defArgs s_free_orders, defBody s_free_orders, defScope s_free_orders, [], [("before", .adr (kwdAt ("free_orders", none) "before")), ("after", .adr (kwdAt ("free_orders", none) "after"))]⟩
abbrev s_l_told : Stmt := top 38
def b_l_told : DS := dSeq (dIf (dTru (dBin eqO (dVar 0) (dK (.int 1)))) (dRet (dCallK F_free_orders 2 1 [.kw 0, .df 0] [.tup []] (dCons (dVar 1) (dCons (dVar 2) (dNil))) (dCons (dVar 3) (dNil)))) (dSkip)) (dSeq (dIf (dTru (dBin eqO (dVar 0) (dK (.int 2)))) (dRet (dCallK F_free_orders 2 1 [.df 0, .kw 0] [.tup []] (dCons (dVar 1) (dCons (dVar 2) (dNil))) (dCons (dVar 4) (dNil)))) (dSkip)) (dSeq (dIf (dTru (dBin eqO (dVar 0) (dK (.int 3)))) (dRet (dCallK F_free_orders 2 0 [.df 0, .df 1] [.tup [], .tup []] (dCons (dVar 1) (dCons (dVar 2) (dNil))) (dNil))) (dSkip)) (dRet (dCallK F_free_orders 2 2 [.kw 0, .kw 1] [] (dCons (dVar 1) (dCons (dVar 2) (dNil))) (dCons (dVar 3) (dCons (dVar 4) (dNil)))))))
def F_l_told : DF := runF 5 5 true b_l_told
def d_l_told : He.DefD := ⟨("_law_told", none), "_law_told", "_law_told", defArgs s_l_told, defBody s_l_told, defScope s_l_told, [], []⟩
abbrev s_l_pair : Stmt := top 37
def b_l_pair_3 : DS := dSeq (dAsg (dBin addF (dBin addF (dSlF (dVar 1) (dNoPart) (dPart (dVar 5))) (dSlF (dVar 1) (dPart (dBin addF (dVar 5) (dK (.int 1)))) (dPart (dVar 6)))) (dSlF (dVar 1) (dPart (dBin addF (dVar 6) (dK (.int 1)))) (dNoPart))) (gNm 7)) (dSeq (dAsg (dBin addF (dAp lstF (dCons (dBin ixO (dVar 1) (dVar 5)) (dCons (dBin ixO (dVar 1) (dVar 6)) (dNil)))) (dVar 7)) (gNm 8)) (dSeq (dAsg (dBin addF (dAp lstF (dCons (dBin ixO (dVar 1) (dVar 6)) (dCons (dBin ixO (dVar 1) (dVar 5)) (dNil)))) (dVar 7)) (gNm 9)) (dSeq (dIf (dTru (dVar 4)) (dSeq (dAsg (dBin addF (dVar 7) (dAp lstF (dCons (dBin ixO (dVar 1) (dVar 5)) (dCons (dBin ixO (dVar 1) (dVar 6)) (dNil))))) (gNm 8)) (dAsg (dBin addF (dVar 7) (dAp lstF (dCons (dBin ixO (dVar 1) (dVar 6)) (dCons (dBin ixO (dVar 1) (dVar 5)) (dNil))))) (gNm 9))) (dSkip)) (dSeq (dAsg (dBin addF (dBin addF (dVar 2) (dCall F_l_joined (dCons (dVar 8) (dNil)))) (dVar 3)) (gNm 10)) (dSeq (dAsg (dBin addF (dBin addF (dVar 2) (dCall F_l_joined (dCons (dVar 9) (dNil)))) (dVar 3)) (gNm 11)) (dIf (dTru (dBin neO (dCall F_l_plain (dCons (dVar 0) (dCons (dVar 10) (dNil)))) (dCall F_l_plain (dCons (dVar 0) (dCons (dVar 11) (dNil)))))) (dRet (dAp tupO (dCons (dVar 10) (dCons (dVar 11) (dNil))))) (dSkip)))))))
def b_l_pair_2 : DS := dForR2 (dCons (dBin addF (dVar 5) (dK (.int 1))) (dCons (dAp lenO (dCons (dVar 1) (dNil))) (dNil))) (gNm 6) b_l_pair_3
def b_l_pair_1 : DS := dForR1 (dCons (dAp lenO (dCons (dVar 1) (dNil))) (dNil)) (gNm 5) b_l_pair_2
def b_l_pair : DS := dSeq (dForL (dAp tupO (dCons (dK (.bl false)) (dCons (dK (.bl true)) (dNil)))) (gNm 4) b_l_pair_1) (dRet (dK .non))
def F_l_pair : DF := runF 4 12 true b_l_pair
def d_l_pair : He.DefD := ⟨("_law_pair", none), "_law_pair", "_law_pair", defArgs s_l_pair, defBody s_l_pair, defScope s_l_pair, [], []⟩
abbrev s_l_asked : Stmt := top 39
def b_l_asked : DS := dSeq (dAsg (dAp listF (dCons (dVar 2) (dNil))) (gNm 5)) (dSeq (dAsg (dCall F_l_told (dCons (dVar 0) (dCons (dVar 1) (dCons (dVar 5) (dCons (dVar 3) (dCons (dVar 4) (dNil))))))) (gNm 6)) (dSeq (dIf (dTru (dBin neO (dVar 5) (dVar 2))) (dRet (dK (.bl false))) (dSkip)) (dSeq (dIf (dTru (dCall F_l_free (dCons (dVar 1) (dCons (dVar 2) (dCons (dVar 3) (dCons (dVar 4) (dNil))))))) (dRet (dBin isNO (dVar 6) (dK .non))) (dSkip)) (dRet (dAndV (dUn (isiO "tuple") (dVar 6)) (dBin eqO (dVar 6) (dCall F_l_pair (dCons (dVar 1) (dCons (dVar 2) (dCons (dVar 3) (dCons (dVar 4) (dNil))))))))))))
def F_l_asked : DF := runF 5 7 true b_l_asked
def d_l_asked : He.DefD := ⟨("_law_asked", none), "_law_asked", "_law_asked", defArgs s_l_asked, defBody s_l_asked, defScope s_l_asked, [], []⟩
abbrev s_first_clash : Stmt := top 16
def b_first_clash_2 : DS := dIf (dTru (dBin neO (dBin addF (dVar 3) (dVar 5)) (dBin addF (dVar 5) (dVar 3)))) (dRet (dAp tupO (dCons (dVar 2) (dCons (dVar 4) (dNil))))) (dSkip)
def b_first_clash_1 : DS := dForE (dCons (dVar 1) (dNil)) (gTp [gNm 4, gNm 5]) b_first_clash_2
def b_first_clash : DS := dSeq (dForE (dCons (dVar 0) (dNil)) (gTp [gNm 2, gNm 3]) b_first_clash_1) (dRet (dK .non))
def F_first_clash : DF := runF 2 6 true b_first_clash
def d_first_clash : He.DefD := ⟨("first_clash", none), "first_clash", "first_clash", defArgs s_first_clash, defBody s_first_clash, defScope s_first_clash, [], []⟩
abbrev s_free_shuffles : Stmt := top 17
def b_free_shuffles : DS := dSeq (dEx (dCall F_kind_named (dCons (dVar 0) (dNil)))) (dSeq (dAsg (dAp tupO (dCons (dCall F_word_of (dCons (dBin addF (dVar 1) (dVar 2)) (dCons (dVar 3) (dCons (dVar 4) (dNil))))) (dCons (dCall F_word_of (dCons (dBin addF (dVar 2) (dVar 1)) (dCons (dVar 3) (dCons (dVar 4) (dNil))))) (dNil)))) (gNm 5)) (dSeq (dIf (dTru (dBin eqO (dVar 0) (dK (.str "list")))) (dSeq (dAsg (dCall F_first_clash (dCons (dVar 1) (dCons (dVar 2) (dNil)))) (gNm 6)) (dSeq (dIf (dTru (dBin isNO (dVar 6) (dK .non))) (dRet (dK .non)) (dSkip)) (dSeq (dAsg (dVar 6) (gTp [gNm 7, gNm 8])) (dSeq (dPar 9 10 (dCons (dBin addF (dSlF (dVar 1) (dNoPart) (dPart (dVar 7))) (dSlF (dVar 2) (dNoPart) (dPart (dVar 8)))) (dCons (dBin addF (dSlF (dVar 1) (dPart (dBin addF (dVar 7) (dK (.int 1)))) (dNoPart)) (dSlF (dVar 2) (dPart (dBin addF (dVar 8) (dK (.int 1)))) (dNoPart))) (dNil)))) (dSeq (dPar 11 12 (dCons (dBin addF (dBin addF (dVar 9) (dAp lstF (dCons (dBin ixO (dVar 1) (dVar 7)) (dCons (dBin ixO (dVar 2) (dVar 8)) (dNil))))) (dVar 10)) (dCons (dBin addF (dBin addF (dVar 9) (dAp lstF (dCons (dBin ixO (dVar 2) (dVar 8)) (dCons (dBin ixO (dVar 1) (dVar 7)) (dNil))))) (dVar 10)) (dNil)))) (dAsg (dAp tupO (dCons (dCall F_word_of (dCons (dVar 11) (dCons (dVar 3) (dCons (dVar 4) (dNil))))) (dCons (dCall F_word_of (dCons (dVar 12) (dCons (dVar 3) (dCons (dVar 4) (dNil))))) (dNil)))) (gNm 5))))))) (dSkip)) (dSeq (dIf (dTru (dCall F_alike (dCons (dVar 0) (dCons (dBin ixO (dVar 5) (dK (.int 0))) (dCons (dBin ixO (dVar 5) (dK (.int 1))) (dNil)))))) (dRet (dK .non)) (dSkip)) (dRet (dVar 5)))))
def F_free_shuffles : DF := runF 5 13 true b_free_shuffles
def d_free_shuffles : He.DefD := ⟨("free_shuffles", none), "free_shuffles", "free_shuffles", defArgs s_free_shuffles, defBody s_free_shuffles, defScope s_free_shuffles, [], [("before", .adr (kwdAt ("free_shuffles", none) "before")), ("after", .adr (kwdAt ("free_shuffles", none) "after"))]⟩
abbrev s_l_twos : Stmt := top 40
def b_l_twos_2 : DS := dSeq (dAsg (dCallK F_free_shuffles 3 2 [.kw 0, .kw 1] [] (dCons (dVar 0) (dCons (dAp lstF (dCons (dBin ixO (dVar 1) (dVar 5)) (dNil))) (dCons (dAp lstF (dCons (dBin ixO (dVar 1) (dVar 4)) (dNil))) (dNil)))) (dCons (dVar 2) (dCons (dVar 3) (dNil)))) (gNm 6)) (dIf (dTru (dBin notNO (dVar 6) (dK .non))) (dRet (dK (.bl false))) (dSkip))
def b_l_twos_1 : DS := dForR1 (dCons (dVar 4) (dNil)) (gNm 5) b_l_twos_2
def b_l_twos : DS := dSeq (dForR1 (dCons (dAp lenO (dCons (dVar 1) (dNil))) (dNil)) (gNm 4) b_l_twos_1) (dRet (dK (.bl true)))
def F_l_twos : DF := runF 4 7 true b_l_twos
def d_l_twos : He.DefD := ⟨("_law_twos", none), "_law_twos", "_law_twos", defArgs s_l_twos, defBody s_l_twos, defScope s_l_twos, [], []⟩
abbrev s_l_good : Stmt := top 42
def b_l_good : DS := dSeq (dAsg (dCall F_l_free (dCons (dVar 1) (dCons (dVar 2) (dCons (dVar 3) (dCons (dVar 4) (dNil)))))) (gNm 7)) (dSeq (dAsg (dLcLZ (dVar 5) 9 (dYes) (dCall F_l_plain (dCons (dVar 1) (dCons (dVar 9) (dNil))))) (gNm 8)) (dSeq (dIf (dAnd (dTru (dBin gtO (dAp lenO (dCons (dVar 8) (dNil))) (dK (.int 0)))) (dTru (dBin neO (dAp allO (dCons (dLcLZ (dVar 8) 11 (dYes) (dBin eqO (dVar 11) (dBin ixO (dVar 8) (dK (.int 0))))) (dNil))) (dVar 7)))) (dRet (dK (.bl false))) (dSkip)) (dSeq (dIf (dNot (dTru (dAp allO (dCons (dLcLZ (dVar 6) 10 (dYes) (dCall F_l_asked (dCons (dVar 0) (dCons (dVar 1) (dCons (dVar 10) (dCons (dVar 3) (dCons (dVar 4) (dNil)))))))) (dNil))))) (dRet (dK (.bl false))) (dSkip)) (dRet (dBin eqO (dCall F_l_twos (dCons (dVar 1) (dCons (dVar 2) (dCons (dVar 3) (dCons (dVar 4) (dNil)))))) (dVar 7))))))
def F_l_good : DF := runF 7 12 true b_l_good
def d_l_good : He.DefD := ⟨("_law_good", none), "_law_good", "_law_good", defArgs s_l_good, defBody s_l_good, defScope s_l_good, [], []⟩
abbrev s_l_refused : Stmt := top 41
def b_l_refused_1 : DS := dEx (dCallK F_free_orders 2 0 [.df 0, .df 1] [.tup [], .tup []] (dCons (dVar 0) (dCons (dAp listF (dCons (dVar 1) (dNil))) (dNil))) (dNil))
def x_l_refused_1 (c : Str) (fs : Option (List (Str × P))) : DS := dSeq (dAsg (dK (.bl true)) (gNm 2)) (dAsg (dXf ["BadKind"] "name" c fs) (gNm 3))
def b_l_refused : DS := dSeq (dAsg (dK (.bl false)) (gNm 2)) (dSeq (dAsg (dK (.str "")) (gNm 3)) (dSeq (dTryAs [("BadKind", true)] 4 b_l_refused_1 x_l_refused_1) (dRet (dAndV (dVar 2) (dBin eqO (dVar 3) (dVar 0))))))
def F_l_refused : DF := runF 2 5 true b_l_refused
def d_l_refused : He.DefD := ⟨("_law_refused", none), "_law_refused", "_law_refused", defArgs s_l_refused, defBody s_l_refused, defScope s_l_refused, [], []⟩
abbrev s_law : Stmt := top 43
def b_law_1 : DS := dIf (dNot (dTru (dCall F_l_good (dCons (dVar 7) (dCons (dVar 12) (dCons (dVar 4) (dCons (dVar 5) (dCons (dVar 6) (dCons (dVar 9) (dCons (dVar 11) (dNil))))))))))) (dRet (dK (.bl false))) (dSkip)
def b_law : DS := dSeq (dAsg (dCall F_l_stream (dCons (dVar 0) (dNil))) (gNm 1)) (dSeq (dAsg (dCall F_l_draw (dCons (dVar 1) (dCons (dK (.int 6)) (dNil)))) (gNm 2)) (dSeq (dAsg (dBin ixO (dAp lstF (dCons (dK (.int 1)) (dCons (dK (.int 2)) (dCons (dK (.int 2)) (dCons (dK (.int 3)) (dCons (dK (.int 3)) (dCons (dK (.int 3)) (dCons (dK (.int 4)) (dCons (dK (.int 4)) (dCons (dK (.int 5)) (dCons (dK (.int 12)) (dNil)))))))))))) (dCall F_l_draw (dCons (dVar 1) (dCons (dK (.int 10)) (dNil))))) (gNm 3)) (dSeq (dAsg (dCall F_l_drawn (dCons (dVar 1) (dCons (dVar 3) (dCons (dVar 2) (dNil))))) (gNm 4)) (dSeq (dAsg (dCall F_l_around (dCons (dVar 1) (dCons (dVar 2) (dNil)))) (gNm 5)) (dSeq (dAsg (dCall F_l_around (dCons (dVar 1) (dCons (dVar 2) (dNil)))) (gNm 6)) (dSeq (dAsg (dCall F_l_draw (dCons (dVar 1) (dCons (dK (.int 4)) (dNil)))) (gNm 7)) (dSeq (dIf (dTru (dBin gtO (dVar 7) (dK (.int 1)))) (dAsg (dAp tupO (dNil)) (gNm 5)) (dSkip)) (dSeq (dIf (dOr (dTru (dBin eqO (dVar 7) (dK (.int 1)))) (dTru (dBin eqO (dVar 7) (dK (.int 3))))) (dAsg (dAp tupO (dNil)) (gNm 6)) (dSkip)) (dSeq (dAsg (dAp tupO (dCons (dK (.str "list")) (dCons (dK (.str "bag")) (dCons (dK (.str "set")) (dCons (dK (.str "first")) (dCons (dK (.str "last")) (dCons (dK (.str "ends")) (dCons (dK (.str "heads")) (dCons (dK (.str "tails")) (dNil)))))))))) (gNm 8)) (dSeq (dAsg (dAp lstF (dNil)) (gNm 9)) (dSeq (dIf (dTru (dBin gtO (dVar 3) (dK (.int 5)))) (dAsg (dAp tupO (dCons (dBin ixO (dVar 8) (dCall F_l_draw (dCons (dVar 1) (dCons (dK (.int 8)) (dNil))))) (dNil))) (gNm 8)) (dAsg (dLcLZ (dCall F_l_orders (dCons (dVar 3) (dNil))) 13 (dYes) (dBin addF (dBin addF (dVar 5) (dCall F_l_joined (dCons (dLcLZ (dVar 13) 14 (dYes) (dBin ixO (dVar 4) (dVar 14))) (dNil)))) (dVar 6))) (gNm 9))) (dSeq (dAsg (dCall F_l_draw (dCons (dVar 1) (dCons (dVar 3) (dNil)))) (gNm 10)) (dSeq (dAsg (dAp lstO (dCons (dVar 4) (dCons (dBin addF (dSlF (dVar 4) (dPart (dK (.int 1))) (dNoPart)) (dSlF (dVar 4) (dNoPart) (dPart (dK (.int 1))))) (dNil)))) (gNm 11)) (dSeq (dIf (dTru (dBin gtO (dVar 3) (dK (.int 1)))) (dEx (dBM isLst appendO (dVar 11) (dCons (dBin addF (dSlF (dVar 4) (dNoPart) (dPart (dVar 10))) (dSlF (dVar 4) (dPart (dBin addF (dVar 10) (dK (.int 1)))) (dNoPart))) (dNil)))) (dSkip)) (dSeq (dForL (dVar 8) (gNm 12) b_law_1) (dRet (dCall F_l_refused (dCons (dBin ixO (dAp lstF (dCons (dK (.str "")) (dCons (dK (.str "Bag")) (dCons (dK (.str "heads ")) (dCons (dK (.str "tail")) (dCons (dK (.str "first last")) (dCons (dK .non) (dCons (dK (.int 8)) (dNil))))))))) (dCall F_l_draw (dCons (dVar 1) (dCons (dK (.int 7)) (dNil))))) (dCons (dVar 4) (dNil))))))))))))))))))))
def F_law : DF := runF 1 15 true b_law
def d_law : He.DefD := ⟨("law", none), "law", "law", defArgs s_law, defBody s_law, defScope s_law, [], []⟩
def defs : List He.DefD := ((d_l_stream) :: (d_l_draw) :: (d_l_wide) :: (d_l_value) :: (d_l_word) :: (d_l_parcel) :: (d_l_drawn) :: (d_l_around) :: (d_l_orders) :: (d_l_joined) :: (d_l_chained) :: (d_l_new) :: (d_l_rear) :: (d_l_two) :: (d_l_free) :: (d_l_plain) :: (d_kind_named) :: (d_exchanged) :: (d_word_of) :: (d_Kind_keep) :: (d_Kind_plain) :: (d_alike) :: (d_free_orders) :: (d_l_told) :: (d_l_pair) :: (d_l_asked) :: (d_first_clash) :: (d_free_shuffles) :: (d_l_twos) :: (d_l_good) :: (d_l_refused) :: (d_law) :: [])
def cdefs : List DefC := [d_BadKind_init, d_BagKind_keep, d_SetKind_keep, d_HeadsKind_keep, d_FirstKind_keep, d_TailsKind_keep, d_LastKind_keep, d_EndsKind_keep]
def frees : List Str := ["super", "abs", "int", "range", "enumerate", "len", "tuple", "min", "list", "sorted", "all", "isinstance"]
def glos : List Str := (("_law_stream") :: ("_law_draw") :: ("_law_wide") :: ("_law_value") :: ("_law_word") :: ("_law_parcel") :: ("_law_drawn") :: ("_law_around") :: ("_law_orders") :: ("_law_joined") :: ("_law_new") :: ("_law_chained") :: ("_law_rear") :: ("_law_two") :: ("_law_free") :: ("_law_plain") :: ("BadKind") :: ("TailsKind") :: ("HeadsKind") :: ("EndsKind") :: ("LastKind") :: ("FirstKind") :: ("SetKind") :: ("BagKind") :: ("Kind") :: ("kind_named") :: ("exchanged") :: ("word_of") :: ("alike") :: ("free_orders") :: ("_law_told") :: ("_law_pair") :: ("_law_asked") :: ("first_clash") :: ("free_shuffles") :: ("_law_twos") :: ("_law_good") :: ("_law_refused") :: ("law") :: [])
def fas0 : List He.Fa := [.cls "EndsKind", .meth "EndsKind" "keep", .cls "LastKind", .meth "LastKind" "keep", .cls "TailsKind", .meth "TailsKind" "keep", .cls "FirstKind", .meth "FirstKind" "keep", .cls "HeadsKind", .meth "HeadsKind" "keep", .cls "SetKind", .meth "SetKind" "keep", .cls "BagKind", .meth "BagKind" "keep", .cls "Kind", .meth "Kind" "keep", .meth "EndsKind" "plain", .meth "LastKind" "plain", .meth "TailsKind" "plain", .meth "FirstKind" "plain", .meth "HeadsKind" "plain", .meth "SetKind" "plain", .meth "BagKind" "plain", .meth "Kind" "plain", .exm "BadKind" "BadKind" true, .noat "BadKind" "name"]
def fas : List He.Fa := fas0 ++ (frees.map He.Fa.free ++ glos.map He.Fa.glo)
def cks : List Ck := ((.opq) :: (.xcls "BadKind") :: (.xini "BadKind" "name") :: (.xat "BadKind") :: (.mk0 "TailsKind") :: (.mk0 "HeadsKind") :: (.mk0 "EndsKind") :: (.mk0 "LastKind") :: (.mk0 "FirstKind") :: (.mk0 "SetKind") :: (.mk0 "BagKind") :: (.mk0 "Kind") :: (.supm "SetKind" "BagKind" "keep" "Kind") :: (.supm "BagKind" "BagKind" "keep" "Kind") :: (.tab ("BagKind", some "keep")) :: (.supm "SetKind" "SetKind" "keep" "BagKind") :: (.supm "FirstKind" "HeadsKind" "keep" "Kind") :: (.supm "HeadsKind" "HeadsKind" "keep" "Kind") :: (.supm "FirstKind" "FirstKind" "keep" "HeadsKind") :: (.supm "LastKind" "TailsKind" "keep" "Kind") :: (.supm "TailsKind" "TailsKind" "keep" "Kind") :: (.supm "LastKind" "LastKind" "keep" "TailsKind") :: (.supm "EndsKind" "EndsKind" "keep" "Kind") :: (.same "EndsKind" "EndsKind" "keep") :: (.same "LastKind" "LastKind" "keep") :: (.same "TailsKind" "TailsKind" "keep") :: (.same "FirstKind" "FirstKind" "keep") :: (.same "HeadsKind" "HeadsKind" "keep") :: (.same "SetKind" "SetKind" "keep") :: (.same "BagKind" "BagKind" "keep") :: (.same "Kind" "Kind" "keep") :: (.same "EndsKind" "Kind" "plain") :: (.same "LastKind" "Kind" "plain") :: (.same "TailsKind" "Kind" "plain") :: (.same "FirstKind" "Kind" "plain") :: (.same "HeadsKind" "Kind" "plain") :: (.same "SetKind" "Kind" "plain") :: (.same "BagKind" "Kind" "plain") :: (.same "Kind" "Kind" "plain") :: (.any fun K => repB K (.tup []) (.ref (kwdAt ("free_orders", none) "after" K))) :: (.any fun K => repB K (.tup []) (.ref (kwdAt ("free_orders", none) "before" K))) :: [])
def want : Wants := { fa := fas, ck := cks, fn := defs, cf := cdefs, file := PySem.Challenge.pw_movedstates_k39_free_orders_exactly.main.file }
structure Tp (P : Program) (K : PySem.W.Frag) (mg : Str → Option Value) (base : Heap) : Prop where
  says : ∃ h, SaysM want K h
  free_ : ∀ (i : Nat) (x : Str), frees[i]? = some x → mg x = none
  glo_ : ∀ (i : Nat) (x : Str), glos[i]? = some x → mg x = some (.ref (He.ga K x))
  tabs : ∀ t ∈ tabsAll K, LamX.TabB base mg t.1 t.2.1
  file : ((P.main.file : Str) == want.file) = true
  sup : (P.main.scope.names.lookup ("super" : Str)).isSome = false
section
variable {P : Program} {w : World} {K : PySem.W.Frag} {mg : Str → Option Value} {base : Heap}
theorem Tp.free (T : Tp P K mg base) (i : Nat) {x : Str} (h : frees[i]? = some x := by rfl) : mg x = none := T.free_ i x h
theorem Tp.glo (T : Tp P K mg base) (i : Nat) {x : Str} (h : glos[i]? = some x := by rfl) : mg x = some (.ref (He.ga K x)) := T.glo_ i x h
theorem Tp.fn (T : Tp P K mg base) (i : Nat) (d : He.DefD) (e : defs[i]? = some d) : ∃ fd, FunD K d.name d.qual d.params d.body d.scope (d.dvs K) (d.kws K) (He.fAd K d.at_) fd := let ⟨_, s⟩ := T.says; s.d.def_ i e
theorem Tp.fac (T : Tp P K mg base) (i : Nat) {f : He.Fa} (e : fas[i]? = some f := by rfl) : f.ok K = true := let ⟨_, s⟩ := T.says; s.d.fact i e
theorem Tp.ckf (T : Tp P K mg base) (i : Nat) {c : Ck} (e : cks[i]? = some c := by rfl) : c.ok K = true := let ⟨_, s⟩ := T.says; s.ckf i e
theorem Tp.fnc (T : Tp P K mg base) (i : Nat) (d : DefC) (e : cdefs[i]? = some d) {par : Str} (hp : ∃ ar, (d.params.posonlyargs ++ d.params.args).head? = some ar ∧ ar.arg = par) : ∃ fd cda cc, FunC K P mg d.name d.qual d.params d.body d.scope par (He.ga K d.cls) (He.fAd K d.at_) fd cda cc ∧ ∃ oc od osl, K.lookup (He.fAd K d.at_) = some ⟨oc, od, .func fd, osl⟩ :=
  let ⟨_, s⟩ := T.says; let ⟨e1, e2⟩ := s.fnc i e; DefC.funC e1 e2 T.file (opq_ok (T.ckf 0)) T.sup (T.free 0) hp
theorem Tp.tab (T : Tp P K mg base) {d : DefC} {fd : FuncData} {cda : Addr} (h : fd.qualname = d.qual ∧ fd.code = .ref cda ∧ ∃ oc od osl, K.lookup (He.fAd K d.at_) = some ⟨oc, od, .func fd, osl⟩) (hl : lamDefs.contains d.qual = true) (hc : (Ck.tab d.at_).ok K = true) :
    ∃ P, LamX.TabB base mg cda P ∧ (P, d.qual ++ ".<locals>." ++ "<lambda>") ∈ tabsOf K ∧ ∀ p ∈ tabsOf K, p.1 = P → p.2 = d.qual ++ ".<locals>." ++ "<lambda>" := by
  obtain ⟨_, s⟩ := T.says
  exact tab_at h hl hc T.tabs fun t ht => (s.th t ht).2.2.2

theorem xok_BadKind (T : Tp P K mg base) : XOk P K mg "BadKind" "BadKind" "name" :=
  xok_of (d := d_BadKind_init) (f := "name") (T.fnc 0 d_BadKind_init rfl ⟨_, rfl, rfl⟩) rfl rfl rfl ⟨rfl, rfl, rfl, by decide +kernel, rfl, rfl, rfl, rfl, by decide, by decide⟩ (T.ckf 1) (T.ckf 2) (T.ckf 3) (T.glo 16) (fun _ => rfl) (fun _ _ _ _ _ _ _ _ _ _ => .of_eq rfl)
theorem sc_l_stream : FnScope ["_law_script", "_law_pairs", "_law_at", "_law_cell", "_law_rest", "_law_k"] ["_law_script"] (defScope s_l_stream) := ⟨rfl, rfl, rfl, by decide +kernel, rfl, by decide +kernel, by decide +kernel⟩
theorem ok_l_stream (T : Tp P K mg base) : Okd P w K mg base 1 ("_law_stream", none) ["_law_script"] F_l_stream :=
  okd_of (k := 0) (d := d_l_stream) (N := ["_law_script", "_law_pairs", "_law_at", "_law_cell", "_law_rest", "_law_k"]) rfl rfl (T.fn 0 d_l_stream rfl) sc_l_stream rfl rfl (fun _ _ _ _ _ _ us hl => match us, hl with | [_], _ => rfl) fun f cdv A outer s H E hr hp tk =>
    ds_cons (ds_set (i := 1) sc_l_stream.nd (de_lst (da_nil)))
    (ds_cons (ds_forE hp rfl (by rfl) (T.free 4) (da_cons (de_sl (de_var 0) (do_none) (do_some (de_int))) (da_nil)) (dg_tup rfl (dgs_cons (dg_name (i := 2) sc_l_stream.nd) (dgs_cons (dg_name (i := 3) sc_l_stream.nd) (dgs_nil)))) (ds_cons (ds_set (i := 4) sc_l_stream.nd (de_callB c_abs (by rfl) (T.free 1) bt_abs (da_cons (de_var 3) (da_nil))))
    (ds_cons (ds_if (dt_cmp o_lt (de_var 4) (de_int)) (ds_cons (ds_set (i := 4) sc_l_stream.nd (de_bin o_mod (de_callTy c_int1 (by rfl) (T.free 2) bt_int (da_cons (de_bin o_mul (de_var 4) (de_bin o_add (de_bin o_add (de_int) (de_bin o_mul (de_int) (de_var 2))) (de_callTy c_int1 (by rfl) (T.free 2) bt_int (da_cons (de_cmp o_lt (de_var 3) (de_int)) (da_nil))))) (da_nil))) (de_int)))
    (ds_one (ds_set (i := 4) sc_l_stream.nd (de_bin o_mod (de_callTy c_int1 (by rfl) (T.free 2) bt_int (da_cons (de_bin o_mul (de_var 4) (de_bin o_add (de_var 4) (de_int))) (da_nil))) (de_int))))) (ds_nil))
    (ds_one (ds_forR1 hp rfl (by rfl) (T.free 3) (da_cons (de_int) (da_nil)) (dg_name (i := 5) sc_l_stream.nd) (ds_cons (ds_expr (de_append (de_var 1) (da_cons (de_bin o_mod (de_callTy c_int1 (by rfl) (T.free 2) bt_int (da_cons (de_var 4) (da_nil))) (de_int)) (da_nil))))
    (ds_cons (ds_set (i := 4) sc_l_stream.nd (de_bin o_fdiv (de_var 4) (de_int)))
    (ds_one (ds_if (dt_cmp (o_eq hr.u64) (de_var 4) (de_int)) (ds_one (ds_brk)) (ds_nil))))))))))
    (ds_cons (ds_expr (de_reverse (de_var 1)))
    (ds_one (ds_ret (de_var 1)))))
theorem ok_l_stream_f (T : Tp P K mg base) : Okd P w K mg base 1 ("_law_stream", none) ["_law_script"] F_l_stream_f :=
  okd_of (k := 0) (d := d_l_stream) (N := ["_law_script", "_law_pairs", "_law_at", "_law_cell", "_law_rest", "_law_k"]) rfl rfl (T.fn 0 d_l_stream rfl) sc_l_stream rfl rfl (fun _ _ _ _ _ _ us hl => match us, hl with | [_], _ => rfl) fun f cdv A outer s H E hr hp tk =>
    ds_cons (ds_set (i := 1) sc_l_stream.nd (de_lst (da_nil)))
    (ds_cons (ds_forE hp rfl (by rfl) (T.free 4) (da_cons (de_sl (de_var 0) (do_none) (do_some (de_int))) (da_nil)) (dg_tup rfl (dgs_cons (dg_name (i := 2) sc_l_stream.nd) (dgs_cons (dg_name (i := 3) sc_l_stream.nd) (dgs_nil)))) (ds_cons (ds_set (i := 4) sc_l_stream.nd (de_callB c_abs (by rfl) (T.free 1) bt_abs (da_cons (de_var 3) (da_nil))))
    (ds_cons (ds_if (dt_cmp o_lt (de_var 4) (de_int)) (ds_cons (ds_set (i := 4) sc_l_stream.nd (de_bin o_mod (de_callTy c_int1 (by rfl) (T.free 2) bt_int (da_cons (de_bin o_mul (de_var 4) (de_bin o_add (de_bin o_add (de_int) (de_bin o_mul (de_int) (de_var 2))) (de_callTy c_int1 (by rfl) (T.free 2) bt_int (da_cons (de_cmp o_lt (de_var 3) (de_int)) (da_nil))))) (da_nil))) (de_int)))
    (ds_one (ds_set (i := 4) sc_l_stream.nd (de_bin o_mod (de_callTy c_int1 (by rfl) (T.free 2) bt_int (da_cons (de_bin o_mul (de_var 4) (de_bin o_add (de_var 4) (de_int))) (da_nil))) (de_int))))) (ds_nil))
    (ds_one (ds_forR1 hp rfl (by rfl) (T.free 3) (da_cons (de_int) (da_nil)) (dg_name (i := 5) sc_l_stream.nd) (ds_cons (ds_expr (de_append (de_var 1) (da_cons (de_bin o_mod (de_callTy c_int1 (by rfl) (T.free 2) bt_int (da_cons (de_var 4) (da_nil))) (de_int)) (da_nil))))
    (ds_cons (ds_set (i := 4) sc_l_stream.nd (de_bin o_fdiv (de_var 4) (de_int)))
    (ds_one (ds_if (dt_cmp (o_eq hr.u64) (de_var 4) (de_int)) (ds_one (ds_brk)) (ds_nil))))))))))
    (ds_cons (ds_expr (de_reverse (de_var 1)))
    (ds_one (ds_ret (de_var 1)))))
theorem sc_l_draw : FnScope ["_law_stream_here", "_law_many"] ["_law_stream_here", "_law_many"] (defScope s_l_draw) := ⟨rfl, rfl, rfl, by decide +kernel, rfl, by decide +kernel, by decide +kernel⟩
theorem ok_l_draw (T : Tp P K mg base) : Okd P w K mg base 1 ("_law_draw", none) ["_law_stream_here", "_law_many"] F_l_draw :=
  okd_of (k := 0) (d := d_l_draw) (N := ["_law_stream_here", "_law_many"]) rfl rfl (T.fn 1 d_l_draw rfl) sc_l_draw rfl rfl (fun _ _ _ _ _ _ us hl => match us, hl with | [_, _], _ => rfl) fun f cdv A outer s H E hr hp tk =>
    ds_cons (ds_if (dt_cmp (o_eq hr.u64) (de_callB c_len (by rfl) (T.free 5) bt_len (da_cons (de_var 0) (da_nil))) (de_int)) (ds_one (ds_ret (de_int))) (ds_nil))
    (ds_one (ds_ret (de_bin o_mod (de_callTy c_int1 (by rfl) (T.free 2) bt_int (da_cons (de_pop0 (de_var 0)) (da_nil))) (de_var 1))))
theorem sc_l_wide : FnScope ["_law_stream_here", "_law_size", "_law_k"] ["_law_stream_here"] (defScope s_l_wide) := ⟨rfl, rfl, rfl, by decide +kernel, rfl, by decide +kernel, by decide +kernel⟩
theorem ok_l_wide (T : Tp P K mg base) : Okd P w K mg base 2 ("_law_wide", none) ["_law_stream_here"] F_l_wide :=
  okd_of (k := 1) (d := d_l_wide) (N := ["_law_stream_here", "_law_size", "_law_k"]) rfl rfl (T.fn 2 d_l_wide rfl) sc_l_wide rfl rfl (fun _ _ _ _ _ _ us hl => match us, hl with | [_], _ => rfl) fun f cdv A outer s H E hr hp tk =>
    ds_cons (ds_set (i := 1) sc_l_wide.nd (de_int))
    (ds_cons (ds_forR1 hp rfl (by rfl) (T.free 3) (da_cons (de_int) (da_nil)) (dg_name (i := 2) sc_l_wide.nd) (ds_one (ds_set (i := 1) sc_l_wide.nd (de_bin o_add (de_bin o_mul (de_var 1) (de_int)) (de_callG tk (ok_l_draw T) hr (T.glo 1) (da_cons (de_var 0) (da_cons (de_int) (da_nil))))))))
    (ds_cons (ds_if (dt_cmp (o_eq hr.u64) (de_callG tk (ok_l_draw T) hr (T.glo 1) (da_cons (de_var 0) (da_cons (de_int) (da_nil)))) (de_int)) (ds_one (ds_ret (de_un o_neg (de_var 1)))) (ds_nil))
    (ds_one (ds_ret (de_var 1)))))
theorem sc_l_value : FnScope ["_law_stream_here", "_law_style"] ["_law_stream_here", "_law_style"] (defScope s_l_value) := ⟨rfl, rfl, rfl, by decide +kernel, rfl, by decide +kernel, by decide +kernel⟩
theorem ok_l_value (T : Tp P K mg base) : Okd P w K mg base 3 ("_law_value", none) ["_law_stream_here", "_law_style"] F_l_value :=
  okd_of (k := 2) (d := d_l_value) (N := ["_law_stream_here", "_law_style"]) rfl rfl (T.fn 3 d_l_value rfl) sc_l_value rfl rfl (fun _ _ _ _ _ _ us hl => match us, hl with | [_, _], _ => rfl) fun f cdv A outer s H E hr hp tk =>
    ds_cons (ds_if (dt_cmp o_lt (de_var 1) (de_int)) (ds_one (ds_ret (de_callG tk (ok_l_draw T) hr (T.glo 1) (da_cons (de_var 0) (da_cons (de_int) (da_nil)))))) (ds_nil))
    (ds_cons (ds_if (dt_cmp (o_eq hr.u64) (de_var 1) (de_int)) (ds_one (ds_ret (de_callG tk (ok_l_draw T) hr (T.glo 1) (da_cons (de_var 0) (da_cons (de_int) (da_nil)))))) (ds_nil))
    (ds_cons (ds_if (dt_cmp (o_eq hr.u64) (de_var 1) (de_int)) (ds_one (ds_ret (de_bin o_sub (de_callG tk (ok_l_draw T) hr (T.glo 1) (da_cons (de_var 0) (da_cons (de_int) (da_nil)))) (de_callG tk (ok_l_draw T) hr (T.glo 1) (da_cons (de_var 0) (da_cons (de_int) (da_nil))))))) (ds_nil))
    (ds_cons (ds_if (dt_cmp (o_eq hr.u64) (de_var 1) (de_int)) (ds_one (ds_ret (de_bin o_mul (de_bin o_sub (de_callG tk (ok_l_draw T) hr (T.glo 1) (da_cons (de_var 0) (da_cons (de_int) (da_nil)))) (de_callG tk (ok_l_draw T) hr (T.glo 1) (da_cons (de_var 0) (da_cons (de_int) (da_nil))))) (de_int)))) (ds_nil))
    (ds_one (ds_ret (de_callG tk (ok_l_wide T) hr (T.glo 2) (da_cons (de_var 0) (da_nil))))))))
theorem sc_l_word : FnScope ["_law_stream_here", "_law_size", "_law_style", "_law_k"] ["_law_stream_here", "_law_size", "_law_style"] (defScope s_l_word) := ⟨rfl, rfl, rfl, by decide +kernel, rfl, by decide +kernel, by decide +kernel⟩
theorem ok_l_word (T : Tp P K mg base) : Okd P w K mg base 4 ("_law_word", none) ["_law_stream_here", "_law_size", "_law_style"] F_l_word :=
  okd_of (k := 3) (d := d_l_word) (N := ["_law_stream_here", "_law_size", "_law_style", "_law_k"]) rfl rfl (T.fn 4 d_l_word rfl) sc_l_word rfl rfl (fun _ _ _ _ _ _ us hl => match us, hl with | [_, _, _], _ => rfl) fun f cdv A outer s H E hr hp tk =>
    ds_one (ds_ret (de_callTy c_tuple (by rfl) (T.free 6) bt_tuple (da_cons (de_lcR1 rfl sc_l_word.nd (by rfl) (T.free 3) (da_cons (de_var 1) (da_nil)) (blkOk_by (N := ["_law_stream_here", "_law_size", "_law_style", "_law_k"]) (sc := defScope s_l_word) (by decide +kernel)) (fun _ _ _ _ _ => pg_name (i := 3) sc_l_word.nd rfl (Or.inl rfl)) (fun _ _ _ _ _ => dts_nil) (fun _ _ _ _ _ => de_callG takes0 (ok_l_value T) hr (T.glo 3) (da_cons (de_var 0) (da_cons (de_var 2) (da_nil))))) (da_nil))))
theorem sc_l_parcel : FnScope ["_law_stream_here", "_law_style", "_law_shape", "_law_stem", "_law_size"] ["_law_stream_here", "_law_style", "_law_shape", "_law_stem"] (defScope s_l_parcel) := ⟨rfl, rfl, rfl, by decide +kernel, rfl, by decide +kernel, by decide +kernel⟩
theorem ok_l_parcel (T : Tp P K mg base) : Okd P w K mg base 5 ("_law_parcel", none) ["_law_stream_here", "_law_style", "_law_shape", "_law_stem"] F_l_parcel :=
  okd_of (k := 4) (d := d_l_parcel) (N := ["_law_stream_here", "_law_style", "_law_shape", "_law_stem", "_law_size"]) rfl rfl (T.fn 5 d_l_parcel rfl) sc_l_parcel rfl rfl (fun _ _ _ _ _ _ us hl => match us, hl with | [_, _, _, _], _ => rfl) fun f cdv A outer s H E hr hp tk =>
    ds_cons (ds_set (i := 4) sc_l_parcel.nd (de_bin o_add (de_int) (de_callG tk (ok_l_draw T) hr (T.glo 1) (da_cons (de_var 0) (da_cons (de_int) (da_nil))))))
    (ds_cons (ds_if ((dw_or (dt_cmp o_lt (de_var 2) (de_int)) (dw_or1 (dt_cmp (o_eq hr.u64) (de_callG tk (ok_l_draw T) hr (T.glo 1) (da_cons (de_var 0) (da_cons (de_int) (da_nil)))) (de_int)))).pt) (ds_one (ds_ret (de_callG tk (ok_l_word T) hr (T.glo 4) (da_cons (de_var 0) (da_cons (de_var 4) (da_cons (de_var 1) (da_nil))))))) (ds_nil))
    (ds_cons (ds_if (dt_cmp (o_eq hr.u64) (de_var 2) (de_int)) (ds_one (ds_ret (de_bin o_mul (de_var 3) (de_callB (c_min2 rfl) (by rfl) (T.free 7) bt_min (da_cons (de_var 4) (da_cons (de_bin o_fdiv (de_int) (de_callB c_len (by rfl) (T.free 5) bt_len (da_cons (de_var 3) (da_nil)))) (da_nil))))))) (ds_nil))
    (ds_cons (ds_if (dt_cmp (o_eq hr.u64) (de_var 2) (de_int)) (ds_one (ds_ret (de_sl (de_var 3) (do_none) (do_some (de_var 4))))) (ds_nil))
    (ds_cons (ds_if (dt_cmp (o_eq hr.u64) (de_var 2) (de_int)) (ds_one (ds_ret (de_sl (de_var 3) (do_some (de_bin o_sub (de_int) (de_var 4))) (do_none)))) (ds_nil))
    (ds_one (ds_ret (de_bin o_add (de_bin o_add (de_sl (de_var 3) (do_none) (do_some (de_int))) (de_callG tk (ok_l_word T) hr (T.glo 4) (da_cons (de_var 0) (da_cons (de_bin o_sub (de_var 4) (de_int)) (da_cons (de_var 1) (da_nil)))))) (de_sl (de_var 3) (do_some (de_un o_neg (de_int))) (do_none)))))))))
theorem sc_l_drawn : FnScope ["_law_stream_here", "_law_many", "_law_style", "_law_shape", "_law_stem", "_law_parcels", "_law_k"] ["_law_stream_here", "_law_many", "_law_style"] (defScope s_l_drawn) := ⟨rfl, rfl, rfl, by decide +kernel, rfl, by decide +kernel, by decide +kernel⟩
theorem ok_l_drawn (T : Tp P K mg base) : Okd P w K mg base 6 ("_law_drawn", none) ["_law_stream_here", "_law_many", "_law_style"] F_l_drawn :=
  okd_of (k := 5) (d := d_l_drawn) (N := ["_law_stream_here", "_law_many", "_law_style", "_law_shape", "_law_stem", "_law_parcels", "_law_k"]) rfl rfl (T.fn 6 d_l_drawn rfl) sc_l_drawn rfl rfl (fun _ _ _ _ _ _ us hl => match us, hl with | [_, _, _], _ => rfl) fun f cdv A outer s H E hr hp tk =>
    ds_cons (ds_set (i := 3) sc_l_drawn.nd (de_callG tk (ok_l_draw T) hr (T.glo 1) (da_cons (de_var 0) (da_cons (de_int) (da_nil)))))
    (ds_cons (ds_set (i := 4) sc_l_drawn.nd (de_callG tk (ok_l_word T) hr (T.glo 4) (da_cons (de_var 0) (da_cons (de_int) (da_cons (de_var 2) (da_nil))))))
    (ds_cons (ds_if (dt_cmp (o_eq hr.u64) (de_var 3) (de_int)) (ds_one (ds_set (i := 4) sc_l_drawn.nd (de_sl (de_var 4) (do_none) (do_some (de_bin o_add (de_int) (de_callG tk (ok_l_draw T) hr (T.glo 1) (da_cons (de_var 0) (da_cons (de_int) (da_nil))))))))) (ds_nil))
    (ds_cons (ds_set (i := 5) sc_l_drawn.nd (de_lst (da_nil)))
    (ds_cons (ds_forR1 hp rfl (by rfl) (T.free 3) (da_cons (de_var 1) (da_nil)) (dg_name (i := 6) sc_l_drawn.nd) (ds_one (ds_expr (de_append (de_var 5) (da_cons (de_callG tk (ok_l_parcel T) hr (T.glo 5) (da_cons (de_var 0) (da_cons (de_var 2) (da_cons (de_var 3) (da_cons (de_var 4) (da_nil)))))) (da_nil))))))
    (ds_one (ds_ret (de_var 5)))))))
theorem sc_l_around : FnScope ["_law_stream_here", "_law_style"] ["_law_stream_here", "_law_style"] (defScope s_l_around) := ⟨rfl, rfl, rfl, by decide +kernel, rfl, by decide +kernel, by decide +kernel⟩
theorem ok_l_around (T : Tp P K mg base) : Okd P w K mg base 5 ("_law_around", none) ["_law_stream_here", "_law_style"] F_l_around :=
  okd_of (k := 4) (d := d_l_around) (N := ["_law_stream_here", "_law_style"]) rfl rfl (T.fn 7 d_l_around rfl) sc_l_around rfl rfl (fun _ _ _ _ _ _ us hl => match us, hl with | [_, _], _ => rfl) fun f cdv A outer s H E hr hp tk =>
    ds_one (ds_ret (de_callG tk (ok_l_word T) hr (T.glo 4) (da_cons (de_var 0) (da_cons (de_ix i_ix (de_lst (da_cons (de_int) (da_cons (de_int) (da_cons (de_int) (da_cons (de_int) (da_nil)))))) (de_callG tk (ok_l_draw T) hr (T.glo 1) (da_cons (de_var 0) (da_cons (de_int) (da_nil))))) (da_cons (de_var 1) (da_nil))))))
theorem sc_l_orders : FnScope ["_law_many", "_law_rows", "_law_turn", "_law_longer", "_law_row", "_law_k"] ["_law_many"] (defScope s_l_orders) := ⟨rfl, rfl, rfl, by decide +kernel, rfl, by decide +kernel, by decide +kernel⟩
theorem ok_l_orders (T : Tp P K mg base) : Okd P w K mg base 1 ("_law_orders", none) ["_law_many"] F_l_orders :=
  okd_of (k := 0) (d := d_l_orders) (N := ["_law_many", "_law_rows", "_law_turn", "_law_longer", "_law_row", "_law_k"]) rfl rfl (T.fn 8 d_l_orders rfl) sc_l_orders rfl rfl (fun _ _ _ _ _ _ us hl => match us, hl with | [_], _ => rfl) fun f cdv A outer s H E hr hp tk =>
    ds_cons (ds_set (i := 1) sc_l_orders.nd (de_lstF (da_cons (de_lstF (da_nil)) (da_nil))))
    (ds_cons (ds_forR1 hp rfl (by rfl) (T.free 3) (da_cons (de_var 0) (da_nil)) (dg_name (i := 2) sc_l_orders.nd) (ds_cons (ds_set (i := 3) sc_l_orders.nd (de_lst (da_nil)))
    (ds_cons (ds_for hp rfl (de_var 1) (dg_name (i := 4) sc_l_orders.nd) (ds_one (ds_forR1 hp rfl (by rfl) (T.free 3) (da_cons (de_var 0) (da_nil)) (dg_name (i := 5) sc_l_orders.nd) (ds_one (ds_if (dt_cmp (o_notIn hr.u65) (de_var 5) (de_var 4)) (ds_one (ds_expr (de_append (de_var 3) (da_cons (de_bin o_addF (de_var 4) (de_lstF (da_cons (de_var 5) (da_nil)))) (da_nil))))) (ds_nil))))))
    (ds_one (ds_set (i := 1) sc_l_orders.nd (de_callTy c_listF (by rfl) (T.free 8) bt_list (da_cons (de_var 3) (da_nil))))))))
    (ds_one (ds_ret (de_var 1))))
theorem sc_l_joined : FnScope ["_law_parcels", "_law_word_here", "_law_parcel_here"] ["_law_parcels"] (defScope s_l_joined) := ⟨rfl, rfl, rfl, by decide +kernel, rfl, by decide +kernel, by decide +kernel⟩
theorem ok_l_joined (T : Tp P K mg base) : Okd P w K mg base 1 ("_law_joined", none) ["_law_parcels"] F_l_joined :=
  okd_of (k := 0) (d := d_l_joined) (N := ["_law_parcels", "_law_word_here", "_law_parcel_here"]) rfl rfl (T.fn 9 d_l_joined rfl) sc_l_joined rfl rfl (fun _ _ _ _ _ _ us hl => match us, hl with | [_], _ => rfl) fun f cdv A outer s H E hr hp tk =>
    ds_cons (ds_set (i := 1) sc_l_joined.nd (de_tup (da_nil)))
    (ds_cons (ds_for hp rfl (de_var 0) (dg_name (i := 2) sc_l_joined.nd) (ds_one (ds_set (i := 1) sc_l_joined.nd (de_bin o_add (de_var 1) (de_var 2)))))
    (ds_one (ds_ret (de_var 1))))
theorem sc_l_chained : FnScope ["_law_kind", "_law_one", "_law_other", "_law_size"] ["_law_kind", "_law_one", "_law_other"] (defScope s_l_chained) := ⟨rfl, rfl, rfl, by decide +kernel, rfl, by decide +kernel, by decide +kernel⟩
theorem ok_l_chained (T : Tp P K mg base) : Okd P w K mg base 1 ("_law_chained", none) ["_law_kind", "_law_one", "_law_other"] F_l_chained :=
  okd_of (k := 0) (d := d_l_chained) (N := ["_law_kind", "_law_one", "_law_other", "_law_size"]) rfl rfl (T.fn 10 d_l_chained rfl) sc_l_chained rfl rfl (fun _ _ _ _ _ _ us hl => match us, hl with | [_, _, _], _ => rfl) fun f cdv A outer s H E hr hp tk =>
    ds_cons (ds_set (i := 3) sc_l_chained.nd (de_callB (c_min2 rfl) (by rfl) (T.free 7) bt_min (da_cons (de_callB c_len (by rfl) (T.free 5) bt_len (da_cons (de_var 1) (da_nil))) (da_cons (de_callB c_len (by rfl) (T.free 5) bt_len (da_cons (de_var 2) (da_nil))) (da_nil)))))
    (ds_cons (ds_if (dt_cmp (o_eq hr.u64) (de_var 0) (de_str)) (ds_one (ds_ret (de_cmp (o_eq hr.u64) (de_slF (de_var 1) (do_none) (do_some (de_var 3))) (de_slF (de_var 2) (do_none) (do_some (de_var 3)))))) (ds_nil))
    (ds_one (ds_ret (de_cmp (o_eq hr.u64) (de_slF (de_var 1) (do_some (de_bin o_sub (de_callB c_len (by rfl) (T.free 5) bt_len (da_cons (de_var 1) (da_nil))) (de_var 3))) (do_none)) (de_slF (de_var 2) (do_some (de_bin o_sub (de_callB c_len (by rfl) (T.free 5) bt_len (da_cons (de_var 2) (da_nil))) (de_var 3))) (do_none))))))
theorem sc_l_new : FnScope ["_law_word_here", "_law_known", "_law_kept", "_law_value_here"] ["_law_word_here", "_law_known"] (defScope s_l_new) := ⟨rfl, rfl, rfl, by decide +kernel, rfl, by decide +kernel, by decide +kernel⟩
theorem ok_l_new (T : Tp P K mg base) : Okd P w K mg base 1 ("_law_new", none) ["_law_word_here", "_law_known"] F_l_new :=
  okd_of (k := 0) (d := d_l_new) (N := ["_law_word_here", "_law_known", "_law_kept", "_law_value_here"]) rfl rfl (T.fn 11 d_l_new rfl) sc_l_new rfl rfl (fun _ _ _ _ _ _ us hl => match us, hl with | [_, _], _ => rfl) fun f cdv A outer s H E hr hp tk =>
    ds_cons (ds_set (i := 2) sc_l_new.nd (de_lst (da_nil)))
    (ds_cons (ds_for hp rfl (de_var 0) (dg_name (i := 3) sc_l_new.nd) (ds_one (ds_if ((dw_and (dt_cmp (o_notIn hr.u65) (de_var 3) (de_var 1)) (dw_and1 (dt_cmp (o_notIn hr.u65) (de_var 3) (de_var 2)))).pt) (ds_one (ds_expr (de_append (de_var 2) (da_cons (de_var 3) (da_nil))))) (ds_nil))))
    (ds_one (ds_ret (de_var 2))))
theorem ok_l_new_f (T : Tp P K mg base) : Okd P w K mg base 1 ("_law_new", none) ["_law_word_here", "_law_known"] F_l_new_f :=
  okd_of (k := 0) (d := d_l_new) (N := ["_law_word_here", "_law_known", "_law_kept", "_law_value_here"]) rfl rfl (T.fn 11 d_l_new rfl) sc_l_new rfl rfl (fun _ _ _ _ _ _ us hl => match us, hl with | [_, _], _ => rfl) fun f cdv A outer s H E hr hp tk =>
    ds_cons (ds_set (i := 2) sc_l_new.nd (de_lst (da_nil)))
    (ds_cons (ds_for hp rfl (de_var 0) (dg_name (i := 3) sc_l_new.nd) (ds_one (ds_if ((dw_and (dt_cmp (o_notIn hr.u65) (de_var 3) (de_var 1)) (dw_and1 (dt_cmp (o_notIn hr.u65) (de_var 3) (de_var 2)))).pt) (ds_one (ds_expr (de_append (de_var 2) (da_cons (de_var 3) (da_nil))))) (ds_nil))))
    (ds_one (ds_ret (de_var 2))))
theorem sc_l_rear : FnScope ["_law_word_here", "_law_known", "_law_kept"] ["_law_word_here", "_law_known"] (defScope s_l_rear) := ⟨rfl, rfl, rfl, by decide +kernel, rfl, by decide +kernel, by decide +kernel⟩
theorem ok_l_rear (T : Tp P K mg base) : Okd P w K mg base 2 ("_law_rear", none) ["_law_word_here", "_law_known"] F_l_rear :=
  okd_of (k := 1) (d := d_l_rear) (N := ["_law_word_here", "_law_known", "_law_kept"]) rfl rfl (T.fn 12 d_l_rear rfl) sc_l_rear rfl rfl (fun _ _ _ _ _ _ us hl => match us, hl with | [_, _], _ => rfl) fun f cdv A outer s H E hr hp tk =>
    ds_cons (ds_set (i := 2) sc_l_rear.nd (de_callG tk (ok_l_new T) hr (T.glo 10) (da_cons (de_revA (de_var 0)) (da_cons (de_var 1) (da_nil)))))
    (ds_cons (ds_expr (de_reverse (de_var 2)))
    (ds_one (ds_ret (de_var 2))))
theorem sc_l_two : FnScope ["_law_kind", "_law_one", "_law_other", "_law_ahead", "_law_behind", "_law_front", "_law_end"] ["_law_kind", "_law_one", "_law_other", "_law_ahead", "_law_behind"] (defScope s_l_two) := ⟨rfl, rfl, rfl, by decide +kernel, rfl, by decide +kernel, by decide +kernel⟩
theorem ok_l_two (T : Tp P K mg base) : Okd P w K mg base 3 ("_law_two", none) ["_law_kind", "_law_one", "_law_other", "_law_ahead", "_law_behind"] F_l_two :=
  okd_of (k := 2) (d := d_l_two) (N := ["_law_kind", "_law_one", "_law_other", "_law_ahead", "_law_behind", "_law_front", "_law_end"]) rfl rfl (T.fn 13 d_l_two rfl) sc_l_two rfl rfl (fun _ _ _ _ _ _ us hl => match us, hl with | [_, _, _, _, _], _ => rfl) fun f cdv A outer s H E hr hp tk =>
    ds_cons (ds_set (i := 5) sc_l_two.nd (de_or (de_cmp o_gt (de_callB c_len (by rfl) (T.free 5) bt_len (da_cons (de_var 3) (da_nil))) (de_int)) (de_one (de_cmp (o_eq hr.u64) (de_ix i_ix (de_var 1) (de_int)) (de_ix i_ix (de_var 2) (de_int))))))
    (ds_cons (ds_set (i := 6) sc_l_two.nd (de_or (de_cmp o_gt (de_callB c_len (by rfl) (T.free 5) bt_len (da_cons (de_var 4) (da_nil))) (de_int)) (de_one (de_cmp (o_eq hr.u64) (de_ix i_ix (de_var 1) (de_un o_neg (de_int))) (de_ix i_ix (de_var 2) (de_un o_neg (de_int)))))))
    (ds_cons (ds_if (dt_cmp (o_eq hr.u64) (de_var 0) (de_str)) (ds_one (ds_ret (de_cmp (o_eq hr.u64) (de_bin o_addF (de_var 1) (de_var 2)) (de_bin o_addF (de_var 2) (de_var 1))))) (ds_nil))
    (ds_cons (ds_if (dt_cmp (o_eq hr.u64) (de_var 0) (de_str)) (ds_one (ds_ret (de_var 5))) (ds_nil))
    (ds_cons (ds_if (dt_cmp (o_eq hr.u64) (de_var 0) (de_str)) (ds_one (ds_ret (de_var 6))) (ds_nil))
    (ds_cons (ds_if (dt_cmp (o_eq hr.u64) (de_var 0) (de_str)) (ds_one (ds_ret (de_and (de_var 5) (de_one (de_var 6))))) (ds_nil))
    (ds_cons (ds_if (dt_cmp (o_eq hr.u64) (de_var 0) (de_str)) (ds_one (ds_ret (de_callG tk (ok_l_chained T) hr (T.glo 11) (da_cons (de_var 0) (da_cons (de_callG tk (ok_l_new_f T) hr (T.glo 10) (da_cons (de_var 1) (da_cons (de_var 3) (da_nil)))) (da_cons (de_callG tk (ok_l_new_f T) hr (T.glo 10) (da_cons (de_var 2) (da_cons (de_var 3) (da_nil)))) (da_nil))))))) (ds_nil))
    (ds_cons (ds_if (dt_cmp (o_eq hr.u64) (de_var 0) (de_str)) (ds_one (ds_ret (de_callG tk (ok_l_chained T) hr (T.glo 11) (da_cons (de_var 0) (da_cons (de_callG tk (ok_l_rear T) hr (T.glo 12) (da_cons (de_var 1) (da_cons (de_var 4) (da_nil)))) (da_cons (de_callG tk (ok_l_rear T) hr (T.glo 12) (da_cons (de_var 2) (da_cons (de_var 4) (da_nil)))) (da_nil))))))) (ds_nil))
    (ds_one (ds_ret (de_bl))))))))))
theorem sc_l_free : FnScope ["_law_kind", "_law_parcels", "_law_ahead", "_law_behind", "_law_i", "_law_j"] ["_law_kind", "_law_parcels", "_law_ahead", "_law_behind"] (defScope s_l_free) := ⟨rfl, rfl, rfl, by decide +kernel, rfl, by decide +kernel, by decide +kernel⟩
theorem ok_l_free (T : Tp P K mg base) : Okd P w K mg base 4 ("_law_free", none) ["_law_kind", "_law_parcels", "_law_ahead", "_law_behind"] F_l_free :=
  okd_of (k := 3) (d := d_l_free) (N := ["_law_kind", "_law_parcels", "_law_ahead", "_law_behind", "_law_i", "_law_j"]) rfl rfl (T.fn 14 d_l_free rfl) sc_l_free rfl rfl (fun _ _ _ _ _ _ us hl => match us, hl with | [_, _, _, _], _ => rfl) fun f cdv A outer s H E hr hp tk =>
    ds_cons (ds_forR1 hp rfl (by rfl) (T.free 3) (da_cons (de_callB c_len (by rfl) (T.free 5) bt_len (da_cons (de_var 1) (da_nil))) (da_nil)) (dg_name (i := 4) sc_l_free.nd) (ds_one (ds_forR1 hp rfl (by rfl) (T.free 3) (da_cons (de_var 4) (da_nil)) (dg_name (i := 5) sc_l_free.nd) (ds_one (ds_if (dt_not (dt_tru (de_callG tk (ok_l_two T) hr (T.glo 13) (da_cons (de_var 0) (da_cons (de_ix i_ix (de_var 1) (de_var 5)) (da_cons (de_ix i_ix (de_var 1) (de_var 4)) (da_cons (de_var 2) (da_cons (de_var 3) (da_nil))))))))) (ds_one (ds_ret (de_bl))) (ds_nil))))))
    (ds_one (ds_ret (de_bl)))
theorem sc_l_plain : FnScope ["_law_kind", "_law_word_here", "_law_kept", "_law_turned", "_law_k", "_law_value_here"] ["_law_kind", "_law_word_here"] (defScope s_l_plain) := ⟨rfl, rfl, rfl, by decide +kernel, rfl, by decide +kernel, by decide +kernel⟩
theorem ok_l_plain (T : Tp P K mg base) : Okd P w K mg base 1 ("_law_plain", none) ["_law_kind", "_law_word_here"] F_l_plain :=
  okd_of (k := 0) (d := d_l_plain) (N := ["_law_kind", "_law_word_here", "_law_kept", "_law_turned", "_law_k", "_law_value_here"]) rfl rfl (T.fn 15 d_l_plain rfl) sc_l_plain rfl rfl (fun _ _ _ _ _ _ us hl => match us, hl with | [_, _], _ => rfl) fun f cdv A outer s H E hr hp tk =>
    ds_cons (ds_if (dt_cmp (o_eq hr.u64) (de_var 0) (de_str)) (ds_one (ds_ret (de_callTy c_tuple (by rfl) (T.free 6) bt_tuple (da_cons (de_var 1) (da_nil))))) (ds_nil))
    (ds_cons (ds_if (dt_cmp (o_eq hr.u64) (de_var 0) (de_str)) (ds_one (ds_ret (de_callTy c_tuple (by rfl) (T.free 6) bt_tuple (da_cons (de_callB (c_sorted hr.u3) (by rfl) (T.free 9) bt_sorted (da_cons (de_var 1) (da_nil))) (da_nil))))) (ds_nil))
    (ds_cons (ds_if (dt_cmp (o_eq hr.u64) (de_callB c_len (by rfl) (T.free 5) bt_len (da_cons (de_var 1) (da_nil))) (de_int)) (ds_one (ds_ret (de_tup (da_nil)))) (ds_nil))
    (ds_cons (ds_if (dt_cmp (o_eq hr.u64) (de_var 0) (de_str)) (ds_one (ds_ret (de_tup (da_cons (de_ix i_ix (de_var 1) (de_int)) (da_nil))))) (ds_nil))
    (ds_cons (ds_if (dt_cmp (o_eq hr.u64) (de_var 0) (de_str)) (ds_one (ds_ret (de_tup (da_cons (de_ix i_ix (de_var 1) (de_un o_neg (de_int))) (da_nil))))) (ds_nil))
    (ds_cons (ds_if (dt_cmp (o_eq hr.u64) (de_var 0) (de_str)) (ds_one (ds_ret (de_tup (da_cons (de_ix i_ix (de_var 1) (de_int)) (da_cons (de_ix i_ix (de_var 1) (de_un o_neg (de_int))) (da_nil)))))) (ds_nil))
    (ds_cons (ds_set (i := 2) sc_l_plain.nd (de_lst (da_nil)))
    (ds_cons (ds_set (i := 3) sc_l_plain.nd (de_cmp (o_eq hr.u64) (de_var 0) (de_str)))
    (ds_cons (ds_forR1 hp rfl (by rfl) (T.free 3) (da_cons (de_callB c_len (by rfl) (T.free 5) bt_len (da_cons (de_var 1) (da_nil))) (da_nil)) (dg_name (i := 4) sc_l_plain.nd) (ds_cons (ds_set (i := 5) sc_l_plain.nd (de_ix i_ix (de_var 1) (de_var 4)))
    (ds_cons (ds_if (dt_tru (de_var 3)) (ds_one (ds_set (i := 5) sc_l_plain.nd (de_ix i_ix (de_var 1) (de_bin o_sub (de_bin o_sub (de_callB c_len (by rfl) (T.free 5) bt_len (da_cons (de_var 1) (da_nil))) (de_int)) (de_var 4))))) (ds_nil))
    (ds_one (ds_if (dt_cmp (o_notIn hr.u65) (de_var 5) (de_var 2)) (ds_one (ds_expr (de_append (de_var 2) (da_cons (de_var 5) (da_nil))))) (ds_nil))))))
    (ds_cons (ds_if (dt_tru (de_var 3)) (ds_one (ds_expr (de_reverse (de_var 2)))) (ds_nil))
    (ds_cons (ds_if (dt_cmp (o_eq hr.u64) (de_var 0) (de_str)) (ds_one (ds_ret (de_callTy c_tuple (by rfl) (T.free 6) bt_tuple (da_cons (de_callB (c_sorted hr.u3) (by rfl) (T.free 9) bt_sorted (da_cons (de_var 2) (da_nil))) (da_nil))))) (ds_nil))
    (ds_one (ds_ret (de_callTy c_tuple (by rfl) (T.free 6) bt_tuple (da_cons (de_var 2) (da_nil)))))))))))))))
theorem sc_kind_named : FnScope ["name"] ["name"] (defScope s_kind_named) := ⟨rfl, rfl, rfl, by decide +kernel, rfl, by decide +kernel, by decide +kernel⟩
theorem ok_kind_named (T : Tp P K mg base) : Okd P w K mg base 2 ("kind_named", none) ["name"] F_kind_named :=
  okd_of (k := 1) (d := d_kind_named) (N := ["name"]) rfl rfl (T.fn 16 d_kind_named rfl) sc_kind_named rfl rfl (fun _ _ _ _ _ _ us hl => match us, hl with | [_], _ => rfl) fun f cdv A outer s H E hr hp tk =>
    ds_one (ds_match (de_var 0) (dm_val hr.u64 (de_str) (ds_one (ds_ret (de_make0 (c := "Kind") (mk0_ok (T.ckf 11)) (by rfl) (T.glo 24))))
      (dm_val hr.u64 (de_str) (ds_one (ds_ret (de_make0 (c := "BagKind") (mk0_ok (T.ckf 10)) (by rfl) (T.glo 23))))
      (dm_val hr.u64 (de_str) (ds_one (ds_ret (de_make0 (c := "SetKind") (mk0_ok (T.ckf 9)) (by rfl) (T.glo 22))))
      (dm_val hr.u64 (de_str) (ds_one (ds_ret (de_make0 (c := "FirstKind") (mk0_ok (T.ckf 8)) (by rfl) (T.glo 21))))
      (dm_val hr.u64 (de_str) (ds_one (ds_ret (de_make0 (c := "LastKind") (mk0_ok (T.ckf 7)) (by rfl) (T.glo 20))))
      (dm_val hr.u64 (de_str) (ds_one (ds_ret (de_make0 (c := "EndsKind") (mk0_ok (T.ckf 6)) (by rfl) (T.glo 19))))
      (dm_val hr.u64 (de_str) (ds_one (ds_ret (de_make0 (c := "HeadsKind") (mk0_ok (T.ckf 5)) (by rfl) (T.glo 18))))
      (dm_val hr.u64 (de_str) (ds_one (ds_ret (de_make0 (c := "TailsKind") (mk0_ok (T.ckf 4)) (by rfl) (T.glo 17))))
      (dm_any (ds_one (ds_raise rfl (xok_BadKind T) hr tk (da_cons (de_var 0) (da_nil)) (by rfl)))))))))))))
theorem sc_exchanged : FnScope ["parcels", "i", "j", "at_end", "rest", "pair"] ["parcels", "i", "j", "at_end"] (defScope s_exchanged) := ⟨rfl, rfl, rfl, by decide +kernel, rfl, by decide +kernel, by decide +kernel⟩
theorem ok_exchanged (T : Tp P K mg base) : Okd P w K mg base 1 ("exchanged", none) ["parcels", "i", "j", "at_end"] F_exchanged :=
  okd_of (k := 0) (d := d_exchanged) (N := ["parcels", "i", "j", "at_end", "rest", "pair"]) rfl rfl (T.fn 17 d_exchanged rfl) sc_exchanged rfl rfl (fun _ _ _ _ _ _ us hl => match us, hl with | [_, _, _, _], _ => rfl) fun f cdv A outer s H E hr hp tk =>
    ds_cons (ds_set (i := 4) sc_exchanged.nd (de_bin o_addF (de_bin o_addF (de_slF (de_var 0) (do_none) (do_some (de_var 1))) (de_slF (de_var 0) (do_some (de_bin o_addF (de_var 1) (de_int))) (do_some (de_var 2)))) (de_slF (de_var 0) (do_some (de_bin o_addF (de_var 2) (de_int))) (do_none))))
    (ds_cons (ds_set (i := 5) sc_exchanged.nd (de_lstF (da_cons (de_ix i_ix (de_var 0) (de_var 1)) (da_cons (de_ix i_ix (de_var 0) (de_var 2)) (da_nil)))))
    (ds_cons (ds_if (dt_tru (de_var 3)) (ds_one (ds_ret (de_tup (da_cons (de_bin o_addF (de_var 4) (de_var 5)) (da_cons (de_bin o_addF (de_var 4) (de_revF (de_var 5))) (da_nil)))))) (ds_nil))
    (ds_one (ds_ret (de_tup (da_cons (de_bin o_addF (de_var 5) (de_var 4)) (da_cons (de_bin o_addF (de_revF (de_var 5)) (de_var 4)) (da_nil))))))))
theorem sc_word_of : FnScope ["parcels", "before", "after", "word", "parcel"] ["parcels", "before", "after"] (defScope s_word_of) := ⟨rfl, rfl, rfl, by decide +kernel, rfl, by decide +kernel, by decide +kernel⟩
theorem ok_word_of (T : Tp P K mg base) : Okd P w K mg base 1 ("word_of", none) ["parcels", "before", "after"] F_word_of :=
  okd_of (k := 0) (d := d_word_of) (N := ["parcels", "before", "after", "word", "parcel"]) rfl rfl (T.fn 18 d_word_of rfl) sc_word_of rfl rfl (fun _ _ _ _ _ _ us hl => match us, hl with | [_, _, _], _ => rfl) fun f cdv A outer s H E hr hp tk =>
    ds_cons (ds_set (i := 3) sc_word_of.nd (de_var 1))
    (ds_cons (ds_for hp rfl (de_var 0) (dg_name (i := 4) sc_word_of.nd) (ds_one (ds_set (i := 3) sc_word_of.nd (de_bin o_add (de_var 3) (de_var 4)))))
    (ds_one (ds_ret (de_bin o_add (de_var 3) (de_var 2)))))
theorem sc_Kind_keep : FnScope ["self", "word"] ["self", "word"] (defScope s_Kind_keep) := ⟨rfl, rfl, rfl, by decide +kernel, rfl, by decide +kernel, by decide +kernel⟩
theorem ok_Kind_keep (T : Tp P K mg base) : Okd P w K mg base 1 ("Kind", some "keep") ["self", "word"] F_Kind_keep :=
  okd_of (k := 0) (d := d_Kind_keep) (N := ["self", "word"]) rfl rfl (T.fn 19 d_Kind_keep rfl) sc_Kind_keep rfl rfl (fun _ _ _ _ _ _ us hl => match us, hl with | [_, _], _ => rfl) fun f cdv A outer s H E hr hp tk =>
    ds_one (ds_ret (de_listRg rfl (by rfl) (T.free 8) (by rfl) (T.free 3) (de_callB c_len (by rfl) (T.free 5) bt_len (da_cons (de_var 1) (da_nil)))))
theorem sc_BagKind_keep : FnScopeC ["self", "word"] ["self", "word"] (defScope s_BagKind_keep) := ⟨rfl, rfl, rfl, by decide +kernel, rfl, by decide +kernel, by decide +kernel, by decide +kernel, rfl⟩
theorem ok_BagKind_keep (T : Tp P K mg base) : Okd P w K mg base 3 ("BagKind", some "keep") ["self", "word"] F_BagKind_keep :=
  okd_ofC (k := 2) (d := d_BagKind_keep) (par := "self") (N := ["self", "word"]) (T.fnc 1 d_BagKind_keep rfl ⟨_, rfl, rfl⟩) sc_BagKind_keep rfl rfl (fun _ _ _ _ _ _ _ us hl => match us, hl with | [_, _], _ => rfl) fun f cda cc fd SK hfd A outer s H E hr hp tk =>
    by
    obtain ⟨tP, TB, hmm, hun⟩ := T.tab hfd (by decide +kernel) (T.ckf 14)
    exact dsa_one (dsa_ret (dea_sortKey (iw := 1) hr (by rfl) (T.free 9) TB hmm hun (lamOk_by (sc := defScope s_BagKind_keep) (by decide +kernel)) (de_super (k := 1) (tab := st_BagKind_keep) tk SK (tab_cons (supT_of (ok_Kind_keep T) (supm_ok (T.ckf 13))) (tab_cons (supT_of (ok_Kind_keep T) (supm_ok (T.ckf 12))) (tab_nil))) hr (da_cons (de_var 1) (da_nil)))))
theorem sc_SetKind_keep : FnScopeC ["self", "word", "kept", "index"] ["self", "word"] (defScope s_SetKind_keep) := ⟨rfl, rfl, rfl, by decide +kernel, rfl, by decide +kernel, by decide +kernel, by decide +kernel, rfl⟩
theorem ok_SetKind_keep (T : Tp P K mg base) : Okd P w K mg base 4 ("SetKind", some "keep") ["self", "word"] F_SetKind_keep :=
  okd_ofC (k := 3) (d := d_SetKind_keep) (par := "self") (N := ["self", "word", "kept", "index"]) (T.fnc 2 d_SetKind_keep rfl ⟨_, rfl, rfl⟩) sc_SetKind_keep rfl rfl (fun _ _ _ _ _ _ _ us hl => match us, hl with | [_, _], _ => rfl) fun f cda cc fd SK hfd A outer s H E hr hp tk =>
    dsa_cons (dsa_of (ds_set (i := 2) sc_SetKind_keep.nd (de_lst (da_nil))))
    (dsa_cons (dsa_for hp rfl (de_super (k := 3) (tab := st_SetKind_keep) tk SK (tab_cons (supT_of (ok_BagKind_keep T) (supm_ok (T.ckf 15))) (tab_nil)) hr (da_cons (de_var 1) (da_nil))) (dg_name (i := 3) sc_SetKind_keep.nd) (ds_one (ds_if ((dw_or (dt_not (dt_tru (de_var 2))) (dw_or1 (dt_cmp (o_ne hr.u64) (de_ix i_ix (de_var 1) (de_ix i_ix (de_var 2) (de_un o_neg (de_int)))) (de_ix i_ix (de_var 1) (de_var 3))))).pt) (ds_one (ds_expr (de_append (de_var 2) (da_cons (de_var 3) (da_nil))))) (ds_nil))))
    (dsa_one (dsa_of (ds_ret (de_var 2)))))
theorem sc_HeadsKind_keep : FnScopeC ["self", "word", "kept", "seen", "index"] ["self", "word"] (defScope s_HeadsKind_keep) := ⟨rfl, rfl, rfl, by decide +kernel, rfl, by decide +kernel, by decide +kernel, by decide +kernel, rfl⟩
theorem ok_HeadsKind_keep (T : Tp P K mg base) : Okd P w K mg base 2 ("HeadsKind", some "keep") ["self", "word"] F_HeadsKind_keep :=
  okd_ofC (k := 1) (d := d_HeadsKind_keep) (par := "self") (N := ["self", "word", "kept", "seen", "index"]) (T.fnc 3 d_HeadsKind_keep rfl ⟨_, rfl, rfl⟩) sc_HeadsKind_keep rfl rfl (fun _ _ _ _ _ _ _ us hl => match us, hl with | [_, _], _ => rfl) fun f cda cc fd SK hfd A outer s H E hr hp tk =>
    dsa_cons (dsa_of (ds_set (i := 2) sc_HeadsKind_keep.nd (de_lst (da_nil))))
    (dsa_cons (dsa_of (ds_set (i := 3) sc_HeadsKind_keep.nd (de_newD)))
    (dsa_cons (dsa_for hp rfl (de_super (k := 1) (tab := st_HeadsKind_keep) tk SK (tab_cons (supT_of (ok_Kind_keep T) (supm_ok (T.ckf 17))) (tab_cons (supT_of (ok_Kind_keep T) (supm_ok (T.ckf 16))) (tab_nil))) hr (da_cons (de_var 1) (da_nil))) (dg_name (i := 4) sc_HeadsKind_keep.nd) (ds_one (ds_if (dt_cmp (o_notIn hr.u65) (de_ix i_ix (de_var 1) (de_var 4)) (de_var 3)) (ds_cons (ds_dput hr.u1 (de_bl) (de_var 3) (de_ix i_ix (de_var 1) (de_var 4)))
    (ds_one (ds_expr (de_append (de_var 2) (da_cons (de_var 4) (da_nil)))))) (ds_nil))))
    (dsa_one (dsa_of (ds_ret (de_var 2))))))
theorem sc_FirstKind_keep : FnScopeC ["self", "word"] ["self", "word"] (defScope s_FirstKind_keep) := ⟨rfl, rfl, rfl, by decide +kernel, rfl, by decide +kernel, by decide +kernel, by decide +kernel, rfl⟩
theorem ok_FirstKind_keep (T : Tp P K mg base) : Okd P w K mg base 3 ("FirstKind", some "keep") ["self", "word"] F_FirstKind_keep :=
  okd_ofC (k := 2) (d := d_FirstKind_keep) (par := "self") (N := ["self", "word"]) (T.fnc 4 d_FirstKind_keep rfl ⟨_, rfl, rfl⟩) sc_FirstKind_keep rfl rfl (fun _ _ _ _ _ _ _ us hl => match us, hl with | [_, _], _ => rfl) fun f cda cc fd SK hfd A outer s H E hr hp tk =>
    dsa_one (dsa_ret (dea_sl (de_super (k := 2) (tab := st_FirstKind_keep) tk SK (tab_cons (supT_of (ok_HeadsKind_keep T) (supm_ok (T.ckf 18))) (tab_nil)) hr (da_cons (de_var 1) (da_nil))) (do_none) (do_some (de_int))))
theorem sc_TailsKind_keep : FnScopeC ["self", "word", "kept", "seen", "index"] ["self", "word"] (defScope s_TailsKind_keep) := ⟨rfl, rfl, rfl, by decide +kernel, rfl, by decide +kernel, by decide +kernel, by decide +kernel, rfl⟩
theorem ok_TailsKind_keep (T : Tp P K mg base) : Okd P w K mg base 2 ("TailsKind", some "keep") ["self", "word"] F_TailsKind_keep :=
  okd_ofC (k := 1) (d := d_TailsKind_keep) (par := "self") (N := ["self", "word", "kept", "seen", "index"]) (T.fnc 5 d_TailsKind_keep rfl ⟨_, rfl, rfl⟩) sc_TailsKind_keep rfl rfl (fun _ _ _ _ _ _ _ us hl => match us, hl with | [_, _], _ => rfl) fun f cda cc fd SK hfd A outer s H E hr hp tk =>
    dsa_cons (dsa_of (ds_set (i := 2) sc_TailsKind_keep.nd (de_lst (da_nil))))
    (dsa_cons (dsa_of (ds_set (i := 3) sc_TailsKind_keep.nd (de_newD)))
    (dsa_cons (dsa_for hp rfl (dea_rev (de_super (k := 1) (tab := st_TailsKind_keep) tk SK (tab_cons (supT_of (ok_Kind_keep T) (supm_ok (T.ckf 20))) (tab_cons (supT_of (ok_Kind_keep T) (supm_ok (T.ckf 19))) (tab_nil))) hr (da_cons (de_var 1) (da_nil)))) (dg_name (i := 4) sc_TailsKind_keep.nd) (ds_one (ds_if (dt_cmp (o_notIn hr.u65) (de_ix i_ix (de_var 1) (de_var 4)) (de_var 3)) (ds_cons (ds_dput hr.u1 (de_bl) (de_var 3) (de_ix i_ix (de_var 1) (de_var 4)))
    (ds_one (ds_expr (de_append (de_var 2) (da_cons (de_var 4) (da_nil)))))) (ds_nil))))
    (dsa_one (dsa_of (ds_ret (de_revA (de_var 2)))))))
theorem sc_LastKind_keep : FnScopeC ["self", "word"] ["self", "word"] (defScope s_LastKind_keep) := ⟨rfl, rfl, rfl, by decide +kernel, rfl, by decide +kernel, by decide +kernel, by decide +kernel, rfl⟩
theorem ok_LastKind_keep (T : Tp P K mg base) : Okd P w K mg base 3 ("LastKind", some "keep") ["self", "word"] F_LastKind_keep :=
  okd_ofC (k := 2) (d := d_LastKind_keep) (par := "self") (N := ["self", "word"]) (T.fnc 6 d_LastKind_keep rfl ⟨_, rfl, rfl⟩) sc_LastKind_keep rfl rfl (fun _ _ _ _ _ _ _ us hl => match us, hl with | [_, _], _ => rfl) fun f cda cc fd SK hfd A outer s H E hr hp tk =>
    dsa_one (dsa_ret (dea_sl (de_super (k := 2) (tab := st_LastKind_keep) tk SK (tab_cons (supT_of (ok_TailsKind_keep T) (supm_ok (T.ckf 21))) (tab_nil)) hr (da_cons (de_var 1) (da_nil))) (do_some (de_un o_neg (de_int))) (do_none)))
theorem sc_EndsKind_keep : FnScopeC ["self", "word", "whole"] ["self", "word"] (defScope s_EndsKind_keep) := ⟨rfl, rfl, rfl, by decide +kernel, rfl, by decide +kernel, by decide +kernel, by decide +kernel, rfl⟩
theorem ok_EndsKind_keep (T : Tp P K mg base) : Okd P w K mg base 2 ("EndsKind", some "keep") ["self", "word"] F_EndsKind_keep :=
  okd_ofC (k := 1) (d := d_EndsKind_keep) (par := "self") (N := ["self", "word", "whole"]) (T.fnc 7 d_EndsKind_keep rfl ⟨_, rfl, rfl⟩) sc_EndsKind_keep rfl rfl (fun _ _ _ _ _ _ _ us hl => match us, hl with | [_, _], _ => rfl) fun f cda cc fd SK hfd A outer s H E hr hp tk =>
    dsa_cons (dsa_set (i := 2) sc_EndsKind_keep.nd (de_super (k := 1) (tab := st_EndsKind_keep) tk SK (tab_cons (supT_of (ok_Kind_keep T) (supm_ok (T.ckf 22))) (tab_nil)) hr (da_cons (de_var 1) (da_nil))))
    (dsa_one (dsa_of (ds_ret (de_bin o_add (de_sl (de_var 2) (do_none) (do_some (de_int))) (de_sl (de_var 2) (do_some (de_un o_neg (de_int))) (do_none))))))
theorem sc_Kind_plain : FnScope ["self", "word", "index"] ["self", "word"] (defScope s_Kind_plain) := ⟨rfl, rfl, rfl, by decide +kernel, rfl, by decide +kernel, by decide +kernel⟩
theorem ok_Kind_plain (T : Tp P K mg base) : Okd P w K mg base 5 ("Kind", some "plain") ["self", "word"] F_Kind_plain :=
  okd_of (k := 4) (d := d_Kind_plain) (N := ["self", "word", "index"]) rfl rfl (T.fn 20 d_Kind_plain rfl) sc_Kind_plain rfl rfl (fun _ _ _ _ _ _ us hl => match us, hl with | [_, _], _ => rfl) fun f cdv A outer s H E hr hp tk =>
    ds_one (ds_ret (de_callTy c_tuple (by rfl) (T.free 6) bt_tuple (da_cons (de_lcL rfl sc_Kind_plain.nd (de_meth (k := 4) (tab := mt_keep) tk (tab_cons (methT_of (ok_Kind_keep T) (He.cls_ok (T.fac 14)) (He.meth_ok (T.fac 15)) (same_ok (T.ckf 30))) (tab_cons (methT_of (ok_BagKind_keep T) (He.cls_ok (T.fac 12)) (He.meth_ok (T.fac 13)) (same_ok (T.ckf 29))) (tab_cons (methT_of (ok_SetKind_keep T) (He.cls_ok (T.fac 10)) (He.meth_ok (T.fac 11)) (same_ok (T.ckf 28))) (tab_cons (methT_of (ok_HeadsKind_keep T) (He.cls_ok (T.fac 8)) (He.meth_ok (T.fac 9)) (same_ok (T.ckf 27))) (tab_cons (methT_of (ok_FirstKind_keep T) (He.cls_ok (T.fac 6)) (He.meth_ok (T.fac 7)) (same_ok (T.ckf 26))) (tab_cons (methT_of (ok_TailsKind_keep T) (He.cls_ok (T.fac 4)) (He.meth_ok (T.fac 5)) (same_ok (T.ckf 25))) (tab_cons (methT_of (ok_LastKind_keep T) (He.cls_ok (T.fac 2)) (He.meth_ok (T.fac 3)) (same_ok (T.ckf 24))) (tab_cons (methT_of (ok_EndsKind_keep T) (He.cls_ok (T.fac 0)) (He.meth_ok (T.fac 1)) (same_ok (T.ckf 23))) (tab_nil))))))))) hr (de_var 0) (da_cons (de_var 1) (da_nil))) (blkOk_by (N := ["self", "word", "index"]) (sc := defScope s_Kind_plain) (by decide +kernel)) (fun _ _ _ _ _ => pg_name (i := 2) sc_Kind_plain.nd rfl (Or.inl rfl)) (fun _ _ _ _ _ => dts_nil) (fun _ _ _ _ _ => de_ix i_ix (de_var 1) (de_var 2))) (da_nil))))
theorem sc_alike : FnScope ["kind", "left", "right", "merging"] ["kind", "left", "right"] (defScope s_alike) := ⟨rfl, rfl, rfl, by decide +kernel, rfl, by decide +kernel, by decide +kernel⟩
theorem ok_alike (T : Tp P K mg base) : Okd P w K mg base 6 ("alike", none) ["kind", "left", "right"] F_alike :=
  okd_of (k := 5) (d := d_alike) (N := ["kind", "left", "right", "merging"]) rfl rfl (T.fn 21 d_alike rfl) sc_alike rfl rfl (fun _ _ _ _ _ _ us hl => match us, hl with | [_, _, _], _ => rfl) fun f cdv A outer s H E hr hp tk =>
    ds_cons (ds_set (i := 3) sc_alike.nd (de_callG tk (ok_kind_named T) hr (T.glo 25) (da_cons (de_var 0) (da_nil))))
    (ds_one (ds_ret (de_cmp (o_eq hr.u64) (de_meth (k := 5) (tab := mt_plain) tk (tab_cons (methT_of (ok_Kind_plain T) (He.cls_ok (T.fac 14)) (He.meth_ok (T.fac 23)) (same_ok (T.ckf 38))) (tab_cons (methT_of (ok_Kind_plain T) (He.cls_ok (T.fac 12)) (He.meth_ok (T.fac 22)) (same_ok (T.ckf 37))) (tab_cons (methT_of (ok_Kind_plain T) (He.cls_ok (T.fac 10)) (He.meth_ok (T.fac 21)) (same_ok (T.ckf 36))) (tab_cons (methT_of (ok_Kind_plain T) (He.cls_ok (T.fac 8)) (He.meth_ok (T.fac 20)) (same_ok (T.ckf 35))) (tab_cons (methT_of (ok_Kind_plain T) (He.cls_ok (T.fac 6)) (He.meth_ok (T.fac 19)) (same_ok (T.ckf 34))) (tab_cons (methT_of (ok_Kind_plain T) (He.cls_ok (T.fac 4)) (He.meth_ok (T.fac 18)) (same_ok (T.ckf 33))) (tab_cons (methT_of (ok_Kind_plain T) (He.cls_ok (T.fac 2)) (He.meth_ok (T.fac 17)) (same_ok (T.ckf 32))) (tab_cons (methT_of (ok_Kind_plain T) (He.cls_ok (T.fac 0)) (He.meth_ok (T.fac 16)) (same_ok (T.ckf 31))) (tab_nil))))))))) hr (de_var 3) (da_cons (de_var 1) (da_nil))) (de_meth (k := 5) (tab := mt_plain) tk (tab_cons (methT_of (ok_Kind_plain T) (He.cls_ok (T.fac 14)) (He.meth_ok (T.fac 23)) (same_ok (T.ckf 38))) (tab_cons (methT_of (ok_Kind_plain T) (He.cls_ok (T.fac 12)) (He.meth_ok (T.fac 22)) (same_ok (T.ckf 37))) (tab_cons (methT_of (ok_Kind_plain T) (He.cls_ok (T.fac 10)) (He.meth_ok (T.fac 21)) (same_ok (T.ckf 36))) (tab_cons (methT_of (ok_Kind_plain T) (He.cls_ok (T.fac 8)) (He.meth_ok (T.fac 20)) (same_ok (T.ckf 35))) (tab_cons (methT_of (ok_Kind_plain T) (He.cls_ok (T.fac 6)) (He.meth_ok (T.fac 19)) (same_ok (T.ckf 34))) (tab_cons (methT_of (ok_Kind_plain T) (He.cls_ok (T.fac 4)) (He.meth_ok (T.fac 18)) (same_ok (T.ckf 33))) (tab_cons (methT_of (ok_Kind_plain T) (He.cls_ok (T.fac 2)) (He.meth_ok (T.fac 17)) (same_ok (T.ckf 32))) (tab_cons (methT_of (ok_Kind_plain T) (He.cls_ok (T.fac 0)) (He.meth_ok (T.fac 16)) (same_ok (T.ckf 31))) (tab_nil))))))))) hr (de_var 3) (da_cons (de_var 2) (da_nil))))))
theorem sc_free_orders : FnScope ["kind", "parcels", "before", "after", "at_end", "i", "j", "pair", "one", "other"] ["kind", "parcels", "before", "after"] (defScope s_free_orders) := ⟨rfl, rfl, rfl, by decide +kernel, rfl, by decide +kernel, by decide +kernel⟩
theorem okk_free_orders (T : Tp P K mg base) : Okk P w K mg base 7 ("free_orders", none) ["kind", "parcels", "before", "after"] d_free_orders F_free_orders :=
  okk_of (k := 6) (d := d_free_orders) (N := ["kind", "parcels", "before", "after", "at_end", "i", "j", "pair", "one", "other"]) rfl (T.fn 22 d_free_orders rfl) sc_free_orders rfl rfl fun f cdv A outer s H E hr hp tk =>
    ds_cons (ds_expr (de_callG tk (ok_kind_named T) hr (T.glo 25) (da_cons (de_var 0) (da_nil))))
    (ds_cons (ds_for hp rfl (de_tup (da_cons (de_bl) (da_cons (de_bl) (da_nil)))) (dg_name (i := 4) sc_free_orders.nd) (ds_one (ds_forR1 hp rfl (by rfl) (T.free 3) (da_cons (de_callB c_len (by rfl) (T.free 5) bt_len (da_cons (de_var 1) (da_nil))) (da_nil)) (dg_name (i := 5) sc_free_orders.nd) (ds_one (ds_forR2 hp rfl (by rfl) (T.free 3) (da_cons (de_bin o_addF (de_var 5) (de_int)) (da_cons (de_callB c_len (by rfl) (T.free 5) bt_len (da_cons (de_var 1) (da_nil))) (da_nil))) (dg_name (i := 6) sc_free_orders.nd) (ds_cons (ds_asg (de_callG tk (ok_exchanged T) hr (T.glo 26) (da_cons (de_var 1) (da_cons (de_var 5) (da_cons (de_var 6) (da_cons (de_var 4) (da_nil)))))) (dg_tup rfl (dgs_cons (dg_name (i := 8) sc_free_orders.nd) (dgs_cons (dg_name (i := 9) sc_free_orders.nd) (dgs_nil)))))
    (ds_cons (ds_set (i := 7) sc_free_orders.nd (de_tup (da_cons (de_callG tk (ok_word_of T) hr (T.glo 27) (da_cons (de_var 8) (da_cons (de_var 2) (da_cons (de_var 3) (da_nil))))) (da_cons (de_callG tk (ok_word_of T) hr (T.glo 27) (da_cons (de_var 9) (da_cons (de_var 2) (da_cons (de_var 3) (da_nil))))) (da_nil)))))
    (ds_one (ds_if (dt_not (dt_tru (de_callG tk (ok_alike T) hr (T.glo 28) (da_cons (de_var 0) (da_cons (de_ix i_ix (de_var 7) (de_int)) (da_cons (de_ix i_ix (de_var 7) (de_int)) (da_nil))))))) (ds_one (ds_ret (de_var 7))) (ds_nil))))))))))
    (ds_one (ds_ret (de_non))))
theorem sc_l_told : FnScope ["_law_form", "_law_kind", "_law_parcels", "_law_ahead", "_law_behind"] ["_law_form", "_law_kind", "_law_parcels", "_law_ahead", "_law_behind"] (defScope s_l_told) := ⟨rfl, rfl, rfl, by decide +kernel, rfl, by decide +kernel, by decide +kernel⟩
theorem ok_l_told (T : Tp P K mg base) : Okd P w K mg base 8 ("_law_told", none) ["_law_form", "_law_kind", "_law_parcels", "_law_ahead", "_law_behind"] F_l_told :=
  okd_of (k := 7) (d := d_l_told) (N := ["_law_form", "_law_kind", "_law_parcels", "_law_ahead", "_law_behind"]) rfl rfl (T.fn 23 d_l_told rfl) sc_l_told rfl rfl (fun _ _ _ _ _ _ us hl => match us, hl with | [_, _, _, _, _], _ => rfl) fun f cdv A outer s H E hr hp tk =>
    ds_cons (ds_if (dt_cmp (o_eq hr.u64) (de_var 0) (de_int)) (ds_one (ds_ret (de_callK (n := 2) (ks := ["before"]) [("after", .adr (kwdAt ("free_orders", none) "after"))] [.tup []] [.kw 0, .df 0] tk (okk_free_orders T) hr (T.glo 29) (by exact (sub_cons (List.Mem.tail _ (List.Mem.head _)) (sub_nil))) (by exact fun Z φ => ⟨_, _, rfl, repB_ok _ _ (any_ok (T.ckf 39)), (rfl)⟩) (da_cons (de_var 1) (da_cons (de_var 2) (da_nil))) (dk_cons (de_var 3) (dk_nil)) (fun kV doc pm an cdv ct us mv ws l1 l2 l3 D hD => match us, l1, mv, l2, ws, l3 with | [_, _], _, [_], _, [_], _ => by cases hD (List.cons_ne_nil _ _); exact ⟨_, _, _, _, _, _, rfl, rfl, rfl⟩)))) (ds_nil))
    (ds_cons (ds_if (dt_cmp (o_eq hr.u64) (de_var 0) (de_int)) (ds_one (ds_ret (de_callK (n := 2) (ks := ["after"]) [("before", .adr (kwdAt ("free_orders", none) "before"))] [.tup []] [.df 0, .kw 0] tk (okk_free_orders T) hr (T.glo 29) (by exact (sub_cons (List.Mem.head _) (sub_nil))) (by exact fun Z φ => ⟨_, _, rfl, repB_ok _ _ (any_ok (T.ckf 40)), (rfl)⟩) (da_cons (de_var 1) (da_cons (de_var 2) (da_nil))) (dk_cons (de_var 4) (dk_nil)) (fun kV doc pm an cdv ct us mv ws l1 l2 l3 D hD => match us, l1, mv, l2, ws, l3 with | [_, _], _, [_], _, [_], _ => by cases hD (List.cons_ne_nil _ _); exact ⟨_, _, _, _, _, _, rfl, rfl, rfl⟩)))) (ds_nil))
    (ds_cons (ds_if (dt_cmp (o_eq hr.u64) (de_var 0) (de_int)) (ds_one (ds_ret (de_callK (n := 2) (ks := []) [("before", .adr (kwdAt ("free_orders", none) "before")), ("after", .adr (kwdAt ("free_orders", none) "after"))] [.tup [], .tup []] [.df 0, .df 1] tk (okk_free_orders T) hr (T.glo 29) (by exact (sub_cons (List.Mem.head _) (sub_cons (List.Mem.tail _ (List.Mem.head _)) (sub_nil)))) (by exact fun Z φ => ⟨_, _, rfl, repB_ok _ _ (any_ok (T.ckf 40)), ⟨_, _, rfl, repB_ok _ _ (any_ok (T.ckf 39)), (rfl)⟩⟩) (da_cons (de_var 1) (da_cons (de_var 2) (da_nil))) (dk_nil) (fun kV doc pm an cdv ct us mv ws l1 l2 l3 D hD => match us, l1, mv, l2, ws, l3 with | [_, _], _, [_, _], _, [], _ => by cases hD (List.cons_ne_nil _ _); exact ⟨_, _, _, _, _, _, rfl, rfl, ⟨_, _, _, _, _, _, rfl, rfl, rfl⟩⟩)))) (ds_nil))
    (ds_one (ds_ret (de_callK (n := 2) (ks := ["before", "after"]) [] [] [.kw 0, .kw 1] tk (okk_free_orders T) hr (T.glo 29) (by exact (sub_nil)) (by exact fun Z φ => (rfl)) (da_cons (de_var 1) (da_cons (de_var 2) (da_nil))) (dk_cons (de_var 3) (dk_cons (de_var 4) (dk_nil))) (fun kV doc pm an cdv ct us mv ws l1 l2 l3 D hD => match us, l1, mv, l2, ws, l3 with | [_, _], _, [], _, [_, _], _ => by exact rfl))))))
theorem sc_l_pair : FnScope ["_law_kind", "_law_parcels", "_law_ahead", "_law_behind", "_law_last", "_law_i", "_law_j", "_law_rest", "_law_one", "_law_other", "_law_left", "_law_right"] ["_law_kind", "_law_parcels", "_law_ahead", "_law_behind"] (defScope s_l_pair) := ⟨rfl, rfl, rfl, by decide +kernel, rfl, by decide +kernel, by decide +kernel⟩
theorem ok_l_pair (T : Tp P K mg base) : Okd P w K mg base 2 ("_law_pair", none) ["_law_kind", "_law_parcels", "_law_ahead", "_law_behind"] F_l_pair :=
  okd_of (k := 1) (d := d_l_pair) (N := ["_law_kind", "_law_parcels", "_law_ahead", "_law_behind", "_law_last", "_law_i", "_law_j", "_law_rest", "_law_one", "_law_other", "_law_left", "_law_right"]) rfl rfl (T.fn 24 d_l_pair rfl) sc_l_pair rfl rfl (fun _ _ _ _ _ _ us hl => match us, hl with | [_, _, _, _], _ => rfl) fun f cdv A outer s H E hr hp tk =>
    ds_cons (ds_for hp rfl (de_tup (da_cons (de_bl) (da_cons (de_bl) (da_nil)))) (dg_name (i := 4) sc_l_pair.nd) (ds_one (ds_forR1 hp rfl (by rfl) (T.free 3) (da_cons (de_callB c_len (by rfl) (T.free 5) bt_len (da_cons (de_var 1) (da_nil))) (da_nil)) (dg_name (i := 5) sc_l_pair.nd) (ds_one (ds_forR2 hp rfl (by rfl) (T.free 3) (da_cons (de_bin o_addF (de_var 5) (de_int)) (da_cons (de_callB c_len (by rfl) (T.free 5) bt_len (da_cons (de_var 1) (da_nil))) (da_nil))) (dg_name (i := 6) sc_l_pair.nd) (ds_cons (ds_set (i := 7) sc_l_pair.nd (de_bin o_addF (de_bin o_addF (de_slF (de_var 1) (do_none) (do_some (de_var 5))) (de_slF (de_var 1) (do_some (de_bin o_addF (de_var 5) (de_int))) (do_some (de_var 6)))) (de_slF (de_var 1) (do_some (de_bin o_addF (de_var 6) (de_int))) (do_none))))
    (ds_cons (ds_set (i := 8) sc_l_pair.nd (de_bin o_addF (de_lstF (da_cons (de_ix i_ix (de_var 1) (de_var 5)) (da_cons (de_ix i_ix (de_var 1) (de_var 6)) (da_nil)))) (de_var 7)))
    (ds_cons (ds_set (i := 9) sc_l_pair.nd (de_bin o_addF (de_lstF (da_cons (de_ix i_ix (de_var 1) (de_var 6)) (da_cons (de_ix i_ix (de_var 1) (de_var 5)) (da_nil)))) (de_var 7)))
    (ds_cons (ds_if (dt_tru (de_var 4)) (ds_cons (ds_set (i := 8) sc_l_pair.nd (de_bin o_addF (de_var 7) (de_lstF (da_cons (de_ix i_ix (de_var 1) (de_var 5)) (da_cons (de_ix i_ix (de_var 1) (de_var 6)) (da_nil))))))
    (ds_one (ds_set (i := 9) sc_l_pair.nd (de_bin o_addF (de_var 7) (de_lstF (da_cons (de_ix i_ix (de_var 1) (de_var 6)) (da_cons (de_ix i_ix (de_var 1) (de_var 5)) (da_nil)))))))) (ds_nil))
    (ds_cons (ds_set (i := 10) sc_l_pair.nd (de_bin o_addF (de_bin o_addF (de_var 2) (de_callG tk (ok_l_joined T) hr (T.glo 9) (da_cons (de_var 8) (da_nil)))) (de_var 3)))
    (ds_cons (ds_set (i := 11) sc_l_pair.nd (de_bin o_addF (de_bin o_addF (de_var 2) (de_callG tk (ok_l_joined T) hr (T.glo 9) (da_cons (de_var 9) (da_nil)))) (de_var 3)))
    (ds_one (ds_if (dt_cmp (o_ne hr.u64) (de_callG tk (ok_l_plain T) hr (T.glo 15) (da_cons (de_var 0) (da_cons (de_var 10) (da_nil)))) (de_callG tk (ok_l_plain T) hr (T.glo 15) (da_cons (de_var 0) (da_cons (de_var 11) (da_nil))))) (ds_one (ds_ret (de_tup (da_cons (de_var 10) (da_cons (de_var 11) (da_nil)))))) (ds_nil))))))))))))))
    (ds_one (ds_ret (de_non)))
theorem sc_l_asked : FnScope ["_law_form", "_law_kind", "_law_parcels", "_law_ahead", "_law_behind", "_law_row", "_law_told_here"] ["_law_form", "_law_kind", "_law_parcels", "_law_ahead", "_law_behind"] (defScope s_l_asked) := ⟨rfl, rfl, rfl, by decide +kernel, rfl, by decide +kernel, by decide +kernel⟩
theorem ok_l_asked (T : Tp P K mg base) : Okd P w K mg base 9 ("_law_asked", none) ["_law_form", "_law_kind", "_law_parcels", "_law_ahead", "_law_behind"] F_l_asked :=
  okd_of (k := 8) (d := d_l_asked) (N := ["_law_form", "_law_kind", "_law_parcels", "_law_ahead", "_law_behind", "_law_row", "_law_told_here"]) rfl rfl (T.fn 25 d_l_asked rfl) sc_l_asked rfl rfl (fun _ _ _ _ _ _ us hl => match us, hl with | [_, _, _, _, _], _ => rfl) fun f cdv A outer s H E hr hp tk =>
    ds_cons (ds_set (i := 5) sc_l_asked.nd (de_callTy c_listF (by rfl) (T.free 8) bt_list (da_cons (de_var 2) (da_nil))))
    (ds_cons (ds_set (i := 6) sc_l_asked.nd (de_callG tk (ok_l_told T) hr (T.glo 30) (da_cons (de_var 0) (da_cons (de_var 1) (da_cons (de_var 5) (da_cons (de_var 3) (da_cons (de_var 4) (da_nil))))))))
    (ds_cons (ds_if (dt_cmp (o_ne hr.u64) (de_var 5) (de_var 2)) (ds_one (ds_ret (de_bl))) (ds_nil))
    (ds_cons (ds_if (dt_tru (de_callG tk (ok_l_free T) hr (T.glo 14) (da_cons (de_var 1) (da_cons (de_var 2) (da_cons (de_var 3) (da_cons (de_var 4) (da_nil))))))) (ds_one (ds_ret (de_cmp o_isN (de_var 6) (de_non)))) (ds_nil))
    (ds_one (ds_ret (de_and (de_isi (by rfl) (T.free 11) (by rfl) (T.free 6) bt_tuple (de_var 6)) (de_one (de_cmp (o_eq hr.u64) (de_var 6) (de_callG tk (ok_l_pair T) hr (T.glo 31) (da_cons (de_var 1) (da_cons (de_var 2) (da_cons (de_var 3) (da_cons (de_var 4) (da_nil))))))))))))))
theorem sc_first_clash : FnScope ["u", "v", "i", "one", "j", "other"] ["u", "v"] (defScope s_first_clash) := ⟨rfl, rfl, rfl, by decide +kernel, rfl, by decide +kernel, by decide +kernel⟩
theorem ok_first_clash (T : Tp P K mg base) : Okd P w K mg base 1 ("first_clash", none) ["u", "v"] F_first_clash :=
  okd_of (k := 0) (d := d_first_clash) (N := ["u", "v", "i", "one", "j", "other"]) rfl rfl (T.fn 26 d_first_clash rfl) sc_first_clash rfl rfl (fun _ _ _ _ _ _ us hl => match us, hl with | [_, _], _ => rfl) fun f cdv A outer s H E hr hp tk =>
    ds_cons (ds_forE hp rfl (by rfl) (T.free 4) (da_cons (de_var 0) (da_nil)) (dg_tup rfl (dgs_cons (dg_name (i := 2) sc_first_clash.nd) (dgs_cons (dg_name (i := 3) sc_first_clash.nd) (dgs_nil)))) (ds_one (ds_forE hp rfl (by rfl) (T.free 4) (da_cons (de_var 1) (da_nil)) (dg_tup rfl (dgs_cons (dg_name (i := 4) sc_first_clash.nd) (dgs_cons (dg_name (i := 5) sc_first_clash.nd) (dgs_nil)))) (ds_one (ds_if (dt_cmp (o_ne hr.u64) (de_bin o_addF (de_var 3) (de_var 5)) (de_bin o_addF (de_var 5) (de_var 3))) (ds_one (ds_ret (de_tup (da_cons (de_var 2) (da_cons (de_var 4) (da_nil)))))) (ds_nil))))))
    (ds_one (ds_ret (de_non)))
theorem sc_free_shuffles : FnScope ["kind", "u", "v", "before", "after", "pair", "clash", "i", "j", "head", "tail", "ahead", "behind"] ["kind", "u", "v", "before", "after"] (defScope s_free_shuffles) := ⟨rfl, rfl, rfl, by decide +kernel, rfl, by decide +kernel, by decide +kernel⟩
theorem okk_free_shuffles (T : Tp P K mg base) : Okk P w K mg base 7 ("free_shuffles", none) ["kind", "u", "v", "before", "after"] d_free_shuffles F_free_shuffles :=
  okk_of (k := 6) (d := d_free_shuffles) (N := ["kind", "u", "v", "before", "after", "pair", "clash", "i", "j", "head", "tail", "ahead", "behind"]) rfl (T.fn 27 d_free_shuffles rfl) sc_free_shuffles rfl rfl fun f cdv A outer s H E hr hp tk =>
    ds_cons (ds_expr (de_callG tk (ok_kind_named T) hr (T.glo 25) (da_cons (de_var 0) (da_nil))))
    (ds_cons (ds_set (i := 5) sc_free_shuffles.nd (de_tup (da_cons (de_callG tk (ok_word_of T) hr (T.glo 27) (da_cons (de_bin o_addF (de_var 1) (de_var 2)) (da_cons (de_var 3) (da_cons (de_var 4) (da_nil))))) (da_cons (de_callG tk (ok_word_of T) hr (T.glo 27) (da_cons (de_bin o_addF (de_var 2) (de_var 1)) (da_cons (de_var 3) (da_cons (de_var 4) (da_nil))))) (da_nil)))))
    (ds_cons (ds_if (dt_cmp (o_eq hr.u64) (de_var 0) (de_str)) (ds_cons (ds_set (i := 6) sc_free_shuffles.nd (de_callG tk (ok_first_clash T) hr (T.glo 33) (da_cons (de_var 1) (da_cons (de_var 2) (da_nil)))))
    (ds_cons (ds_if (dt_cmp o_isN (de_var 6) (de_non)) (ds_one (ds_ret (de_non))) (ds_nil))
    (ds_cons (ds_asg (de_var 6) (dg_tup rfl (dgs_cons (dg_name (i := 7) sc_free_shuffles.nd) (dgs_cons (dg_name (i := 8) sc_free_shuffles.nd) (dgs_nil)))))
    (ds_cons (ds_par (i := 9) (j := 10) rfl sc_free_shuffles.nd (da_cons (de_bin o_addF (de_slF (de_var 1) (do_none) (do_some (de_var 7))) (de_slF (de_var 2) (do_none) (do_some (de_var 8)))) (da_cons (de_bin o_addF (de_slF (de_var 1) (do_some (de_bin o_addF (de_var 7) (de_int))) (do_none)) (de_slF (de_var 2) (do_some (de_bin o_addF (de_var 8) (de_int))) (do_none))) (da_nil))))
    (ds_cons (ds_par (i := 11) (j := 12) rfl sc_free_shuffles.nd (da_cons (de_bin o_addF (de_bin o_addF (de_var 9) (de_lstF (da_cons (de_ix i_ix (de_var 1) (de_var 7)) (da_cons (de_ix i_ix (de_var 2) (de_var 8)) (da_nil))))) (de_var 10)) (da_cons (de_bin o_addF (de_bin o_addF (de_var 9) (de_lstF (da_cons (de_ix i_ix (de_var 2) (de_var 8)) (da_cons (de_ix i_ix (de_var 1) (de_var 7)) (da_nil))))) (de_var 10)) (da_nil))))
    (ds_one (ds_set (i := 5) sc_free_shuffles.nd (de_tup (da_cons (de_callG tk (ok_word_of T) hr (T.glo 27) (da_cons (de_var 11) (da_cons (de_var 3) (da_cons (de_var 4) (da_nil))))) (da_cons (de_callG tk (ok_word_of T) hr (T.glo 27) (da_cons (de_var 12) (da_cons (de_var 3) (da_cons (de_var 4) (da_nil))))) (da_nil))))))))))) (ds_nil))
    (ds_cons (ds_if (dt_tru (de_callG tk (ok_alike T) hr (T.glo 28) (da_cons (de_var 0) (da_cons (de_ix i_ix (de_var 5) (de_int)) (da_cons (de_ix i_ix (de_var 5) (de_int)) (da_nil)))))) (ds_one (ds_ret (de_non))) (ds_nil))
    (ds_one (ds_ret (de_var 5))))))
theorem sc_l_twos : FnScope ["_law_kind", "_law_parcels", "_law_ahead", "_law_behind", "_law_i", "_law_j", "_law_told_here"] ["_law_kind", "_law_parcels", "_law_ahead", "_law_behind"] (defScope s_l_twos) := ⟨rfl, rfl, rfl, by decide +kernel, rfl, by decide +kernel, by decide +kernel⟩
theorem ok_l_twos (T : Tp P K mg base) : Okd P w K mg base 8 ("_law_twos", none) ["_law_kind", "_law_parcels", "_law_ahead", "_law_behind"] F_l_twos :=
  okd_of (k := 7) (d := d_l_twos) (N := ["_law_kind", "_law_parcels", "_law_ahead", "_law_behind", "_law_i", "_law_j", "_law_told_here"]) rfl rfl (T.fn 28 d_l_twos rfl) sc_l_twos rfl rfl (fun _ _ _ _ _ _ us hl => match us, hl with | [_, _, _, _], _ => rfl) fun f cdv A outer s H E hr hp tk =>
    ds_cons (ds_forR1 hp rfl (by rfl) (T.free 3) (da_cons (de_callB c_len (by rfl) (T.free 5) bt_len (da_cons (de_var 1) (da_nil))) (da_nil)) (dg_name (i := 4) sc_l_twos.nd) (ds_one (ds_forR1 hp rfl (by rfl) (T.free 3) (da_cons (de_var 4) (da_nil)) (dg_name (i := 5) sc_l_twos.nd) (ds_cons (ds_set (i := 6) sc_l_twos.nd (de_callK (n := 3) (ks := ["before", "after"]) [] [] [.kw 0, .kw 1] tk (okk_free_shuffles T) hr (T.glo 34) (by exact (sub_nil)) (by exact fun Z φ => (rfl)) (da_cons (de_var 0) (da_cons (de_lstF (da_cons (de_ix i_ix (de_var 1) (de_var 5)) (da_nil))) (da_cons (de_lstF (da_cons (de_ix i_ix (de_var 1) (de_var 4)) (da_nil))) (da_nil)))) (dk_cons (de_var 2) (dk_cons (de_var 3) (dk_nil))) (fun kV doc pm an cdv ct us mv ws l1 l2 l3 D hD => match us, l1, mv, l2, ws, l3 with | [_, _, _], _, [], _, [_, _], _ => by exact rfl)))
    (ds_one (ds_if (dt_cmp o_notN (de_var 6) (de_non)) (ds_one (ds_ret (de_bl))) (ds_nil)))))))
    (ds_one (ds_ret (de_bl)))
theorem sc_l_good : FnScope ["_law_form", "_law_kind", "_law_parcels", "_law_ahead", "_law_behind", "_law_words", "_law_rows", "_law_free_here", "_law_plains", "_law_word_here", "_law_row", "_law_plain_here"] ["_law_form", "_law_kind", "_law_parcels", "_law_ahead", "_law_behind", "_law_words", "_law_rows"] (defScope s_l_good) := ⟨rfl, rfl, rfl, by decide +kernel, rfl, by decide +kernel, by decide +kernel⟩
theorem ok_l_good (T : Tp P K mg base) : Okd P w K mg base 10 ("_law_good", none) ["_law_form", "_law_kind", "_law_parcels", "_law_ahead", "_law_behind", "_law_words", "_law_rows"] F_l_good :=
  okd_of (k := 9) (d := d_l_good) (N := ["_law_form", "_law_kind", "_law_parcels", "_law_ahead", "_law_behind", "_law_words", "_law_rows", "_law_free_here", "_law_plains", "_law_word_here", "_law_row", "_law_plain_here"]) rfl rfl (T.fn 29 d_l_good rfl) sc_l_good rfl rfl (fun _ _ _ _ _ _ us hl => match us, hl with | [_, _, _, _, _, _, _], _ => rfl) fun f cdv A outer s H E hr hp tk =>
    ds_cons (ds_set (i := 7) sc_l_good.nd (de_callG tk (ok_l_free T) hr (T.glo 14) (da_cons (de_var 1) (da_cons (de_var 2) (da_cons (de_var 3) (da_cons (de_var 4) (da_nil)))))))
    (ds_cons (ds_set (i := 8) sc_l_good.nd (de_lcLZ rfl sc_l_good.nd (de_var 5) (blkOk_by (N := ["_law_form", "_law_kind", "_law_parcels", "_law_ahead", "_law_behind", "_law_words", "_law_rows", "_law_free_here", "_law_plains", "_law_word_here", "_law_row", "_law_plain_here"]) (sc := defScope s_l_good) (by decide +kernel)) (fun _ _ _ _ _ => pg_name (i := 9) sc_l_good.nd rfl (Or.inl rfl)) (fun _ _ _ _ _ => dts_nil) (fun _ _ _ _ _ => de_callG takes0 (ok_l_plain T) hr (T.glo 15) (da_cons (de_var 1) (da_cons (de_var 9) (da_nil))))))
    (ds_cons (ds_if ((dw_and (dt_cmp o_gt (de_callB c_len (by rfl) (T.free 5) bt_len (da_cons (de_var 8) (da_nil))) (de_int)) (dw_and1 (dt_cmp (o_ne hr.u64) (de_callB (c_all hr.hd) (by rfl) (T.free 10) bt_all (da_cons (de_lcLZ rfl sc_l_good.nd (de_var 8) (blkOk_by (N := ["_law_form", "_law_kind", "_law_parcels", "_law_ahead", "_law_behind", "_law_words", "_law_rows", "_law_free_here", "_law_plains", "_law_word_here", "_law_row", "_law_plain_here"]) (sc := defScope s_l_good) (by decide +kernel)) (fun _ _ _ _ _ => pg_name (i := 11) sc_l_good.nd rfl (Or.inl rfl)) (fun _ _ _ _ _ => dts_nil) (fun _ _ _ _ _ => de_cmp (o_eq hr.u64) (de_var 11) (de_ix i_ix (de_var 8) (de_int)))) (da_nil))) (de_var 7)))).pt) (ds_one (ds_ret (de_bl))) (ds_nil))
    (ds_cons (ds_if (dt_not (dt_tru (de_callB (c_all hr.hd) (by rfl) (T.free 10) bt_all (da_cons (de_lcLZ rfl sc_l_good.nd (de_var 6) (blkOk_by (N := ["_law_form", "_law_kind", "_law_parcels", "_law_ahead", "_law_behind", "_law_words", "_law_rows", "_law_free_here", "_law_plains", "_law_word_here", "_law_row", "_law_plain_here"]) (sc := defScope s_l_good) (by decide +kernel)) (fun _ _ _ _ _ => pg_name (i := 10) sc_l_good.nd rfl (Or.inl rfl)) (fun _ _ _ _ _ => dts_nil) (fun _ _ _ _ _ => de_callG takes0 (ok_l_asked T) hr (T.glo 32) (da_cons (de_var 0) (da_cons (de_var 1) (da_cons (de_var 10) (da_cons (de_var 3) (da_cons (de_var 4) (da_nil)))))))) (da_nil))))) (ds_one (ds_ret (de_bl))) (ds_nil))
    (ds_one (ds_ret (de_cmp (o_eq hr.u64) (de_callG tk (ok_l_twos T) hr (T.glo 35) (da_cons (de_var 1) (da_cons (de_var 2) (da_cons (de_var 3) (da_cons (de_var 4) (da_nil)))))) (de_var 7)))))))
theorem sc_l_refused : FnScope ["_law_name", "_law_parcels", "_law_caught", "_law_told_here", "e"] ["_law_name", "_law_parcels"] (defScope s_l_refused) := ⟨rfl, rfl, rfl, by decide +kernel, rfl, by decide +kernel, by decide +kernel⟩
theorem ok_l_refused (T : Tp P K mg base) : Okd P w K mg base 8 ("_law_refused", none) ["_law_name", "_law_parcels"] F_l_refused :=
  okd_of (k := 7) (d := d_l_refused) (N := ["_law_name", "_law_parcels", "_law_caught", "_law_told_here", "e"]) rfl rfl (T.fn 30 d_l_refused rfl) sc_l_refused rfl rfl (fun _ _ _ _ _ _ us hl => match us, hl with | [_, _], _ => rfl) fun f cdv A outer s H E hr hp tk =>
    ds_cons (ds_set (i := 2) sc_l_refused.nd (de_bl))
    (ds_cons (ds_set (i := 3) sc_l_refused.nd (de_str))
    (ds_cons (ds_tryAs (xc := "BadKind") sc_l_refused.nd tk ⟨rfl, by decide, Or.inl (T.glo 16)⟩ (xtab_cons (He.exm_ok (T.fac 24)) (xtab_nil))
      (fun W tkp xe tk hp => ds_one (ds_expr (de_callK (n := 2) (ks := []) [("before", .adr (kwdAt ("free_orders", none) "before")), ("after", .adr (kwdAt ("free_orders", none) "after"))] [.tup [], .tup []] [.df 0, .df 1] tk (okk_free_orders T) hr (T.glo 29) (by exact (sub_cons (List.Mem.head _) (sub_cons (List.Mem.tail _ (List.Mem.head _)) (sub_nil)))) (by exact fun Z φ => ⟨_, _, rfl, repB_ok _ _ (any_ok (T.ckf 40)), ⟨_, _, rfl, repB_ok _ _ (any_ok (T.ckf 39)), (rfl)⟩⟩) (da_cons (de_var 0) (da_cons (de_callTy c_listF (by rfl) (T.free 8) bt_list (da_cons (de_var 1) (da_nil))) (da_nil))) (dk_nil) (fun kV doc pm an cdv ct us mv ws l1 l2 l3 D hD => match us, l1, mv, l2, ws, l3 with | [_, _], _, [_, _], _, [], _ => by cases hD (List.cons_ne_nil _ _); exact ⟨_, _, _, _, _, _, rfl, rfl, ⟨_, _, _, _, _, _, rfl, rfl, rfl⟩⟩))))
      (fun a oe cls d pn c fs hz hf => dsx_cons (dsx_set (j := 2) sc_l_refused.nd (dex_of (de_bl))) (dsx_one (dsx_set (j := 3) sc_l_refused.nd (dex_fld (cs_cons ⟨xat_ok (T.ckf 3), He.noat_ok (T.fac 25)⟩ (cs_nil)) hz hf)))))
    (ds_one (ds_ret (de_and (de_var 2) (de_one (de_cmp (o_eq hr.u64) (de_var 3) (de_var 0))))))))
theorem sc_law : FnScope ["_law_script", "_law_stream_here", "_law_style", "_law_many", "_law_parcels", "_law_ahead", "_law_behind", "_law_form", "_law_kinds", "_law_words", "_law_gone", "_law_rows", "_law_kind", "_law_row", "_law_k"] ["_law_script"] (defScope s_law) := ⟨rfl, rfl, rfl, by decide +kernel, rfl, by decide +kernel, by decide +kernel⟩
theorem fn_law (T : Tp P K mg base) {fd : FuncData} (F : FunD K d_law.name d_law.qual d_law.params d_law.body d_law.scope [] [] (He.fAd K d_law.at_) fd) : FnOk P w K mg base (L2.CX P w) 11 (He.fAd K d_law.at_) fd ["_law_script"] (spF K F_law) :=
  fn_D (k := 10) (N := ["_law_script", "_law_stream_here", "_law_style", "_law_many", "_law_parcels", "_law_ahead", "_law_behind", "_law_form", "_law_kinds", "_law_words", "_law_gone", "_law_rows", "_law_kind", "_law_row", "_law_k"]) F sc_law rfl rfl fun cdv A outer s H E hr hp tk =>
    ds_cons (ds_set (i := 1) sc_law.nd (de_callG tk (ok_l_stream T) hr (T.glo 0) (da_cons (de_var 0) (da_nil))))
    (ds_cons (ds_set (i := 2) sc_law.nd (de_callG tk (ok_l_draw T) hr (T.glo 1) (da_cons (de_var 1) (da_cons (de_int) (da_nil)))))
    (ds_cons (ds_set (i := 3) sc_law.nd (de_ix i_ix (de_lstF (da_cons (de_int) (da_cons (de_int) (da_cons (de_int) (da_cons (de_int) (da_cons (de_int) (da_cons (de_int) (da_cons (de_int) (da_cons (de_int) (da_cons (de_int) (da_cons (de_int) (da_nil)))))))))))) (de_callG tk (ok_l_draw T) hr (T.glo 1) (da_cons (de_var 1) (da_cons (de_int) (da_nil))))))
    (ds_cons (ds_set (i := 4) sc_law.nd (de_callG tk (ok_l_drawn T) hr (T.glo 6) (da_cons (de_var 1) (da_cons (de_var 3) (da_cons (de_var 2) (da_nil))))))
    (ds_cons (ds_set (i := 5) sc_law.nd (de_callG tk (ok_l_around T) hr (T.glo 7) (da_cons (de_var 1) (da_cons (de_var 2) (da_nil)))))
    (ds_cons (ds_set (i := 6) sc_law.nd (de_callG tk (ok_l_around T) hr (T.glo 7) (da_cons (de_var 1) (da_cons (de_var 2) (da_nil)))))
    (ds_cons (ds_set (i := 7) sc_law.nd (de_callG tk (ok_l_draw T) hr (T.glo 1) (da_cons (de_var 1) (da_cons (de_int) (da_nil)))))
    (ds_cons (ds_if (dt_cmp o_gt (de_var 7) (de_int)) (ds_one (ds_set (i := 5) sc_law.nd (de_tup (da_nil)))) (ds_nil))
    (ds_cons (ds_if ((dw_or (dt_cmp (o_eq hr.u64) (de_var 7) (de_int)) (dw_or1 (dt_cmp (o_eq hr.u64) (de_var 7) (de_int)))).pt) (ds_one (ds_set (i := 6) sc_law.nd (de_tup (da_nil)))) (ds_nil))
    (ds_cons (ds_set (i := 8) sc_law.nd (de_tup (da_cons (de_str) (da_cons (de_str) (da_cons (de_str) (da_cons (de_str) (da_cons (de_str) (da_cons (de_str) (da_cons (de_str) (da_cons (de_str) (da_nil)))))))))))
    (ds_cons (ds_set (i := 9) sc_law.nd (de_lstF (da_nil)))
    (ds_cons (ds_if (dt_cmp o_gt (de_var 3) (de_int)) (ds_one (ds_set (i := 8) sc_law.nd (de_tup (da_cons (de_ix i_ix (de_var 8) (de_callG tk (ok_l_draw T) hr (T.glo 1) (da_cons (de_var 1) (da_cons (de_int) (da_nil))))) (da_nil))))) (ds_one (ds_lcLZ rfl sc_law.nd (de_callG tk (ok_l_orders T) hr (T.glo 8) (da_cons (de_var 3) (da_nil))) (blkOk_by (N := ["_law_script", "_law_stream_here", "_law_style", "_law_many", "_law_parcels", "_law_ahead", "_law_behind", "_law_form", "_law_kinds", "_law_words", "_law_gone", "_law_rows", "_law_kind", "_law_row", "_law_k"]) (sc := defScope s_law) (by decide +kernel)) (fun _ _ _ _ _ => pg_name (i := 13) sc_law.nd rfl (Or.inl rfl)) (fun _ _ _ _ _ => dts_nil) (fun _ _ _ _ _ => de_bin o_addF (de_bin o_addF (de_var 5) (de_callG takes0 (ok_l_joined T) hr (T.glo 9) (da_cons (de_lcLZ rfl sc_law.nd (de_var 13) (by refine blkOk_by (N := ["_law_script", "_law_stream_here", "_law_style", "_law_many", "_law_parcels", "_law_ahead", "_law_behind", "_law_form", "_law_kinds", "_law_words", "_law_gone", "_law_rows", "_law_kind", "_law_row", "_law_k"]) ?_; first | kernel_rfl | rfl) (fun _ _ _ _ _ => pg_name (i := 14) sc_law.nd rfl (Or.inl rfl)) (fun _ _ _ _ _ => dts_nil) (fun _ _ _ _ _ => de_ix i_ix (de_var 4) (de_var 14))) (da_nil)))) (de_var 6)) (sw_true rfl rfl rfl (by decide +kernel)))))
    (ds_cons (ds_set (i := 10) sc_law.nd (de_callG tk (ok_l_draw T) hr (T.glo 1) (da_cons (de_var 1) (da_cons (de_var 3) (da_nil)))))
    (ds_cons (ds_set (i := 11) sc_law.nd (de_lst (da_cons (de_var 4) (da_cons (de_bin o_addF (de_slF (de_var 4) (do_some (de_int)) (do_none)) (de_slF (de_var 4) (do_none) (do_some (de_int)))) (da_nil)))))
    (ds_cons (ds_if (dt_cmp o_gt (de_var 3) (de_int)) (ds_one (ds_expr (de_append (de_var 11) (da_cons (de_bin o_addF (de_slF (de_var 4) (do_none) (do_some (de_var 10))) (de_slF (de_var 4) (do_some (de_bin o_addF (de_var 10) (de_int))) (do_none))) (da_nil))))) (ds_nil))
    (ds_cons (ds_for hp rfl (de_var 8) (dg_name (i := 12) sc_law.nd) (ds_one (ds_if (dt_not (dt_tru (de_callG tk (ok_l_good T) hr (T.glo 36) (da_cons (de_var 7) (da_cons (de_var 12) (da_cons (de_var 4) (da_cons (de_var 5) (da_cons (de_var 6) (da_cons (de_var 9) (da_cons (de_var 11) (da_nil))))))))))) (ds_one (ds_ret (de_bl))) (ds_nil))))
    (ds_one (ds_ret (de_callG tk (ok_l_refused T) hr (T.glo 37) (da_cons (de_ix i_ix (de_lstF (da_cons (de_str) (da_cons (de_str) (da_cons (de_str) (da_cons (de_str) (da_cons (de_str) (da_cons (de_non) (da_cons (de_int) (da_nil))))))))) (de_callG tk (ok_l_draw T) hr (T.glo 1) (da_cons (de_var 1) (da_cons (de_int) (da_nil))))) (da_cons (de_var 4) (da_nil)))))))))))))))))))))
end
end G

end
section
set_option Elab.async false
set_option linter.all false
set_option maxRecDepth 100000
set_option maxHeartbeats 0
namespace G
open PySem PySem.Spec L2 M
abbrev Rw : PySem.W.OpenRow := PySem.W.OpenLaw.row PySem.Challenge.rw_movedstates_k39_free_orders_exactly
abbrev hk : PySem.W.Hook := hookM 6 want
def ob (s : PySem.W.SharedT) : AlM := obsMG 6 want (HandSHeadRun.getT s)
theorem ob_eq (s : PySem.W.SharedT) : ob s = hk.obs s.abs := obsMG_eq (HandSHeadRun.getT_eq s)
def loose : List Str := (("MovedError") :: ("BadKind") :: ("Kind") :: ("BagKind") :: ("SetKind") :: ("HeadsKind") :: ("FirstKind") :: ("TailsKind") :: ("LastKind") :: ("EndsKind") :: ("kind_named") :: ("alike") :: ("word_of") :: ("first_clash") :: ("free_shuffles") :: ("exchanged") :: ("free_orders") :: ("_law_stream") :: ("_law_draw") :: ("_law_wide") :: ("_law_value") :: ("_law_word") :: ("_law_parcel") :: ("_law_drawn") :: ("_law_around") :: ("_law_joined") :: ("_law_plain") :: ("_law_new") :: ("_law_rear") :: ("_law_chained") :: ("_law_orders") :: ("_law_two") :: ("_law_free") :: ("_law_pair") :: ("_law_told") :: ("_law_asked") :: ("_law_twos") :: ("_law_refused") :: ("_law_good") :: [])
theorem run (w : World) : HandSHeadRun.RunEq Rw (PySem.W.view Rw.prog [43]) hk ob 8000 loose w := by
  intro os
  kernel_rfl
end G

end
section
set_option Elab.async false
set_option linter.all false
set_option maxRecDepth 100000
set_option maxHeartbeats 0
namespace G
open PySem PySem.Spec L2 M
theorem tp_of {P : Program} {K : PySem.W.Frag} {h : Heap} {mg : Str → Option Value} {base : Heap} (G : h.Ns mainGlobals mg) (c : SaysM want K h) (tb : ∀ t ∈ tabsAll K, LamX.TabB base mg t.1 t.2.1) (hP : P = PySem.Challenge.pw_movedstates_k39_free_orders_exactly) : Tp P K mg base := by
  subst hP
  refine ⟨⟨h, c⟩, fun i x e => ?_, fun i x e => ?_, tb, by decide +kernel, by decide +kernel⟩
  · have hm : He.Fa.free x ∈ fas := List.mem_append_right _ (List.mem_append_left _ (List.mem_map.mpr ⟨x, List.mem_of_getElem? e, rfl⟩))
    obtain ⟨j, hj⟩ := List.getElem?_of_mem hm
    exact He.free_ok c.kin G (c.d.fact j hj)
  · have hm : He.Fa.glo x ∈ fas := List.mem_append_right _ (List.mem_append_right _ (List.mem_map.mpr ⟨x, List.mem_of_getElem? e, rfl⟩))
    obtain ⟨j, hj⟩ := List.getElem?_of_mem hm
    exact He.glo_ok c.kin G (c.d.fact j hj)
def Pure : Prop := ∀ (ns : List Int), ns.length ≤ 63 → (∀ z ∈ ns, Builtin.Int.intBits z ≤ 1048576) → ∃ st, F_law [.fz (.rol (ns.map P.int))] [] = .ok (.fz (.bl true), st)
end G
open PySem PySem.W PySem.Calls PyProof.Rows
theorem holds_of (hp : G.Pure) : PySem.Challenge.rw_movedstates_k39_free_orders_exactly.Holds := by
  w_on; o_law
  refine HandSHeadRun.head_any (r := OpenLaw.row PySem.Challenge.rw_movedstates_k39_free_orders_exactly) (q := view (OpenLaw.row PySem.Challenge.rw_movedstates_k39_free_orders_exactly).prog [43]) (H := G.hk) (ob := G.ob) (M := 8000) (loose := G.loose) (d := HandSHeadRun.topDef (OpenLaw.row PySem.Challenge.rw_movedstates_k39_free_orders_exactly).prog 43) (kwd := []) G.ob_eq
    (by kernel_rfl) (fun s => by kernel_rfl) G.run (by kernel_rfl) (by kernel_rfl) (by kernel_rfl) (by rfl) (by first | assumption | decide +kernel) (by decide +kernel) ⟨rfl, rfl, rfl, rfl, rfl, by decide +kernel⟩ ?hw ?hc
  case hw => w_witness2
  case hc =>
    refine M.walk_ofM (l := PySem.Challenge.rw_movedstates_k39_free_orders_exactly) (n := 63) (k := 11) (x := "_law_script") rfl (by decide) (by kernel_rfl) ⟨rfl, by decide, by decide⟩ ?F
    intro w mg fa h Y Gn hmg0
    obtain ⟨K, c⟩ := Y
    have hmg : mg ("law" : PySem.Str) = some (.ref fa) := by
      have e : (HandSHeadRun.topDef (OpenLaw.row PySem.Challenge.rw_movedstates_k39_free_orders_exactly).prog 43).name = ("law" : PySem.Str) := by kernel_rfl
      rw [← e]
      exact hmg0
    obtain ⟨fd, F⟩ := c.d.def_ 31 (d := G.d_law) rfl
    have hl : He.Fa.glo "law" ∈ G.fas := by simp [G.fas, G.glos]
    obtain ⟨j, hj⟩ := List.getElem?_of_mem hl
    have e := hmg.symm.trans (He.glo_ok c.kin Gn (c.d.fact j hj))
    cases e
    have F' : L2.FunD K G.d_law.name G.d_law.qual G.d_law.params G.d_law.body G.d_law.scope [] [] (He.fAd K G.d_law.at_) fd := F
    have b := L2.FunD.bindsA (ps := ["_law_script"]) F' fun _ _ _ _ _ _ us hl => match us, hl with | [_], _ => rfl
    exact ⟨K, fd, G.F_law, c.kin, c.th, fun s v => b s [v] rfl, fun ns h1 h2 => hp ns h1 h2, fun base hK hN hT => G.fn_law (G.tp_of Gn c hT rfl) F'⟩

end
section
section
set_option Elab.async false
set_option linter.all false
set_option maxRecDepth 100000
set_option maxHeartbeats 0
namespace G
open PySem L2 M
def drawV (xs : List Int) (m : Int) : Int := match xs.getLast? with
  | none => 0
  | some x => x % m
theorem drawV_bd {xs : List Int} {m : Int} (hm : 0 < m) : 0 ≤ drawV xs m ∧ drawV xs m < m := by
  unfold drawV
  split
  · exact ⟨Int.le_refl _, hm⟩
  · exact ⟨Int.emod_nonneg _ (by omega), Int.emod_lt_of_pos _ hm⟩
def drawS (xs : List Int) : List Int := xs.dropLast
theorem draw_eq (xs : List Int) {m : Int} (hm : 0 < m) : F_l_draw [.cell 0, .fz (.int m)] [.lst (xs.map P.int)] = .ok (.fz (.int (drawV xs m)), [.lst (xs.dropLast.map P.int)]) := by
  rcases List.eq_nil_or_concat xs with rfl | ⟨ys, y, rfl⟩
  · refine run1 (η' := [some (.cell 0), some (.fz (.int m))]) (st' := [.lst []]) rfl ?_ rfl rfl
    simp [b_l_draw, dSeq, dIf, dTru, dBin, dUn, dAp, dCons, dNil, dVar, dK, dRet, dEx, dAsg, gNm, dSkip, dNot, dOr, dAnd, dCall, dBM, dSl, dPart, dNoPart, lenO, peek, lenP, eqO, neO, truO, truP, isLst, popO, appendO, int1O, intO, addO, mulO, negO, ixO, itemsP, tupO, lstO, listO, tupleO, toPs, toP, szL, drawV]
  · refine run1 (η' := [some (.cell 0), some (.fz (.int m))]) (st' := [.lst (ys.map P.int)]) rfl ?_ ?_ rfl
    · have h1 : ¬ ((ys.length : Int) + 1 = 0) := by omega
      simp [b_l_draw, dSeq, dIf, dTru, dBin, dUn, dAp, dCons, dNil, dVar, dK, dRet, dEx, dAsg, gNm, dSkip, dNot, dOr, dAnd, dCall, dBM, dSl, dPart, dNoPart, lenO, peek, lenP, eqO, neO, truO, truP, isLst, popO, appendO, int1O, intO, addO, mulO, negO, ixO, itemsP, tupO, lstO, listO, tupleO, toPs, toP, szL, drawV, hm, h1]
    · simp
theorem c_draw (xs : List Int) {m : Int} (hm : 0 < m) {η : Et} {rest : Sr} : callF F_l_draw [.cell 0, .fz (.int m)] η (.lst (xs.map P.int) :: rest) = .ok (.fz (.int (drawV xs m)), .lst ((drawS xs).map P.int) :: rest) :=
  callF_c (F := F_l_draw) (as := []) (bs := [.int m]) (n := 0) rfl rfl rfl (draw_eq xs hm)
theorem wide_loop : ∀ (l : List P) (xs : List Int) (a : Int) (o : Option D), ∃ a' ys o', loopD (gNm 2) b_l_wide_1 l [some (.cell 0), some (.fz (.int a)), o] [.lst (xs.map P.int)] = .ok (.nx, [some (.cell 0), some (.fz (.int a')), o'], [.lst (List.map P.int ys)])
  | [], xs, a, o => ⟨a, xs, o, rfl⟩
  | x :: l, xs, a, o => by
    obtain ⟨a', ys, o', h⟩ := wide_loop l (drawS xs) (a * 100 + drawV xs 100) (some (.fz x))
    refine ⟨a', ys, o', ?_⟩
    unfold loopD
    have e : b_l_wide_1 [some (.cell 0), some (.fz (.int a)), some (.fz x)] [.lst (xs.map P.int)] = .ok (.nx, [some (.cell 0), some (.fz (.int (a * 100 + drawV xs 100))), some (.fz x)], [.lst ((drawS xs).map P.int)]) := by
      simp [b_l_wide_1, dSeq, dIf, dTru, dBin, dUn, dAp, dCons, dNil, dVar, dK, dRet, dEx, dAsg, gNm, dSkip, dNot, dOr, dAnd, dCall, dBM, dSl, dPart, dNoPart, lenO, peek, lenP, eqO, neO, truO, truP, isLst, popO, appendO, int1O, intO, addO, mulO, negO, ixO, itemsP, tupO, lstO, listO, tupleO, toPs, toP, szL, c_draw xs (show (0 : Int) < 100 by decide)]
    show ((b_l_wide_1 [some (.cell 0), some (.fz (.int a)), some (.fz x)] [.lst (xs.map P.int)]).bind fun r => _) = _
    rw [e]
    exact h
theorem wide_ex (xs : List Int) : ∃ r ys, F_l_wide [.cell 0] [.lst (xs.map P.int)] = .ok (.fz (.int r), [.lst (List.map P.int ys)]) := by
  obtain ⟨a, ys, o, h⟩ := wide_loop (rangeP 0 11) xs 0 none
  refine ⟨if drawV ys 2 = 1 then -a else a, (drawS ys), ?_⟩
  refine run1 (η' := [some (.cell 0), some (.fz (.int a)), o]) (st' := [.lst ((drawS ys).map P.int)]) rfl ?_ rfl rfl
  have h' : loopD (gNm 2) b_l_wide_1 (rangeP 0 11) [some (D.cell 0), some (D.fz (P.int 0)), none] [Ct.lst (List.map P.int xs)] = R.ok (Fl.nx, [some (D.cell 0), some (D.fz (P.int a)), o], [Ct.lst (List.map P.int ys)]) := h
  by_cases hc : drawV ys 2 = 1
  · simp [b_l_wide, dSeq, dIf, dTru, dBin, dUn, dAp, dCons, dNil, dVar, dK, dRet, dEx, dAsg, gNm, dSkip, dNot, dOr, dAnd, dCall, dBM, dSl, dPart, dNoPart, lenO, peek, lenP, eqO, neO, truO, truP, isLst, popO, appendO, int1O, intO, addO, mulO, negO, ixO, itemsP, tupO, lstO, listO, tupleO, toPs, toP, szL, dForR1, h', c_draw ys (show (0 : Int) < 2 by decide), hc]
  · simp [b_l_wide, dSeq, dIf, dTru, dBin, dUn, dAp, dCons, dNil, dVar, dK, dRet, dEx, dAsg, gNm, dSkip, dNot, dOr, dAnd, dCall, dBM, dSl, dPart, dNoPart, lenO, peek, lenP, eqO, neO, truO, truP, isLst, popO, appendO, int1O, intO, addO, mulO, negO, ixO, itemsP, tupO, lstO, listO, tupleO, toPs, toP, szL, dForR1, h', c_draw ys (show (0 : Int) < 2 by decide), hc]
theorem c_one {F : DF} {as : List P} {xs ys : List Int} {q : P} {η : Et} {rest : Sr} (h : F (.cell 0 :: as.map D.fz) [.lst (xs.map P.int)] = .ok (.fz q, [.lst (ys.map P.int)])) : callF F (.cell 0 :: as.map D.fz) η (.lst (xs.map P.int) :: rest) = .ok (.fz q, .lst (ys.map P.int) :: rest) :=
  callF_c (F := F) (as := []) (bs := as) (n := 0) rfl rfl rfl h
theorem value_ex (xs : List Int) (sty : Int) : ∃ r ys, F_l_value [.cell 0, .fz (.int sty)] [.lst (xs.map P.int)] = .ok (.fz (.int r), [.lst (List.map P.int ys)]) := by
  by_cases h2 : sty < 2
  · refine ⟨drawV xs 3, (drawS xs), run1 (η' := [some (.cell 0), some (.fz (.int sty))]) (st' := [.lst ((drawS xs).map P.int)]) rfl ?_ rfl rfl⟩
    simp [b_l_value, dSeq, dIf, dTru, dBin, dUn, dAp, dCons, dNil, dVar, dK, dRet, dEx, dAsg, gNm, dSkip, dNot, dOr, dAnd, dCall, dBM, dSl, dPart, dNoPart, lenO, peek, lenP, eqO, neO, truO, truP, isLst, popO, appendO, int1O, intO, addO, mulO, negO, ixO, itemsP, tupO, lstO, listO, tupleO, toPs, toP, szL, c_draw xs (show (0 : Int) < 3 by decide), h2]
  by_cases h3 : sty = 2
  · subst h3
    refine ⟨drawV xs 6, (drawS xs), run1 (η' := [some (.cell 0), some (.fz (.int 2))]) (st' := [.lst ((drawS xs).map P.int)]) rfl ?_ rfl rfl⟩
    simp [b_l_value, dSeq, dIf, dTru, dBin, dUn, dAp, dCons, dNil, dVar, dK, dRet, dEx, dAsg, gNm, dSkip, dNot, dOr, dAnd, dCall, dBM, dSl, dPart, dNoPart, lenO, peek, lenP, eqO, neO, truO, truP, isLst, popO, appendO, int1O, intO, addO, mulO, negO, ixO, itemsP, tupO, lstO, listO, tupleO, toPs, toP, szL, c_draw xs (show (0 : Int) < 6 by decide)]
  by_cases h4 : sty = 3
  · subst h4
    refine ⟨drawV xs 100 - drawV (drawS xs) 100, (drawS (drawS xs)), run1 (η' := [some (.cell 0), some (.fz (.int 3))]) (st' := [.lst ((drawS (drawS xs)).map P.int)]) rfl ?_ rfl rfl⟩
    simp [b_l_value, dSeq, dIf, dTru, dBin, dUn, dAp, dCons, dNil, dVar, dK, dRet, dEx, dAsg, gNm, dSkip, dNot, dOr, dAnd, dCall, dBM, dSl, dPart, dNoPart, lenO, peek, lenP, eqO, neO, truO, truP, isLst, popO, appendO, int1O, intO, addO, mulO, negO, ixO, itemsP, tupO, lstO, listO, tupleO, toPs, toP, szL, c_draw xs (show (0 : Int) < 100 by decide), c_draw (drawS xs) (show (0 : Int) < 100 by decide)]
  by_cases h5 : sty = 4
  · subst h5
    have b1 := drawV_bd (xs := xs) (show (0 : Int) < 3 by decide)
    have b2 := drawV_bd (xs := (drawS xs)) (show (0 : Int) < 2 by decide)
    refine ⟨(drawV xs 3 - drawV (drawS xs) 2) * 100000000000000000000, (drawS (drawS xs)), run1 (η' := [some (.cell 0), some (.fz (.int 4))]) (st' := [.lst ((drawS (drawS xs)).map P.int)]) rfl ?_ rfl rfl⟩
    have hb : (-18446744073709551616 < drawV xs 3 - drawV (drawS xs) 2 ∧ drawV xs 3 - drawV (drawS xs) 2 < 18446744073709551616) := by omega
    simp [b_l_value, dSeq, dIf, dTru, dBin, dUn, dAp, dCons, dNil, dVar, dK, dRet, dEx, dAsg, gNm, dSkip, dNot, dOr, dAnd, dCall, dBM, dSl, dPart, dNoPart, lenO, peek, lenP, eqO, neO, truO, truP, isLst, popO, appendO, int1O, intO, addO, mulO, negO, ixO, itemsP, tupO, lstO, listO, tupleO, toPs, toP, szL, c_draw xs (show (0 : Int) < 3 by decide), c_draw (drawS xs) (show (0 : Int) < 2 by decide), hb]
  · obtain ⟨r, ys, h⟩ := wide_ex xs
    refine ⟨r, ys, run1 (η' := [some (.cell 0), some (.fz (.int sty))]) (st' := [.lst (ys.map P.int)]) rfl ?_ rfl rfl⟩
    have hw := fun η => c_one (F := F_l_wide) (as := []) (η := η) (rest := []) h
    simp only [List.map_nil] at hw
    simp [b_l_value, dSeq, dIf, dTru, dBin, dUn, dAp, dCons, dNil, dVar, dK, dRet, dEx, dAsg, gNm, dSkip, dNot, dOr, dAnd, dCall, dBM, dSl, dPart, dNoPart, lenO, peek, lenP, eqO, neO, truO, truP, isLst, popO, appendO, int1O, intO, addO, mulO, negO, ixO, itemsP, tupO, lstO, listO, tupleO, toPs, toP, szL, h2, h3, h4, h5, hw]
end G

end
section
set_option Elab.async false
set_option linter.all false
set_option maxRecDepth 100000
set_option maxHeartbeats 0
namespace G
open PySem L2 M
theorem word_loop (sty : Int) : ∀ (l : List P) (xs acc : List Int) (a : Option D) (o : Option D), acc.length + l.length ≤ 1000 → ∃ ws ys, ws.length = l.length ∧
    lcD 3 dYes (dCall F_l_value (dCons (dVar 0) (dCons (dVar 2) (dNil)))) [some (.cell 0), a, some (.fz (.int sty)), o] l (acc.map P.int) [.lst (xs.map P.int)] = .ok (List.map P.int (acc ++ ws), [.lst (List.map P.int ys)])
  | [], xs, acc, a, o, _ => ⟨[], xs, rfl, by simp [lcD]⟩
  | x :: l, xs, acc, a, o, h => by
    obtain ⟨r, zs, hv⟩ := value_ex xs sty
    obtain ⟨ws, ys, hl, ih⟩ := word_loop sty l zs (acc ++ [r]) a o (by simp at h ⊢; omega)
    refine ⟨r :: ws, ys, by simp [hl], ?_⟩
    have hc := fun η => c_one (F := F_l_value) (as := [.int sty]) (η := η) (rest := []) hv
    simp only [List.map_cons, List.map_nil] at hc
    have hlt : acc.length < 16777216 := by simp at h; omega
    rw [show acc ++ r :: ws = (acc ++ [r]) ++ ws by simp, ← ih]
    simp [lcD, dYes, dSeq, dIf, dTru, dBin, dUn, dAp, dCons, dNil, dVar, dK, dRet, dEx, dAsg, gNm, dSkip, dNot, dOr, dAnd, dCall, dBM, dSl, dPart, dNoPart, lenO, peek, lenP, eqO, neO, truO, truP, isLst, popO, appendO, int1O, intO, addO, mulO, negO, ixO, itemsP, tupO, lstO, listO, tupleO, toPs, toP, szL, hc, hlt]
theorem word_body (k : Nat) (sty : Int) (xs ws ys : List Int) (hk : k ≤ 100) (h : lcD 3 dYes (dCall F_l_value (dCons (dVar 0) (dCons (dVar 2) (dNil)))) [some (.cell 0), some (.fz (.int k)), some (.fz (.int sty)), none] (rangeP 0 k) [] [.lst (xs.map P.int)] = .ok (List.map P.int ws, [.lst (List.map P.int ys)])) :
    b_l_word [some (.cell 0), some (.fz (.int k)), some (.fz (.int sty)), none] [.lst (xs.map P.int)] = .ok (.rt (.fz (.tup (ws.map P.int))), [some (.cell 0), some (.fz (.int k)), some (.fz (.int sty)), none], [.lst (ys.map P.int), .lst (ws.map P.int)]) := by
  have e : dLcR1 (dCons (dVar 1) (dNil)) 3 dYes (dCall F_l_value (dCons (dVar 0) (dCons (dVar 2) (dNil)))) [some (.cell 0), some (.fz (.int k)), some (.fz (.int sty)), none] [.lst (xs.map P.int)] = .ok (.cell 1, [.lst (ys.map P.int), .lst (ws.map P.int)]) := by
    rw [lcR1_eq (k := k) (st' := [.lst (xs.map P.int)]) rfl (by omega), h, lcF_ok]
    rfl
  generalize hg : dLcR1 (dCons (dVar 1) (dNil)) 3 dYes (dCall F_l_value (dCons (dVar 0) (dCons (dVar 2) (dNil)))) = g at e
  unfold b_l_word
  rw [hg]
  simp [dSeq, dIf, dTru, dBin, dUn, dAp, dCons, dNil, dVar, dK, dRet, dEx, dAsg, gNm, dSkip, dNot, dOr, dAnd, dCall, dBM, dSl, dPart, dNoPart, lenO, peek, lenP, eqO, neO, truO, truP, isLst, popO, appendO, int1O, intO, addO, mulO, negO, ixO, itemsP, tupO, lstO, listO, tupleO, toPs, toP, szL, e]
theorem word_ex (xs : List Int) (sty : Int) (k : Nat) (hk : k ≤ 100) : ∃ ws ys, ws.length = k ∧ F_l_word [.cell 0, .fz (.int k), .fz (.int sty)] [.lst (xs.map P.int)] = .ok (.fz (.tup (List.map P.int ws)), [.lst (List.map P.int ys)]) := by
  obtain ⟨ws, ys, hl, h⟩ := word_loop sty (rangeP 0 k) xs [] (some (.fz (.int k))) none (by rw [rangeP_len]; simp; omega)
  rw [rangeP_len] at hl
  refine ⟨ws, ys, hl, ?_⟩
  exact run1 (n := 4) (b := b_l_word) (ds := [.cell 0, .fz (.int k), .fz (.int sty)]) rfl (word_body k sty xs ws ys hk h) rfl rfl
def kinds : List Str := ["list", "bag", "set", "first", "last", "ends", "heads", "tails"]
theorem lt8 {i : Int} (h : 0 ≤ i ∧ i < 8) : i = 0 ∨ i = 1 ∨ i = 2 ∨ i = 3 ∨ i = 4 ∨ i = 5 ∨ i = 6 ∨ i = 7 := by omega
end G

end
section
set_option Elab.async false
set_option linter.all false
set_option maxRecDepth 100000
set_option maxHeartbeats 0
namespace G
open PySem L2 M
def bads : List P := [.str "lists", .str "List", .str "", .str "bags", .str "se", .str "head", .str " set", .str "first ", .str "none", .str "tail", .str "ends=", .non, .int 0, .tup [.str "list"]]
theorem lt14 {i : Int} (h : 0 ≤ i ∧ i < 14) : i = 0 ∨ i = 1 ∨ i = 2 ∨ i = 3 ∨ i = 4 ∨ i = 5 ∨ i = 6 ∨ i = 7 ∨ i = 8 ∨ i = 9 ∨ i = 10 ∨ i = 11 ∨ i = 12 ∨ i = 13 := by omega
/-! ### the stream -/
theorem in_loop (s0 s2 s3 : Option D) (rest : Sr) : ∀ (l : List P) (acc : List Int) (r : Int) (o : Option D), acc.length + l.length ≤ 100000 → ∃ r' acc' o', acc'.length ≤ acc.length + l.length ∧
    loopD (gNm 5) b_l_stream_2 l [s0, some (.cell 0), s2, s3, some (.fz (.int r)), o] (.lst (acc.map P.int) :: rest) = .ok (.nx, [s0, some (.cell 0), s2, s3, some (.fz (.int r')), o'], .lst (List.map P.int acc') :: rest)
  | [], acc, r, o, _ => ⟨r, acc, o, Nat.le_refl _, rfl⟩
  | x :: l, acc, r, o, h => by
    have hlt : acc.length < 16777216 := by simp at h; omega
    by_cases hc : r / 100 = 0
    · refine ⟨r / 100, acc ++ [r % 100], some (.fz x), by simp, ?_⟩
      have e : b_l_stream_2 [s0, some (.cell 0), s2, s3, some (.fz (.int r)), some (.fz x)] (.lst (acc.map P.int) :: rest) = .ok (.bk, [s0, some (.cell 0), s2, s3, some (.fz (.int (r / 100))), some (.fz x)], .lst ((acc ++ [r % 100]).map P.int) :: rest) := by
        simp [b_l_stream_2, dSeq, dIf, dTru, dBin, dUn, dAp, dCons, dNil, dVar, dK, dRet, dEx, dAsg, gNm, dSkip, dNot, dOr, dAnd, dCall, dBM, dSl, dPart, dNoPart, lenO, peek, lenP, eqO, neO, truO, truP, isLst, popO, appendO, int1O, intO, addO, mulO, negO, ixO, itemsP, tupO, lstO, listO, tupleO, toPs, toP, szL, dBrk, hlt, hc]
      unfold loopD
      show ((b_l_stream_2 [s0, some (.cell 0), s2, s3, some (.fz (.int r)), some (.fz x)] (.lst (acc.map P.int) :: rest)).bind fun r => _) = _
      rw [e]
      rfl
    · obtain ⟨r', acc', o', hl, ih⟩ := in_loop s0 s2 s3 rest l (acc ++ [r % 100]) (r / 100) (some (.fz x)) (by simp at h ⊢; omega)
      refine ⟨r', acc', o', by simp at hl ⊢; omega, ?_⟩
      have e : b_l_stream_2 [s0, some (.cell 0), s2, s3, some (.fz (.int r)), some (.fz x)] (.lst (acc.map P.int) :: rest) = .ok (.nx, [s0, some (.cell 0), s2, s3, some (.fz (.int (r / 100))), some (.fz x)], .lst ((acc ++ [r % 100]).map P.int) :: rest) := by
        simp [b_l_stream_2, dSeq, dIf, dTru, dBin, dUn, dAp, dCons, dNil, dVar, dK, dRet, dEx, dAsg, gNm, dSkip, dNot, dOr, dAnd, dCall, dBM, dSl, dPart, dNoPart, lenO, peek, lenP, eqO, neO, truO, truP, isLst, popO, appendO, int1O, intO, addO, mulO, negO, ixO, itemsP, tupO, lstO, listO, tupleO, toPs, toP, szL, dBrk, hlt, hc]
      unfold loopD
      show ((b_l_stream_2 [s0, some (.cell 0), s2, s3, some (.fz (.int r)), some (.fz x)] (.lst (acc.map P.int) :: rest)).bind fun r => _) = _
      rw [e]
      exact ih
end G

end
section
set_option Elab.async false
set_option linter.all false
set_option maxRecDepth 100000
set_option maxHeartbeats 0
namespace G
open PySem L2 M
theorem two_ok {j : Int} {st : Sr} : mulO (.fz (.int 2)) (.fz (.int j)) st = .ok (.fz (.int (2 * j)), st) := mulO_l (by decide +kernel)
theorem sA (s0 : Option D) (rest : Sr) (k : Nat) (z a : Int) (acc : List Int) (o4 o5 : Option D) (hae : (if z < 0 then -z else z) = a) :
    dAsg (dAp absO (dCons (dVar 3) (dNil))) (gNm 4) [s0, some (.cell 0), some (.fz (.int k)), some (.fz (.int z)), o4, o5] (.lst (acc.map P.int) :: rest) = .ok (.nx, [s0, some (.cell 0), some (.fz (.int k)), some (.fz (.int z)), some (.fz (.int a)), o5], .lst (acc.map P.int) :: rest) := by
  simp [dSeq, dIf, dTru, dBin, dUn, dAp, dCons, dNil, dVar, dK, dRet, dEx, dAsg, gNm, dSkip, dNot, dOr, dAnd, dCall, dBM, dSl, dPart, dNoPart, lenO, peek, lenP, eqO, neO, truO, truP, isLst, popO, appendO, int1O, intO, addO, negO, ixO, itemsP, tupO, lstO, listO, tupleO, toPs, toP, szL, absO, hae]
theorem sB (s0 o5 : Option D) (st : Sr) (k : Nat) (z a s : Int) (hs : (if z < 0 then 1 else 0) = s) :
    dBin addO (dBin addO (dK (.int 6364136223846793005)) (dBin mulO (dK (.int 2)) (dVar 2))) (dAp int1O (dCons (dBin ltO (dVar 3) (dK (.int 0))) (dNil))) [s0, some (.cell 0), some (.fz (.int k)), some (.fz (.int z)), some (.fz (.int a)), o5] st = .ok (.fz (.int (6364136223846793005 + 2 * (k : Int) + s)), st) := by
  have e1 : dBin mulO (dK (.int 2)) (dVar 2) [s0, some (.cell 0), some (.fz (.int k)), some (.fz (.int z)), some (.fz (.int a)), o5] st = .ok (.fz (.int (2 * (k : Int))), st) := by
    show mulO (.fz (.int 2)) (.fz (.int k)) st = _
    exact two_ok
  have e2 : dAp int1O (dCons (dBin ltO (dVar 3) (dK (.int 0))) (dNil)) [s0, some (.cell 0), some (.fz (.int k)), some (.fz (.int z)), some (.fz (.int a)), o5] st = .ok (.fz (.int s), st) := by
    rw [← hs]
    by_cases h : z < 0 <;> simp [dSeq, dIf, dTru, dBin, dUn, dAp, dCons, dNil, dVar, dK, dRet, dEx, dAsg, gNm, dSkip, dNot, dOr, dAnd, dCall, dBM, dSl, dPart, dNoPart, lenO, peek, lenP, eqO, neO, truO, truP, isLst, popO, appendO, int1O, intO, addO, negO, ixO, itemsP, tupO, lstO, listO, tupleO, toPs, toP, szL, h]
  show ((((dK (.int 6364136223846793005) _ st).bind fun x => (dBin mulO (dK (.int 2)) (dVar 2) [s0, some (.cell 0), some (.fz (.int k)), some (.fz (.int z)), some (.fz (.int a)), o5] x.2).bind fun y => addO x.1 y.1 y.2)).bind fun x => (dAp int1O (dCons (dBin ltO (dVar 3) (dK (.int 0))) (dNil)) [s0, some (.cell 0), some (.fz (.int k)), some (.fz (.int z)), some (.fz (.int a)), o5] x.2).bind fun y => addO x.1 y.1 y.2) = _
  rw [show dK (.int 6364136223846793005) [s0, some (.cell 0), some (.fz (.int k)), some (.fz (.int z)), some (.fz (.int a)), o5] st = .ok (.fz (.int 6364136223846793005), st) from rfl, bind_ok, e1, bind_ok]
  show ((R.ok (D.fz (.int (6364136223846793005 + 2 * (k : Int))), st)).bind fun x => (dAp int1O (dCons (dBin ltO (dVar 3) (dK (.int 0))) (dNil)) [s0, some (.cell 0), some (.fz (.int k)), some (.fz (.int z)), some (.fz (.int a)), o5] x.2).bind fun y => addO x.1 y.1 y.2) = _
  rw [bind_ok, e2, bind_ok]
  rfl
theorem asg_mod {f g : DE} {η : Et} {st : Sr} {i c m : Int} {j : Nat} (hf : f η st = .ok (.fz (.int i), st)) (hg : g η st = .ok (.fz (.int c), st)) (hi : -18446744073709551616 < i ∧ i < 18446744073709551616) (hm : 0 < m) :
    dAsg (dBin modO (dAp int1O (dCons (dBin mulO f g) (dNil))) (dK (.int m))) (gNm j) η st = .ok (.nx, η.set j (some (.fz (.int (i * c % m)))), st) := by
  simp only [dAsg, dBin, dAp, dCons, hf, hg, bind_ok, mulO_l hi, int1O, modO_ok hm, dK, gNm, dNil]
theorem emod_bd (x : Int) : 0 ≤ x % 1000000000000000003 ∧ x % 1000000000000000003 < 1000000000000000003 := ⟨Int.emod_nonneg _ (by decide +kernel), Int.emod_lt_of_pos _ (by decide +kernel)⟩
theorem bd1 {b : Int} (h0 : 0 ≤ b) (h : b < 1000000000000000000) : -18446744073709551616 < b ∧ b < 18446744073709551616 := by omega
theorem bd2 {b : Int} (h : 0 ≤ b ∧ b < 1000000000000000003) : -18446744073709551616 < b ∧ b < 18446744073709551616 := by omega
theorem seq_nx {f g : DS} {η η' : Et} {st st' : Sr} (h : f η st = .ok (.nx, η', st')) : dSeq f g η st = g η' st' := by
  unfold dSeq
  rw [h]
  rfl
theorem lt_tst {η : Et} {st : Sr} {a m : Int} {i : Nat} (h : η[i]? = some (some (.fz (.int a)))) : dTru (dBin ltO (dVar i) (dK (.int m))) η st = .ok (decide (a < m), st) := by
  unfold dTru dBin dVar
  rw [h]
  rfl
theorem if_t {t : DT} {f g : DS} {η : Et} {st : Sr} (h : t η st = .ok (true, st)) : dIf t f g η st = f η st := by
  unfold dIf
  rw [h]
  rfl
theorem if_f {t : DT} {f g : DS} {η : Et} {st : Sr} (h : t η st = .ok (false, st)) : dIf t f g η st = g η st := by
  unfold dIf
  rw [h]
  rfl
theorem enumP_cons (k : Nat) (p : P) (l : List P) : enumP k (p :: l) = .tup [.int k, p] :: enumP (k + 1) l := rfl
/-- what the inner loop starts from -/
theorem st_body (s0 : Option D) (rest : Sr) (k : Nat) (z : Int) (acc : List Int) (o4 o5 : Option D) (ha : acc.length ≤ 90000) : ∃ r' acc' o5', acc'.length ≤ acc.length + 60 ∧
    b_l_stream_1 [s0, some (.cell 0), some (.fz (.int k)), some (.fz (.int z)), o4, o5] (.lst (acc.map P.int) :: rest) = .ok (.nx, [s0, some (.cell 0), some (.fz (.int k)), some (.fz (.int z)), some (.fz (.int r')), o5'], .lst (List.map P.int acc') :: rest) := by
  have hin := fun r => in_loop s0 (some (.fz (.int k))) (some (.fz (.int z))) rest (rangeP 0 60) acc r o5 (by rw [rangeP_len]; omega)
  have hfor : ∀ r, ∃ r' acc' o', acc'.length ≤ acc.length + 60 ∧ dForR1 (dCons (dK (.int 60)) (dNil)) (gNm 5) b_l_stream_2 [s0, some (.cell 0), some (.fz (.int k)), some (.fz (.int z)), some (.fz (.int r)), o5] (.lst (acc.map P.int) :: rest) = .ok (.nx, [s0, some (.cell 0), some (.fz (.int k)), some (.fz (.int z)), some (.fz (.int r')), o'], .lst (List.map P.int acc') :: rest) := fun r => by
    obtain ⟨r', acc', o', hl, h⟩ := hin r
    rw [rangeP_len] at hl
    exact ⟨r', acc', o', hl, (forR1_eq (k := 60) (st' := .lst (acc.map P.int) :: rest) rfl (by decide)).trans h⟩
  generalize hg : dForR1 (dCons (dK (.int 60)) (dNil)) (gNm 5) b_l_stream_2 = fr at hfor
  obtain ⟨a, hae⟩ : ∃ a : Int, (if z < 0 then -z else z) = a := ⟨_, rfl⟩
  have ha0 : 0 ≤ a := by rw [← hae]; split <;> omega
  unfold b_l_stream_1
  rw [hg, seq_nx (sA s0 rest k z a acc o4 o5 hae)]
  by_cases hz : a < 1000000000000000000
  · obtain ⟨s, hs⟩ : ∃ s : Int, (if z < 0 then 1 else 0) = s := ⟨_, rfl⟩
    obtain ⟨b, hb⟩ : ∃ b : Int, b = a * (6364136223846793005 + 2 * (k : Int) + s) % 1000000000000000003 := ⟨_, rfl⟩
    have hb0 : 0 ≤ b ∧ b < 1000000000000000003 := by rw [hb]; exact emod_bd _
    obtain ⟨d, hd⟩ : ∃ d : Int, d = b * (b + 1442695040888963407) % 1000000000000000009 := ⟨_, rfl⟩
    obtain ⟨r', acc', o', hl, h⟩ := hfor d
    refine ⟨r', acc', o', hl, ?_⟩
    have e1 := asg_mod (j := 4) (m := 1000000000000000003) (f := dVar 4) (i := a) (η := [s0, some (.cell 0), some (.fz (.int k)), some (.fz (.int z)), some (.fz (.int a)), o5]) (st := .lst (acc.map P.int) :: rest) rfl (sB s0 o5 (.lst (acc.map P.int) :: rest) k z a s hs) (bd1 ha0 hz) (by decide +kernel)
    rw [← hb] at e1
    have e2 := asg_mod (j := 4) (m := 1000000000000000009) (f := dVar 4) (g := dBin addO (dVar 4) (dK (.int 1442695040888963407))) (i := b) (c := b + 1442695040888963407) (η := [s0, some (.cell 0), some (.fz (.int k)), some (.fz (.int z)), some (.fz (.int b)), o5]) (st := .lst (acc.map P.int) :: rest) rfl rfl (bd2 hb0) (by decide +kernel)
    rw [← hd] at e2
    have e3 : dIf (dTru (dBin ltO (dVar 4) (dK (.int 1000000000000000000)))) (dSeq (dAsg (dBin modO (dAp int1O (dCons (dBin mulO (dVar 4) (dBin addO (dBin addO (dK (.int 6364136223846793005)) (dBin mulO (dK (.int 2)) (dVar 2))) (dAp int1O (dCons (dBin ltO (dVar 3) (dK (.int 0))) (dNil))))) (dNil))) (dK (.int 1000000000000000003))) (gNm 4)) (dAsg (dBin modO (dAp int1O (dCons (dBin mulO (dVar 4) (dBin addO (dVar 4) (dK (.int 1442695040888963407)))) (dNil))) (dK (.int 1000000000000000009))) (gNm 4))) (dSkip) [s0, some (.cell 0), some (.fz (.int k)), some (.fz (.int z)), some (.fz (.int a)), o5] (.lst (acc.map P.int) :: rest) = .ok (.nx, [s0, some (.cell 0), some (.fz (.int k)), some (.fz (.int z)), some (.fz (.int d)), o5], .lst (acc.map P.int) :: rest) := by
      rw [if_t (by rw [lt_tst (a := a) rfl, decide_eq_true hz]), seq_nx e1]
      exact e2
    rw [seq_nx e3]
    exact h
  · obtain ⟨r', acc', o', hl, h⟩ := hfor a
    refine ⟨r', acc', o', hl, ?_⟩
    rw [seq_nx (if_f (by rw [lt_tst (a := a) rfl, decide_eq_false hz]))]
    exact h
theorem out_loop (s0 : Option D) (rest : Sr) : ∀ (zs : List Int) (k : Nat) (acc : List Int) (o2 o3 o4 o5 : Option D), acc.length + 60 * zs.length ≤ 90000 → ∃ acc' o2' o3' o4' o5',
    loopD (gTp [gNm 2, gNm 3]) b_l_stream_1 (enumP k (zs.map P.int)) [s0, some (.cell 0), o2, o3, o4, o5] (.lst (acc.map P.int) :: rest) = .ok (.nx, [s0, some (.cell 0), o2', o3', o4', o5'], .lst (List.map P.int acc') :: rest)
  | [], k, acc, o2, o3, o4, o5, _ => ⟨acc, o2, o3, o4, o5, rfl⟩
  | z :: zs, k, acc, o2, o3, o4, o5, h => by
    obtain ⟨r', acc1, o5', hl, hb⟩ := st_body s0 rest k z acc o4 o5 (by simp at h; omega)
    obtain ⟨acc', p2, p3, p4, p5, ih⟩ := out_loop s0 rest zs (k + 1) acc1 (some (.fz (.int k))) (some (.fz (.int z))) (some (.fz (.int r'))) o5' (by simp at h; omega)
    refine ⟨acc', p2, p3, p4, p5, ?_⟩
    rw [List.map_cons, enumP_cons]
    unfold loopD
    show ((b_l_stream_1 [s0, some (.cell 0), some (.fz (.int k)), some (.fz (.int z)), o4, o5] (.lst (acc.map P.int) :: rest)).bind fun r => _) = _
    rw [hb]
    exact ih
theorem stream_ex (ns : List Int) : ∃ ys, F_l_stream [.fz (.rol (ns.map P.int))] [] = .ok (.cell 0, [.lst (List.map P.int ys)]) := by
  have hcut : cutP (ns.map P.int) none (some 63) = (ns.take 63).map P.int := by
    unfold cutP
    rw [HT.sIx_none, show (some (63 : Int)) = some ((63 : Nat) : Int) from rfl, HT.sIx_nat, List.drop_zero, Nat.sub_zero, ← List.map_take]
    congr 1
    rw [List.length_map]
    exact List.take_eq_take_iff.mpr (by omega)
  obtain ⟨acc, o2, o3, o4, o5, h⟩ := out_loop (some (.fz (.rol (ns.map P.int)))) [.frz (.lst ((ns.take 63).map P.int))] (ns.take 63) 0 [] none none none none (by simp; omega)
  refine ⟨acc.reverse, ?_⟩
  have e1 : dAsg (dAp lstO (dNil)) (gNm 1) [some (.fz (.rol (ns.map P.int))), none, none, none, none, none] [] = .ok (.nx, [some (.fz (.rol (ns.map P.int))), some (.cell 0), none, none, none, none], [.lst []]) := rfl
  have e2 : dForE (dCons (dSl (dVar 0) (dNoPart) (dPart (dK (.int 63)))) (dNil)) (gTp [gNm 2, gNm 3]) b_l_stream_1 [some (.fz (.rol (ns.map P.int))), some (.cell 0), none, none, none, none] [.lst []] = .ok (.nx, [some (.fz (.rol (ns.map P.int))), some (.cell 0), o2, o3, o4, o5], [.lst (List.map P.int acc), .frz (.lst ((ns.take 63).map P.int))]) := by
    rw [← hcut] at h ⊢
    exact h
  have e3 : dEx (dBM isLst reverseO (dVar 1) dNil) [some (.fz (.rol (ns.map P.int))), some (.cell 0), o2, o3, o4, o5] [.lst (List.map P.int acc), .frz (.lst ((ns.take 63).map P.int))] = .ok (.nx, [some (.fz (.rol (ns.map P.int))), some (.cell 0), o2, o3, o4, o5], [.lst (List.map P.int acc).reverse, .frz (.lst ((ns.take 63).map P.int))]) := rfl
  have e4 : b_l_stream [some (.fz (.rol (ns.map P.int))), none, none, none, none, none] [] = .ok (.rt (.cell 0), [some (.fz (.rol (ns.map P.int))), some (.cell 0), o2, o3, o4, o5], [.lst (List.map P.int acc).reverse, .frz (.lst ((ns.take 63).map P.int))]) := by
    unfold b_l_stream
    rw [seq_nx e1, seq_nx e2, seq_nx e3]
    rfl
  unfold F_l_stream runF
  refine (if_pos rfl).trans ?_
  show endF false 0 (b_l_stream [some (.fz (.rol (ns.map P.int))), none, none, none, none, none] []) = _
  rw [e4, List.map_reverse]
  rfl
end G

end
section
set_option Elab.async false
set_option linter.all false
set_option maxRecDepth 100000
set_option maxHeartbeats 0
namespace G
open PySem L2 M
def kcs : List (Str × Str) := [("list", "Kind"), ("bag", "BagKind"), ("set", "SetKind"), ("first", "FirstKind"), ("last", "LastKind"), ("ends", "EndsKind"), ("heads", "HeadsKind"), ("tails", "TailsKind")]
theorem kn_0 : F_kind_named [.fz (.str "list")] [] = .ok (.fz (.obj "Kind" []), []) := by kernel_rfl
theorem kn_1 : F_kind_named [.fz (.str "bag")] [] = .ok (.fz (.obj "BagKind" []), []) := by kernel_rfl
theorem kn_2 : F_kind_named [.fz (.str "set")] [] = .ok (.fz (.obj "SetKind" []), []) := by kernel_rfl
theorem kn_3 : F_kind_named [.fz (.str "first")] [] = .ok (.fz (.obj "FirstKind" []), []) := by kernel_rfl
theorem kn_4 : F_kind_named [.fz (.str "last")] [] = .ok (.fz (.obj "LastKind" []), []) := by kernel_rfl
theorem kn_5 : F_kind_named [.fz (.str "ends")] [] = .ok (.fz (.obj "EndsKind" []), []) := by kernel_rfl
theorem kn_6 : F_kind_named [.fz (.str "heads")] [] = .ok (.fz (.obj "HeadsKind" []), []) := by kernel_rfl
theorem kn_7 : F_kind_named [.fz (.str "tails")] [] = .ok (.fz (.obj "TailsKind" []), []) := by kernel_rfl
theorem kn_ok : ∀ p ∈ kcs, F_kind_named [.fz (.str p.1)] [] = .ok (.fz (.obj p.2 []), []) := by
  intro p hp
  simp only [kcs, List.mem_cons, List.not_mem_nil, or_false] at hp
  rcases hp with rfl | rfl | rfl | rfl | rfl | rfl | rfl | rfl
  · exact kn_0
  · exact kn_1
  · exact kn_2
  · exact kn_3
  · exact kn_4
  · exact kn_5
  · exact kn_6
  · exact kn_7
end G

end
section
set_option Elab.async false
set_option linter.all false
set_option maxRecDepth 100000
set_option maxHeartbeats 0
namespace G
open PySem L2 M
/-- the word: a frozen tuple, or the list in cell 0 -/
def Wd (d : D) (pre : Sr) (ws : List Int) : Prop := (d = .fz (.tup (ws.map P.int)) ∧ pre = []) ∨ (d = .cell 0 ∧ pre = [.lst (ws.map P.int)])
def rngI (n : Nat) : List Int := (List.range n).map fun i : Nat => (i : Int)
theorem rangeP_ints (n : Nat) : rangeP 0 n = (rngI n).map P.int := by
  unfold rangeP rngI
  rw [List.map_map]
  congr 1
  funext i
  show P.int (0 + (i : Int)) = P.int i
  rw [Int.zero_add]
theorem kind_keep {d : D} {pre : Sr} {ws : List Int} (hw : Wd d pre ws) (hl : ws.length ≤ 1000) (self : P) : F_Kind_keep [.fz self, d] pre = .ok (.fz (.lst ((rngI ws.length).map P.int)), pre) := by
  have hb : (0 : Int) ≤ (ws.length : Int) ∧ (ws.length : Int) ≤ 16777216 := by omega
  rcases hw with ⟨rfl, rfl⟩ | ⟨rfl, rfl⟩
  · refine run0l (k := 0) (η' := [some (.fz self), some (.fz (.tup (ws.map P.int)))]) (st' := [.lst (rangeP 0 ws.length)]) rfl ?_ (by rw [rangeP_ints]; rfl)
    simp [b_Kind_keep, dSeq, dIf, dTru, dBin, dUn, dAp, dCons, dNil, dVar, dK, dRet, dEx, dAsg, gNm, dSkip, dNot, dOr, dAnd, dCall, dBM, dSl, dPart, dNoPart, lenO, peek, lenP, eqO, neO, truO, truP, isLst, popO, appendO, int1O, intO, addO, mulO, negO, ixO, itemsP, tupO, lstO, listO, tupleO, toPs, toP, szL, rgO, hb]
  · refine run1l (k := 0) (η' := [some (.fz self), some (.cell 0)]) (st' := [.lst (ws.map P.int), .lst (rangeP 0 ws.length)]) rfl ?_ (by rw [rangeP_ints]; rfl) rfl rfl
    simp [b_Kind_keep, dSeq, dIf, dTru, dBin, dUn, dAp, dCons, dNil, dVar, dK, dRet, dEx, dAsg, gNm, dSkip, dNot, dOr, dAnd, dCall, dBM, dSl, dPart, dNoPart, lenO, peek, lenP, eqO, neO, truO, truP, isLst, popO, appendO, int1O, intO, addO, mulO, negO, ixO, itemsP, tupO, lstO, listO, tupleO, toPs, toP, szL, rgO, hb]
theorem c_wd {F : DF} {d : D} {pre more : Sr} {ws : List Int} {self q : P} {η : Et} (hw : Wd d pre ws) (h : F [.fz self, d] pre = .ok (.fz q, pre)) : callF F [.fz self, d] η (pre ++ more) = .ok (.fz q, pre ++ more) := by
  rcases hw with ⟨rfl, rfl⟩ | ⟨rfl, rfl⟩
  · exact callF_fz (F := F) (ps := [self, .tup (ws.map P.int)]) h
  · exact callF_c (F := F) (as := [self]) (bs := []) (n := 0) (c := .lst (ws.map P.int)) (c' := .lst (ws.map P.int)) rfl rfl rfl h
end G

end
section
set_option Elab.async false
set_option linter.all false
set_option maxRecDepth 100000
set_option maxHeartbeats 0
namespace G
open PySem L2 M
theorem lk1 : look1 "BagKind" st_BagKind_keep = some F_Kind_keep := by rfl
theorem lk2 : look1 "SetKind" st_BagKind_keep = some F_Kind_keep := by rfl
theorem sup_eq {tab : List (Str × DF)} {F : DF} {c : Str} {d : D} {pre more : Sr} {ws : List Int} {q : P} {η : Et} (hw : Wd d pre ws) (h0 : η[0]? = some (some (.fz (.obj c [])))) (h1 : η[1]? = some (some d)) (hl : look1 c tab = some F) (h : F [.fz (.obj c []), d] pre = .ok (.fz q, pre)) :
    dSup tab (dCons (dVar 1) (dNil)) η (pre ++ more) = .ok (.fz q, pre ++ more) := by
  have e1 : dCons (dVar 1) (dNil) η (pre ++ more) = .ok ([d], pre ++ more) := by
    unfold dCons dVar
    rw [h1]
    rfl
  unfold dSup
  rw [h0]
  show (match (some c).bind fun c => look1 c tab with
    | some F => (dCons (dVar 1) (dNil) η (pre ++ more)).bind fun b => callF F (.fz (.obj c []) :: b.1) η b.2
    | none => .stuck) = _
  rw [show ((some c).bind fun c => look1 c tab) = some F from hl]
  show ((dCons (dVar 1) (dNil) η (pre ++ more)).bind fun b => callF F (.fz (.obj c []) :: b.1) η b.2) = _
  rw [e1]
  exact c_wd hw h
end G

end
section
set_option Elab.async false
set_option linter.all false
set_option maxRecDepth 100000
set_option maxHeartbeats 0
namespace G
open PySem L2 M
def bagIx (ws : List Int) : List Int := (rngI ws.length).mergeSort fun i j => decide (keyI (ws.map P.int) i ≤ keyI (ws.map P.int) j)
theorem rng_ok (ws : List Int) : (rngI ws.length).all (keyOkB (ws.map P.int)) = true := by
  rw [List.all_eq_true]
  intro i hi
  unfold rngI at hi
  obtain ⟨n, hn, rfl⟩ := List.mem_map.mp hi
  have hn := List.mem_range.mp hn
  unfold keyOkB
  rw [Int.toNat_natCast, List.getElem?_map, List.getElem?_eq_getElem hn]
  simp
theorem peek_wd {d : D} {pre more : Sr} {ws : List Int} (hw : Wd d pre ws) : (peek (pre ++ more) d).bind itemsP = some (ws.map P.int) := by
  rcases hw with ⟨rfl, rfl⟩ | ⟨rfl, rfl⟩ <;> rfl
theorem bag_keep {c : Str} (hc : look1 c st_BagKind_keep = some F_Kind_keep) {d : D} {pre : Sr} {ws : List Int} (hw : Wd d pre ws) (hl : ws.length ≤ 1000) : F_BagKind_keep [.fz (.obj c []), d] pre = .ok (.fz (.lst ((bagIx ws).map P.int)), pre) := by
  have e0 := sup_eq (tab := st_BagKind_keep) (more := []) (η := [some (.fz (.obj c [])), some d]) hw rfl rfl hc (kind_keep hw hl _)
  rw [List.append_nil] at e0
  have e1 : sortKO (.fz (.lst ((rngI ws.length).map P.int))) d pre = .ok (.cell pre.length, pre ++ [.lst ((bagIx ws).map P.int)]) := by
    unfold sortKO
    have hp := peek_wd (more := []) hw
    rw [List.append_nil] at hp
    rw [hp]
    show (match intsP ((rngI ws.length).map P.int) with
      | some is => if is.all (keyOkB (ws.map P.int)) = true then R.ok (D.cell pre.length, pre ++ [Ct.lst ((is.mergeSort fun i j => decide (keyI (ws.map P.int) i ≤ keyI (ws.map P.int) j)).map P.int)]) else .stuck
      | none => .stuck) = _
    rw [intsP_map]
    exact if_pos (rng_ok ws)
  have e2 : b_BagKind_keep [some (.fz (.obj c [])), some d] pre = .ok (.rt (.cell pre.length), [some (.fz (.obj c [])), some d], pre ++ [.lst ((bagIx ws).map P.int)]) := by
    unfold b_BagKind_keep dRet dSortK
    rw [e0]
    show ((sortKO (.fz (.lst ((rngI ws.length).map P.int))) d pre).bind fun a => _) = _
    rw [e1]
    rfl
  rcases hw with ⟨rfl, rfl⟩ | ⟨rfl, rfl⟩
  · exact run0l (k := 0) rfl e2 rfl
  · exact run1l (k := 0) rfl e2 rfl rfl rfl
end G

end
section
set_option Elab.async false
set_option linter.all false
set_option maxRecDepth 100000
set_option maxHeartbeats 0
namespace G
open PySem L2 M
/-- the value at an index -/
def vAt (ws : List Int) (i : Int) : Int := ws.getD i.toNat 0
theorem ix_wd {d : D} {pre more : Sr} {ws : List Int} {i : Int} (hw : Wd d pre ws) (h0 : 0 ≤ i) (h1 : i < ws.length) : ixO d (.fz (.int i)) (pre ++ more) = .ok (.fz (.int (vAt ws i)), pre ++ more) := by
  have ha : L2.atI (ws.map P.int) i = some (.int (vAt ws i)) := by
    have hn : i.toNat < ws.length := by omega
    have := L2.atI_nat (xs := ws.map P.int) (j := i.toNat) (v := .int (vAt ws i)) (by rw [List.getElem?_map, List.getElem?_eq_getElem hn]; simp [vAt, List.getD, List.getElem?_eq_getElem hn])
    rwa [Int.toNat_of_nonneg h0] at this
  have hp := peek_wd (more := more) hw
  obtain ⟨p, e1, e2⟩ := Option.bind_eq_some_iff.mp hp
  unfold ixO
  rw [e1]
  show (match (itemsP p).bind fun xs => L2.atI xs i with | some q => R.ok (D.fz q, pre ++ more) | none => .stuck) = _
  rw [e2]
  show (match L2.atI (ws.map P.int) i with | some q => R.ok (D.fz q, pre ++ more) | none => .stuck) = _
  rw [ha]
def sGo (ws : List Int) : List Int → List Int → List Int
  | acc, [] => acc
  | acc, i :: r => if acc = [] ∨ vAt ws (acc.getLastD 0) ≠ vAt ws i then sGo ws (acc ++ [i]) r else sGo ws acc r
end G

end
section
set_option Elab.async false
set_option linter.all false
set_option maxRecDepth 100000
set_option maxHeartbeats 0
namespace G
open PySem L2 M
theorem get_end {pre more : Sr} {c : Ct} : (pre ++ c :: more)[pre.length]? = some c := by
  rw [List.getElem?_append_right (Nat.le_refl _), Nat.sub_self]
  rfl
theorem peek_end {pre more : Sr} {xs : List P} : peek (pre ++ .lst xs :: more) (.cell pre.length) = some (.lst xs) := by
  unfold peek
  dsimp only
  rw [get_end]
theorem set_end {pre more : Sr} {c c' : Ct} : (pre ++ c :: more).set pre.length c' = pre ++ c' :: more := by
  rw [List.set_append_right _ _ (Nat.le_refl _), Nat.sub_self]
  rfl
theorem append_end {pre more : Sr} {xs : List P} {p : P} (h : xs.length < 16777216) : appendO (.cell pre.length) [.fz p] (pre ++ .lst xs :: more) = .ok (.fz .non, pre ++ .lst (xs ++ [p]) :: more) := by
  unfold appendO
  dsimp only [toP]
  rw [get_end]
  dsimp only
  rw [if_pos h, set_end]
/-- xs.append(y): both in slots -/
theorem ex_append {η : Et} {pre more : Sr} {xs : List P} {p : P} {i j : Nat} (hi : η[i]? = some (some (.cell pre.length))) (hj : η[j]? = some (some (.fz p))) (h : xs.length < 16777216) :
    dEx (dBM isLst appendO (dVar i) (dCons (dVar j) (dNil))) η (pre ++ .lst xs :: more) = .ok (.nx, η, pre ++ .lst (xs ++ [p]) :: more) := by
  have e1 : dVar i η (pre ++ .lst xs :: more) = .ok (.cell pre.length, pre ++ .lst xs :: more) := by unfold dVar; rw [hi]
  have e2 : dCons (dVar j) (dNil) η (pre ++ .lst xs :: more) = .ok ([.fz p], pre ++ .lst xs :: more) := by unfold dCons dVar; rw [hj]; rfl
  have e3 : isLst (pre ++ .lst xs :: more) (.cell pre.length) = true := by unfold isLst; rw [peek_end]
  unfold dEx dBM
  rw [e1, bind_ok]
  dsimp only
  rw [if_pos e3, e2, bind_ok]
  dsimp only
  rw [append_end h]
  rfl
end G

end
section
set_option Elab.async false
set_option linter.all false
set_option maxRecDepth 100000
set_option maxHeartbeats 0
namespace G
open PySem L2 M
theorem var_eq {η : Et} {st : Sr} {i : Nat} {d : D} (h : η[i]? = some (some d)) : dVar i η st = .ok (d, st) := by unfold dVar; rw [h]
theorem last_at {acc : List Int} {x : Int} : L2.atI ((acc ++ [x]).map P.int) (-1) = some (.int x) := by
  have e : L2.ixN ((acc ++ [x]).map P.int).length (-1) = some acc.length := by
    unfold L2.ixN
    rw [if_neg (by decide), List.length_map, List.length_append]
    rw [if_pos (by simp; omega)]
    simp
    omega
  unfold L2.atI
  rw [e]
  simp
theorem set_step {d : D} {pre : Sr} {ws : List Int} (hw : Wd d pre ws) (s0 : Option D) (acc : List Int) (i : Int) (hi : 0 ≤ i ∧ i < ws.length) (ha : ∀ j ∈ acc, 0 ≤ j ∧ j < ws.length) (hz : acc.length < 100000) :
    b_SetKind_keep_1 [s0, some d, some (.cell pre.length), some (.fz (.int i))] (pre ++ [.lst (acc.map P.int)]) = .ok (.nx, [s0, some d, some (.cell pre.length), some (.fz (.int i))], pre ++ [.lst ((if acc = [] ∨ vAt ws (acc.getLastD 0) ≠ vAt ws i then acc ++ [i] else acc).map P.int)]) := by
  have hz2 : (acc.map P.int).length < 16777216 := by rw [List.length_map]; omega
  have hap := ex_append (η := [s0, some d, some (.cell pre.length), some (.fz (.int i))]) (pre := pre) (more := []) (xs := acc.map P.int) (p := .int i) (i := 2) (j := 3) rfl rfl hz2
  rcases List.eq_nil_or_concat acc with rfl | ⟨bs, x, rfl⟩
  · have e1 : dOr (dNot (dTru (dVar 2))) (dTru (dBin neO (dBin ixO (dVar 1) (dBin ixO (dVar 2) (dUn negO (dK (.int 1))))) (dBin ixO (dVar 1) (dVar 3)))) [s0, some d, some (.cell pre.length), some (.fz (.int i))] (pre ++ [.lst (([] : List Int).map P.int)]) = .ok (true, pre ++ [.lst (([] : List Int).map P.int)]) := by
      unfold dOr dNot dTru
      rw [var_eq (d := .cell pre.length) rfl, bind_ok]
      dsimp only
      unfold truO
      rw [peek_end]
      rfl
    unfold b_SetKind_keep_1
    rw [if_t e1, hap]
    simp
  · simp only [List.concat_eq_append] at ha hz hz2 hap ⊢
    have hx := ha x (by simp)
    have e0 : dTru (dVar 2) [s0, some d, some (.cell pre.length), some (.fz (.int i))] (pre ++ [.lst ((bs ++ [x]).map P.int)]) = .ok (true, pre ++ [.lst ((bs ++ [x]).map P.int)]) := by
      unfold dTru
      rw [var_eq (d := .cell pre.length) rfl, bind_ok]
      dsimp only
      unfold truO
      rw [peek_end]
      simp [truP]
    have e1 : dBin ixO (dVar 2) (dUn negO (dK (.int 1))) [s0, some d, some (.cell pre.length), some (.fz (.int i))] (pre ++ [.lst ((bs ++ [x]).map P.int)]) = .ok (.fz (.int x), pre ++ [.lst ((bs ++ [x]).map P.int)]) := by
      unfold dBin
      rw [var_eq (d := .cell pre.length) rfl, bind_ok]
      show ixO (.cell pre.length) (.fz (.int (-1))) (pre ++ [.lst ((bs ++ [x]).map P.int)]) = _
      unfold ixO
      rw [peek_end]
      show (match L2.atI ((bs ++ [x]).map P.int) (-1) with | some q => R.ok (D.fz q, _) | none => .stuck) = _
      rw [last_at]
    have e2 : dBin ixO (dVar 1) (dBin ixO (dVar 2) (dUn negO (dK (.int 1)))) [s0, some d, some (.cell pre.length), some (.fz (.int i))] (pre ++ [.lst ((bs ++ [x]).map P.int)]) = .ok (.fz (.int (vAt ws x)), pre ++ [.lst ((bs ++ [x]).map P.int)]) := by
      generalize hf : dBin ixO (dVar 2) (dUn negO (dK (.int 1))) = f at e1
      unfold dBin
      rw [var_eq (d := d) rfl, bind_ok]
      dsimp only
      rw [e1, bind_ok]
      exact ix_wd hw hx.1 hx.2
    have e3 : dBin ixO (dVar 1) (dVar 3) [s0, some d, some (.cell pre.length), some (.fz (.int i))] (pre ++ [.lst ((bs ++ [x]).map P.int)]) = .ok (.fz (.int (vAt ws i)), pre ++ [.lst ((bs ++ [x]).map P.int)]) := by
      unfold dBin
      rw [var_eq (d := d) rfl, bind_ok]
      dsimp only
      rw [var_eq (d := .fz (.int i)) rfl, bind_ok]
      exact ix_wd hw hi.1 hi.2
    have e4 : dOr (dNot (dTru (dVar 2))) (dTru (dBin neO (dBin ixO (dVar 1) (dBin ixO (dVar 2) (dUn negO (dK (.int 1))))) (dBin ixO (dVar 1) (dVar 3)))) [s0, some d, some (.cell pre.length), some (.fz (.int i))] (pre ++ [.lst ((bs ++ [x]).map P.int)]) = .ok (decide (vAt ws x ≠ vAt ws i), pre ++ [.lst ((bs ++ [x]).map P.int)]) := by
      generalize hf : dBin ixO (dVar 1) (dBin ixO (dVar 2) (dUn negO (dK (.int 1)))) = f at e2
      generalize hg : dBin ixO (dVar 1) (dVar 3) = g at e3
      generalize hh : dTru (dVar 2) = h at e0
      unfold dOr dNot
      rw [e0, bind_ok, bind_ok]
      show dTru (dBin neO f g) _ _ = _
      unfold dTru dBin
      rw [e2, bind_ok]
      dsimp only
      rw [e3, bind_ok]
      show ((neO (.fz (.int (vAt ws x))) (.fz (.int (vAt ws i))) (pre ++ [.lst ((bs ++ [x]).map P.int)])).bind fun a => truO a.1 a.2) = _
      simp [neO, peek, truO, truP]
    unfold b_SetKind_keep_1
    by_cases hv : vAt ws x = vAt ws i
    · rw [if_f (by rw [e4]; simp [hv])]
      simp [hv, dSkip]
    · rw [if_t (by rw [e4]; simp [hv]), hap]
      simp [hv]
end G

end
section
set_option Elab.async false
set_option linter.all false
set_option maxRecDepth 100000
set_option maxHeartbeats 0
namespace G
open PySem L2 M
abbrev okIx (ws : List Int) (l : List Int) : Prop := ∀ j ∈ l, 0 ≤ j ∧ j < (ws.length : Int)
theorem set_loop {d : D} {pre : Sr} {ws : List Int} (hw : Wd d pre ws) (s0 : Option D) : ∀ (l acc : List Int) (o : Option D), okIx ws l → okIx ws acc → acc.length + l.length < 100000 → ∃ o',
    loopD (gNm 3) b_SetKind_keep_1 (l.map P.int) [s0, some d, some (.cell pre.length), o] (pre ++ [.lst (acc.map P.int)]) = .ok (.nx, [s0, some d, some (.cell pre.length), o'], pre ++ [.lst ((sGo ws acc l).map P.int)])
  | [], acc, o, _, _, _ => ⟨o, rfl⟩
  | i :: l, acc, o, hl, ha, hz => by
    have hi := hl i List.mem_cons_self
    have h1 := set_step hw s0 acc i hi ha (by simp at hz; omega)
    by_cases hc : acc = [] ∨ vAt ws (acc.getLastD 0) ≠ vAt ws i
    · rw [if_pos hc] at h1
      obtain ⟨o', h2⟩ := set_loop hw s0 l (acc ++ [i]) (some (.fz (.int i))) (fun j hj => hl j (List.mem_cons_of_mem _ hj)) (fun j hj => by
        rcases List.mem_append.mp hj with h | h
        · exact ha j h
        · simp at h; subst h; exact hi) (by simp at hz ⊢; omega)
      refine ⟨o', ?_⟩
      rw [show sGo ws acc (i :: l) = sGo ws (acc ++ [i]) l by rw [sGo, if_pos hc]]
      exact lp_cons (gg := gNm 3) h1 h2
    · rw [if_neg hc] at h1
      obtain ⟨o', h2⟩ := set_loop hw s0 l acc (some (.fz (.int i))) (fun j hj => hl j (List.mem_cons_of_mem _ hj)) ha (by simp at hz ⊢; omega)
      refine ⟨o', ?_⟩
      rw [show sGo ws acc (i :: l) = sGo ws acc l by rw [sGo, if_neg hc]]
      exact lp_cons (gg := gNm 3) h1 h2
theorem bag_ok (ws : List Int) : okIx ws (bagIx ws) := fun j hj => by
  have := (List.mergeSort_perm _ _).mem_iff.mp hj
  unfold rngI at this
  obtain ⟨n, hn, rfl⟩ := List.mem_map.mp this
  have := List.mem_range.mp hn
  omega
theorem bag_len (ws : List Int) : (bagIx ws).length = ws.length := by
  unfold bagIx; rw [(List.mergeSort_perm _ _).length_eq]; simp [rngI]
/-- a def that returns the list at the store's end -/
theorem run_wd {np n : Nat} {b : DS} {ds : List D} {d : D} {pre more : Sr} {ws : List Int} {xs : List P} {η' : Et} (hw : Wd d pre ws) (hl : ds.length = np) (h : b (ds.map some ++ List.replicate (n - np) none) pre = .ok (.rt (.cell pre.length), η', pre ++ .lst xs :: more)) : runF np n true b ds pre = .ok (.fz (.lst xs), pre) := by
  rcases hw with ⟨rfl, rfl⟩ | ⟨rfl, rfl⟩
  · exact run0l (k := 0) hl h rfl
  · exact run1l (k := 0) hl h rfl rfl rfl
theorem set_keep {d : D} {pre : Sr} {ws : List Int} (hw : Wd d pre ws) (hl : ws.length ≤ 1000) : F_SetKind_keep [.fz (.obj "SetKind" []), d] pre = .ok (.fz (.lst ((sGo ws [] (bagIx ws)).map P.int)), pre) := by
  obtain ⟨o', hlp⟩ := set_loop hw (some (.fz (.obj "SetKind" []))) (bagIx ws) [] none (bag_ok ws) (fun _ h => by cases h) (by rw [bag_len]; simp; omega)
  refine run_wd (more := []) hw rfl (s_seq (η' := [some (.fz (.obj "SetKind" [])), some d, some (.cell pre.length), none]) (s1 := pre ++ [.lst []]) rfl (s_seq (s_forA (sup_eq (tab := st_SetKind_keep) (F := F_BagKind_keep) hw rfl rfl rfl (bag_keep lk2 hw hl)) rfl rfl hlp) (s_ret (e_var rfl))))
end G

end
section
set_option Elab.async false
set_option linter.all false
set_option maxRecDepth 100000
set_option maxHeartbeats 0
namespace G
open PySem L2 M
/-- first indexes of each value -/
def hIx (ws : List Int) : List Int → List Int → List Int
  | acc, [] => acc
  | acc, i :: r => if vAt ws i ∈ acc.map (vAt ws) then hIx ws acc r else hIx ws (acc ++ [i]) r
def seenOf (ws acc : List Int) : List (Key × P) := acc.map fun i => (Sum.inl (vAt ws i), P.bl true)
theorem has_seen (ws : List Int) (v : Int) : ∀ acc : List Int, hasK (Sum.inl v) (seenOf ws acc) = decide (v ∈ acc.map (vAt ws))
  | [] => by simp [seenOf, hasK]
  | a :: r => by
    have ih := has_seen ws v r
    unfold seenOf at ih ⊢
    rw [List.map_cons, List.map_cons]
    show (decide ((Sum.inl (vAt ws a) : Key) = Sum.inl v) || hasK (Sum.inl v) (r.map fun i => (Sum.inl (vAt ws i), P.bl true))) = _
    rw [ih]
    by_cases e : vAt ws a = v
    · simp [e]
    · have e2 : ¬ v = vAt ws a := fun h => e h.symm
      simp [e, e2]
theorem put_seen (ws : List Int) (i : Int) : ∀ acc : List Int, vAt ws i ∉ acc.map (vAt ws) → putP (Sum.inl (vAt ws i)) (.bl true) (seenOf ws acc) = seenOf ws (acc ++ [i])
  | [], _ => rfl
  | a :: r, h => by
    have ih := put_seen ws i r (fun q => h (by rw [List.map_cons]; exact List.mem_cons_of_mem _ q))
    have hne : ¬ ((Sum.inl (vAt ws a) : Key) = Sum.inl (vAt ws i)) := fun e => h (by rw [List.map_cons, ← Sum.inl.inj e]; exact List.mem_cons_self)
    unfold seenOf at ih ⊢
    rw [List.map_cons, List.cons_append, List.map_cons]
    show (if (Sum.inl (vAt ws a) : Key) = Sum.inl (vAt ws i) then _ else (Sum.inl (vAt ws a), P.bl true) :: putP (Sum.inl (vAt ws i)) (.bl true) (r.map fun i => (Sum.inl (vAt ws i), P.bl true))) = _
    rw [if_neg hne, ih]
theorem nd_seen (ws : List Int) : ∀ acc : List Int, (acc.map (vAt ws)).Nodup → ndK (seenOf ws acc) = true
  | [], _ => rfl
  | a :: r, h => by
    rw [List.map_cons, List.nodup_cons] at h
    have ih := nd_seen ws r h.2
    unfold seenOf at ih ⊢
    rw [List.map_cons]
    show (!hasK (Sum.inl (vAt ws a)) (seenOf ws r) && ndK (seenOf ws r)) = true
    unfold seenOf
    rw [ih, show hasK (Sum.inl (vAt ws a)) (List.map (fun i => (Sum.inl (vAt ws i), P.bl true)) r) = decide (vAt ws a ∈ r.map (vAt ws)) from has_seen ws (vAt ws a) r, decide_eq_false h.1]
    rfl
theorem notIn_seen {st : Sr} {n : Nat} {ws acc : List Int} {v : Int} (hn : st[n]? = some (.dct (seenOf ws acc))) : notInO (.fz (.int v)) (.cell n) st = .ok (.fz (.bl (!decide (v ∈ acc.map (vAt ws)))), st) := by
  unfold notInO
  rw [peek_dct hn]
  show (match (some (hasK (Sum.inl v) (seenOf ws acc)) : Option Bool) with
    | some b => R.ok (D.fz (.bl (!b)), st)
    | none => .stuck) = _
  rw [has_seen]
theorem heads_step {d : D} {pre more : Sr} {ws : List Int} (hw : Wd d pre ws) (s0 : Option D) (acc : List Int) (i : Int) (hi : 0 ≤ i ∧ i < ws.length) (hz : acc.length < 100000) (hn : (acc.map (vAt ws)).Nodup) :
    b_HeadsKind_keep_1 [s0, some d, some (.cell pre.length), some (.cell (pre.length + 1)), some (.fz (.int i))] (pre ++ .lst (acc.map P.int) :: .dct (seenOf ws acc) :: more) = .ok (.nx, [s0, some d, some (.cell pre.length), some (.cell (pre.length + 1)), some (.fz (.int i))], pre ++ .lst ((if vAt ws i ∈ acc.map (vAt ws) then acc else acc ++ [i]).map P.int) :: .dct (seenOf ws (if vAt ws i ∈ acc.map (vAt ws) then acc else acc ++ [i])) :: more) := by
  have hix : ∀ st', st' = pre ++ .lst (acc.map P.int) :: .dct (seenOf ws acc) :: more → dBin ixO (dVar 1) (dVar 4) [s0, some d, some (.cell pre.length), some (.cell (pre.length + 1)), some (.fz (.int i))] st' = .ok (.fz (.int (vAt ws i)), st') := by
    rintro _ rfl
    exact e_bin (e_var rfl) (e_var rfl) (ix_wd hw hi.1 hi.2)
  have ht := e_tru (e_bin (g := dVar 3) (hix _ rfl) (e_var rfl) (notIn_seen (n := pre.length + 1) (v := vAt ws i) get_end1)) rfl
  by_cases hc : vAt ws i ∈ acc.map (vAt ws)
  · rw [if_pos hc]
    refine s_iff (ht.trans ?_) rfl
    show R.ok (!decide (vAt ws i ∈ acc.map (vAt ws)), _) = _
    rw [decide_eq_true hc]
    rfl
  · rw [if_neg hc]
    refine s_ift (s1 := pre ++ .lst (acc.map P.int) :: .dct (seenOf ws acc) :: more) (ht.trans ?_) (s_seq (η' := [s0, some d, some (.cell pre.length), some (.cell (pre.length + 1)), some (.fz (.int i))]) (s1 := pre ++ .lst (acc.map P.int) :: .dct (seenOf ws (acc ++ [i])) :: more) ?_ ?_)
    · show R.ok (!decide (vAt ws i ∈ acc.map (vAt ws)), _) = _
      rw [decide_eq_false hc]
      rfl
    · unfold dPut
      rw [show dK (.bl true) [s0, some d, some (.cell pre.length), some (.cell (pre.length + 1)), some (.fz (.int i))] (pre ++ .lst (acc.map P.int) :: .dct (seenOf ws acc) :: more) = .ok (.fz (.bl true), pre ++ .lst (acc.map P.int) :: .dct (seenOf ws acc) :: more) from rfl, bind_ok]
      dsimp only
      rw [show dVar 3 [s0, some d, some (.cell pre.length), some (.cell (pre.length + 1)), some (.fz (.int i))] (pre ++ .lst (acc.map P.int) :: .dct (seenOf ws acc) :: more) = .ok (.cell (pre.length + 1), pre ++ .lst (acc.map P.int) :: .dct (seenOf ws acc) :: more) from rfl, bind_ok]
      dsimp only
      rw [hix _ rfl, bind_ok]
      dsimp only
      rw [get_end1]
      dsimp only [peek, Option.bind, keyP, toP]
      rw [get_end1]
      dsimp only
      rw [if_pos ⟨nd_seen ws acc hn, by show (seenOf ws acc).length < 16777216; unfold seenOf; rw [List.length_map]; omega⟩, put_seen ws i acc hc, set_end1]
    · rw [s_append (n := pre.length) (xs := acc.map P.int) (p := .int i) rfl get_end (e_var rfl) (by simp; omega), set_end]
      simp
theorem heads_loop {d : D} {pre more : Sr} {ws : List Int} (hw : Wd d pre ws) (s0 : Option D) : ∀ (l acc : List Int) (o : Option D), okIx ws l → acc.length + l.length < 100000 → (acc.map (vAt ws)).Nodup → ∃ o',
    loopD (gNm 4) b_HeadsKind_keep_1 (l.map P.int) [s0, some d, some (.cell pre.length), some (.cell (pre.length + 1)), o] (pre ++ .lst (acc.map P.int) :: .dct (seenOf ws acc) :: more) = .ok (.nx, [s0, some d, some (.cell pre.length), some (.cell (pre.length + 1)), o'], pre ++ .lst ((hIx ws acc l).map P.int) :: .dct (seenOf ws (hIx ws acc l)) :: more)
  | [], acc, o, _, _, _ => ⟨o, rfl⟩
  | i :: l, acc, o, hl, hz, hn => by
    have h1 := heads_step (more := more) hw s0 acc i (hl i List.mem_cons_self) (by simp at hz; omega) hn
    have hl' : okIx ws l := fun j hj => hl j (List.mem_cons_of_mem _ hj)
    by_cases hc : vAt ws i ∈ acc.map (vAt ws)
    · rw [if_pos hc] at h1
      obtain ⟨o', h2⟩ := heads_loop (more := more) hw s0 l acc (some (.fz (.int i))) hl' (by simp at hz ⊢; omega) hn
      refine ⟨o', ?_⟩
      rw [show hIx ws acc (i :: l) = hIx ws acc l by rw [hIx, if_pos hc]]
      exact lp_cons (gg := gNm 4) h1 h2
    · rw [if_neg hc] at h1
      obtain ⟨o', h2⟩ := heads_loop (more := more) hw s0 l (acc ++ [i]) (some (.fz (.int i))) hl' (by simp at hz ⊢; omega) (by
        rw [List.map_append]
        exact List.nodup_append.mpr ⟨hn, by simp, fun a ha b hb => by simp at hb; subst hb; rintro rfl; exact hc ha⟩)
      refine ⟨o', ?_⟩
      rw [show hIx ws acc (i :: l) = hIx ws (acc ++ [i]) l by rw [hIx, if_neg hc]]
      exact lp_cons (gg := gNm 4) h1 h2
theorem tb_eq : b_TailsKind_keep_1 = b_HeadsKind_keep_1 := rfl
theorem rng_okIx (ws : List Int) : okIx ws (rngI ws.length) := fun j hj => by
  unfold rngI at hj
  obtain ⟨n, hn, rfl⟩ := List.mem_map.mp hj
  have := List.mem_range.mp hn
  omega
theorem rng_len (n : Nat) : (rngI n).length = n := by simp [rngI]
def headsIx (ws : List Int) : List Int := hIx ws [] (rngI ws.length)
theorem heads_keep {c : Str} (hc : look1 c st_HeadsKind_keep = some F_Kind_keep) {d : D} {pre : Sr} {ws : List Int} (hw : Wd d pre ws) (hl : ws.length ≤ 1000) : F_HeadsKind_keep [.fz (.obj c []), d] pre = .ok (.fz (.lst ((headsIx ws).map P.int)), pre) := by
  obtain ⟨o', hlp⟩ := heads_loop (more := []) hw (some (.fz (.obj c []))) (rngI ws.length) [] none (rng_okIx ws) (by rw [rng_len]; simp; omega) List.nodup_nil
  refine run_wd (more := [.dct (seenOf ws (headsIx ws))]) hw rfl (s_seq (η' := [some (.fz (.obj c [])), some d, some (.cell pre.length), none, none]) (s1 := pre ++ [.lst []]) rfl (s_seq (η' := [some (.fz (.obj c [])), some d, some (.cell pre.length), some (.cell (pre.length + 1)), none]) (s1 := pre ++ [.lst [], .dct []]) ?_ (s_seq (s_forA (sup_eq (tab := st_HeadsKind_keep) (F := F_Kind_keep) hw rfl rfl hc (kind_keep hw hl _)) rfl rfl hlp) (s_ret (e_var rfl)))))
  refine (s_set e_newD).trans ?_
  simp
end G

end
section
set_option Elab.async false
set_option linter.all false
set_option maxRecDepth 100000
set_option maxHeartbeats 0
namespace G
open PySem L2 M
theorem run_wdk {np n k : Nat} {b : DS} {ds : List D} {d : D} {pre rest : Sr} {ws : List Int} {xs : List P} {η' : Et} (hw : Wd d pre ws) (hl : ds.length = np) (h : b (ds.map some ++ List.replicate (n - np) none) pre = .ok (.rt (.cell (pre.length + k)), η', pre ++ rest)) (hk : rest[k]? = some (.lst xs)) : runF np n true b ds pre = .ok (.fz (.lst xs), pre) := by
  rcases hw with ⟨rfl, rfl⟩ | ⟨rfl, rfl⟩
  · exact run0l (k := 0 + k) hl h (by rw [Nat.zero_add]; exact hk)
  · have e : [Ct.lst (ws.map P.int)].length + k = k + 1 := by simp; omega
    rw [e] at h
    exact run1l (k := k) hl h (by simpa using hk) rfl rfl
def tailsIx (ws : List Int) : List Int := (hIx ws [] (rngI ws.length).reverse).reverse
theorem tails_keep {c : Str} (hc : look1 c st_TailsKind_keep = some F_Kind_keep) {d : D} {pre : Sr} {ws : List Int} (hw : Wd d pre ws) (hl : ws.length ≤ 1000) : F_TailsKind_keep [.fz (.obj c []), d] pre = .ok (.fz (.lst ((tailsIx ws).map P.int)), pre) := by
  obtain ⟨o', hlp⟩ := heads_loop (more := [.frz (.lst ((rngI ws.length).map P.int).reverse)]) hw (some (.fz (.obj c []))) (rngI ws.length).reverse [] none (fun j hj => rng_okIx ws j (List.mem_reverse.mp hj)) (by rw [List.length_reverse, rng_len]; simp; omega) List.nodup_nil
  rw [← tb_eq] at hlp
  have hsup := sup_eq (tab := st_TailsKind_keep) (F := F_Kind_keep) (more := [.lst [], .dct []]) (η := [some (.fz (.obj c [])), some d, some (.cell pre.length), some (.cell (pre.length + 1)), none]) hw rfl rfl hc (kind_keep hw hl _)
  have hrv := e_rev hsup (r := .ok (.cell (pre.length + 2), (pre ++ [.lst [], .dct []]) ++ [.lst ((rngI ws.length).map P.int).reverse])) (by
    show R.ok (D.cell (pre ++ [Ct.lst [], Ct.dct []]).length, _) = _
    rw [List.length_append]; rfl)
  have hto : toP ((pre ++ [.lst [], .dct []]) ++ [.lst ((rngI ws.length).map P.int).reverse]) (.cell (pre.length + 2)) = some (.lst ((rngI ws.length).map P.int).reverse, pre ++ .lst [] :: .dct [] :: [.frz (.lst ((rngI ws.length).map P.int).reverse)]) := by
    have e : pre.length + 2 = (pre ++ [Ct.lst [], Ct.dct []]).length := by rw [List.length_append]; rfl
    rw [e, toP_lst get_end, set_end, List.append_assoc]
    rfl
  rw [List.map_reverse] at hlp
  refine run_wdk (k := 3) (rest := .lst ((hIx ws [] (rngI ws.length).reverse).map P.int) :: .dct (seenOf ws (hIx ws [] (rngI ws.length).reverse)) :: .frz (.lst ((rngI ws.length).map P.int).reverse) :: [.lst ((tailsIx ws).map P.int)]) hw rfl (s_seq (η' := [some (.fz (.obj c [])), some d, some (.cell pre.length), none, none]) (s1 := pre ++ [.lst []]) rfl (s_seq (η' := [some (.fz (.obj c [])), some d, some (.cell pre.length), some (.cell (pre.length + 1)), none]) (s1 := pre ++ [.lst [], .dct []]) ?_ (s_seq (s_forA hrv hto rfl hlp) (s_ret (e_revA (e_var rfl) ?_))))) rfl
  · refine (s_set e_newD).trans ?_
    simp
  · unfold revAO
    rw [peek_lst get_end]
    dsimp only
    rw [List.length_append, List.append_assoc]
    unfold tailsIx
    rw [List.map_reverse]
    rfl
theorem cut_first (xs : List P) : cutP xs none (some 1) = xs.take 1 := by
  unfold cutP
  rw [HT.sIx_none, show (some (1 : Int)) = some ((1 : Nat) : Int) from rfl, HT.sIx_nat, List.drop_zero, Nat.sub_zero]
  exact List.take_eq_take_iff.mpr (by omega)
theorem cut_last (xs : List P) : cutP xs (some (-1)) none = xs.drop (xs.length - 1) := by
  have e : HT.sIx xs.length 0 (some (-1)) = xs.length - 1 := by
    show (if (-1 : Int) < 0 then ((-1 : Int) + (xs.length : Int)).toNat else min (-1 : Int).toNat xs.length) = _
    rw [if_pos (by decide)]; omega
  unfold cutP
  rw [HT.sIx_none, e]
  exact List.take_of_length_le (by simp)
theorem first_keep {d : D} {pre : Sr} {ws : List Int} (hw : Wd d pre ws) (hl : ws.length ≤ 1000) : F_FirstKind_keep [.fz (.obj "FirstKind" []), d] pre = .ok (.fz (.lst (((headsIx ws).take 1).map P.int)), pre) := by
  have hsup := sup_eq (tab := st_FirstKind_keep) (F := F_HeadsKind_keep) (more := []) (η := [some (.fz (.obj "FirstKind" [])), some d]) hw rfl rfl rfl (heads_keep (c := "FirstKind") rfl hw hl)
  rw [List.append_nil] at hsup
  refine run_wd (more := []) hw rfl (s_ret (e_sl hsup e_nopart (e_part e_k) ?_))
  show R.ok (D.cell pre.length, pre ++ [.lst (cutP ((headsIx ws).map P.int) none (some 1))]) = _
  rw [cut_first, List.map_take]
theorem last_keep {d : D} {pre : Sr} {ws : List Int} (hw : Wd d pre ws) (hl : ws.length ≤ 1000) : F_LastKind_keep [.fz (.obj "LastKind" []), d] pre = .ok (.fz (.lst (((tailsIx ws).drop ((tailsIx ws).length - 1)).map P.int)), pre) := by
  have hsup := sup_eq (tab := st_LastKind_keep) (F := F_TailsKind_keep) (more := []) (η := [some (.fz (.obj "LastKind" [])), some d]) hw rfl rfl rfl (tails_keep (c := "LastKind") rfl hw hl)
  rw [List.append_nil] at hsup
  refine run_wd (more := []) hw rfl (s_ret (e_sl hsup (e_part (e_un (o := negO) e_k rfl)) e_nopart ?_))
  show R.ok (D.cell pre.length, pre ++ [.lst (cutP ((tailsIx ws).map P.int) (some (-1)) none)]) = _
  rw [cut_last, List.map_drop, List.length_map]
def endsIx (ws : List Int) : List Int := (rngI ws.length).take 1 ++ (rngI ws.length).drop ((rngI ws.length).length - 1)
theorem ends_keep {d : D} {pre : Sr} {ws : List Int} (hw : Wd d pre ws) (hl : ws.length ≤ 1000) : F_EndsKind_keep [.fz (.obj "EndsKind" []), d] pre = .ok (.fz (.lst ((endsIx ws).map P.int)), pre) := by
  have hsup := sup_eq (tab := st_EndsKind_keep) (F := F_Kind_keep) (more := []) (η := [some (.fz (.obj "EndsKind" [])), some d, none]) hw rfl rfl rfl (kind_keep hw hl _)
  rw [List.append_nil] at hsup
  refine run_wdk (k := 2) (rest := [.lst (((rngI ws.length).take 1).map P.int), .lst (((rngI ws.length).drop ((rngI ws.length).length - 1)).map P.int), .lst ((endsIx ws).map P.int)]) hw rfl (s_seq (s_set hsup) (s_ret (e_bin (s1 := pre ++ [.lst (((rngI ws.length).take 1).map P.int)]) (a := .cell pre.length) (b := .cell (pre.length + 1)) (s2 := pre ++ [.lst (((rngI ws.length).take 1).map P.int), .lst (((rngI ws.length).drop ((rngI ws.length).length - 1)).map P.int)]) (e_sl (e_var rfl) e_nopart (e_part e_k) ?_) (e_sl (e_var rfl) (e_part (e_un (o := negO) e_k rfl)) e_nopart ?_) ?_))) rfl
  · show R.ok (D.cell pre.length, pre ++ [.lst (cutP ((rngI ws.length).map P.int) none (some 1))]) = _
    rw [cut_first, List.map_take]
  · show R.ok (D.cell (pre ++ [Ct.lst (((rngI ws.length).take 1).map P.int)]).length, (pre ++ [.lst (((rngI ws.length).take 1).map P.int)]) ++ [.lst (cutP ((rngI ws.length).map P.int) (some (-1)) none)]) = _
    rw [cut_last, List.map_drop, List.length_map, List.length_append, List.append_assoc]
    rfl
  · unfold addO
    rw [peek_lst get_end, peek_lst get_end1]
    dsimp only
    rw [if_pos (show _ ≤ 16777216 by simp [rngI]; omega), List.length_append, List.append_assoc, ← List.map_append]
    rfl
end G

end
section
set_option Elab.async false
set_option linter.all false
set_option maxRecDepth 100000
set_option maxHeartbeats 0
namespace G
open PySem L2 M
theorem run_wdf {np n : Nat} {b : DS} {ds : List D} {d : D} {pre rest : Sr} {ws : List Int} {p : P} {η' : Et} (hw : Wd d pre ws) (hl : ds.length = np) (h : b (ds.map some ++ List.replicate (n - np) none) pre = .ok (.rt (.fz p), η', pre ++ rest)) : runF np n true b ds pre = .ok (.fz p, pre) := by
  rcases hw with ⟨rfl, rfl⟩ | ⟨rfl, rfl⟩
  · exact run0 hl h
  · exact run1 hl h rfl rfl
theorem lc_plain {d : D} {pre : Sr} {ws : List Int} (hw : Wd d pre ws) (s0 o : Option D) : ∀ (l acc : List Int), okIx ws l → acc.length + l.length < 100000 → lcD 2 dYes (dBin ixO (dVar 1) (dVar 2)) [s0, some d, o] (l.map P.int) (acc.map P.int) pre = .ok ((acc ++ l.map (vAt ws)).map P.int, pre)
  | [], acc, _, _ => by rw [List.map_nil, List.map_nil, List.append_nil]; rfl
  | i :: l, acc, hl, hz => by
    have hi := hl i List.mem_cons_self
    have ih := lc_plain hw s0 o l (acc ++ [vAt ws i]) (fun j hj => hl j (List.mem_cons_of_mem _ hj)) (by simp at hz ⊢; omega)
    have hx := ix_wd (more := []) hw hi.1 hi.2
    rw [List.append_nil] at hx
    refine lc_cons e_yes (e_bin (e_var rfl) (e_var rfl) hx) rfl (by simp at hz ⊢; omega) ?_
    rw [show acc.map P.int ++ [P.int (vAt ws i)] = (acc ++ [vAt ws i]).map P.int by rw [List.map_append]; rfl, ih]
    simp
theorem plain_of {c : Str} {F : DF} {ix ws : List Int} {d : D} {pre : Sr} (hF : look1 c mt_keep = some F) (hw : Wd d pre ws) (hk : F [.fz (.obj c []), d] pre = .ok (.fz (.lst (ix.map P.int)), pre)) (hix : okIx ws ix) (hl : ix.length ≤ 5000) :
    F_Kind_plain [.fz (.obj c []), d] pre = .ok (.fz (.tup ((ix.map (vAt ws)).map P.int)), pre) := by
  have hc := c_wd (more := []) (η := [some (.fz (.obj c [])), some d, none]) hw hk
  rw [List.append_nil] at hc
  have hlc := lc_plain hw (some (.fz (.obj c []))) none ix [] hix (by simp; omega)
  refine run_wdf (rest := [.lst ((ix.map (vAt ws)).map P.int)]) hw rfl (s_ret (e_ap (e_cons (e_lcL (e_meth (F := F) (e_var rfl) hF (e_cons (e_var rfl) e_nil) hc) rfl rfl hlc) e_nil) ?_))
  unfold tupleO
  dsimp only
  rw [peek_lst get_end]
  rfl
/-! ### the values at the indexes -/
theorem vAt_nat (ws : List Int) (n : Nat) : vAt ws (n : Int) = ws.getD n 0 := by unfold vAt; rw [Int.toNat_natCast]
theorem map_rng (ws : List Int) : (rngI ws.length).map (vAt ws) = ws := by
  apply List.ext_getElem?
  intro n
  unfold rngI
  rw [List.map_map, List.getElem?_map]
  by_cases h : n < ws.length
  · rw [List.getElem?_range h, List.getElem?_eq_getElem h]
    show some (vAt ws (n : Int)) = _
    rw [vAt_nat, List.getD_eq_getElem?_getD, List.getElem?_eq_getElem h]
    rfl
  · rw [List.getElem?_eq_none (by simpa using h), List.getElem?_eq_none (by simpa using h)]
    rfl
theorem keyI_vAt (ws : List Int) (i : Int) (h : 0 ≤ i ∧ i < ws.length) : keyI (ws.map P.int) i = vAt ws i := by
  have hn : i.toNat < ws.length := by omega
  unfold keyI vAt
  rw [List.getElem?_map, List.getElem?_eq_getElem hn, List.getD_eq_getElem?_getD, List.getElem?_eq_getElem hn]
  rfl
theorem map_bag (ws : List Int) : (bagIx ws).map (vAt ws) = Kd.sortI ws := by
  have hp : ((bagIx ws).map (vAt ws)).Perm ws := by
    have h : (bagIx ws).Perm (rngI ws.length) := List.mergeSort_perm _ _
    have := h.map (vAt ws)
    rwa [map_rng] at this
  have hs : (bagIx ws).Pairwise fun i j => decide (keyI (ws.map P.int) i ≤ keyI (ws.map P.int) j) = true :=
    List.pairwise_mergeSort (fun a b c h1 h2 => by simp only [decide_eq_true_eq] at *; omega) (fun a b => by simp only [Bool.or_eq_true, decide_eq_true_eq]; omega) _
  have hs2 : ((bagIx ws).map (vAt ws)).Pairwise (· ≤ ·) := by
    rw [List.pairwise_map]
    refine List.Pairwise.imp_of_mem (fun {a b} ha hb h => ?_) hs
    rw [← keyI_vAt ws a (bag_ok ws a ha), ← keyI_vAt ws b (bag_ok ws b hb)]
    exact of_decide_eq_true h
  exact Kd.sorted_eq hs2 (Kd.sortI_sorted ws) (hp.trans (Kd.sortI_perm ws).symm)
theorem map_hIx (ws : List Int) : ∀ (l acc : List Int), (hIx ws acc l).map (vAt ws) = Kd.hgo (acc.map (vAt ws)) (l.map (vAt ws))
  | [], acc => rfl
  | i :: l, acc => by
    by_cases h : vAt ws i ∈ acc.map (vAt ws)
    · rw [show hIx ws acc (i :: l) = hIx ws acc l by rw [hIx, if_pos h], List.map_cons, show Kd.hgo (acc.map (vAt ws)) (vAt ws i :: l.map (vAt ws)) = Kd.hgo (acc.map (vAt ws)) (l.map (vAt ws)) by rw [Kd.hgo, if_pos h]]
      exact map_hIx ws l acc
    · rw [show hIx ws acc (i :: l) = hIx ws (acc ++ [i]) l by rw [hIx, if_neg h], List.map_cons, show Kd.hgo (acc.map (vAt ws)) (vAt ws i :: l.map (vAt ws)) = Kd.hgo (acc.map (vAt ws) ++ [vAt ws i]) (l.map (vAt ws)) by rw [Kd.hgo, if_neg h]]
      rw [map_hIx ws l (acc ++ [i]), List.map_append]
      rfl
theorem map_heads (ws : List Int) : (headsIx ws).map (vAt ws) = Kd.heads ws := by
  unfold headsIx
  rw [map_hIx, map_rng]
  rfl
theorem map_tails (ws : List Int) : (tailsIx ws).map (vAt ws) = Kd.tails ws := by
  unfold tailsIx Kd.tails
  rw [List.map_reverse, map_hIx, List.map_reverse, map_rng]
  rfl
theorem first_heads (ws : List Int) : (Kd.heads ws).take 1 = Kd.firstI ws := by
  have key : ∀ (l acc : List Int), (Kd.hgo acc l).take 1 = (acc ++ l).take 1 := fun l => by
    induction l with
    | nil => intro acc; rw [List.append_nil]; rfl
    | cons x l ih =>
      intro acc
      by_cases h : x ∈ acc
      · rw [show Kd.hgo acc (x :: l) = Kd.hgo acc l by rw [Kd.hgo, if_pos h], ih]
        cases acc with
        | nil => cases h
        | cons a r => rfl
      · rw [show Kd.hgo acc (x :: l) = Kd.hgo (acc ++ [x]) l by rw [Kd.hgo, if_neg h], ih, List.append_assoc]
        rfl
  exact key ws []
theorem drop_last (l : List Int) : l.drop (l.length - 1) = Kd.lastI l := by
  rcases List.eq_nil_or_concat l with rfl | ⟨m, x, rfl⟩
  · rfl
  · simp [Kd.lastI]
theorem last_tails (ws : List Int) : Kd.lastI (Kd.tails ws) = Kd.lastI ws := by
  unfold Kd.tails
  rw [Kd.lastI_rev, List.reverse_reverse]
  exact first_heads ws.reverse
theorem map_first (ws : List Int) : ((headsIx ws).take 1).map (vAt ws) = Kd.firstI ws := by rw [List.map_take, map_heads, first_heads]
theorem map_last (ws : List Int) : ((tailsIx ws).drop ((tailsIx ws).length - 1)).map (vAt ws) = Kd.lastI ws := by
  rw [List.map_drop, ← List.length_map (f := vAt ws), map_tails, drop_last, last_tails]
theorem map_ends (ws : List Int) : (endsIx ws).map (vAt ws) = Kd.endsI ws := by
  unfold endsIx Kd.endsI
  rw [List.map_append, List.map_take, List.map_drop, map_rng, show (rngI ws.length).length = ws.length by simp [rngI], drop_last]
  rfl
/-- without neighbours that are equal -/
def dGo : List Int → List Int → List Int
  | acc, [] => acc
  | acc, x :: r => if acc = [] ∨ acc.getLastD 0 ≠ x then dGo (acc ++ [x]) r else dGo acc r
theorem map_sGo (ws : List Int) : ∀ (l acc : List Int), (sGo ws acc l).map (vAt ws) = dGo (acc.map (vAt ws)) (l.map (vAt ws))
  | [], acc => rfl
  | i :: l, acc => by
    have hiff : (acc = [] ∨ vAt ws (acc.getLastD 0) ≠ vAt ws i) ↔ (acc.map (vAt ws) = [] ∨ (acc.map (vAt ws)).getLastD 0 ≠ vAt ws i) := by
      rcases List.eq_nil_or_concat acc with rfl | ⟨m, x, rfl⟩
      · simp
      · simp
    by_cases h : acc = [] ∨ vAt ws (acc.getLastD 0) ≠ vAt ws i
    · rw [show sGo ws acc (i :: l) = sGo ws (acc ++ [i]) l by rw [sGo, if_pos h], List.map_cons, show dGo (acc.map (vAt ws)) (vAt ws i :: l.map (vAt ws)) = dGo (acc.map (vAt ws) ++ [vAt ws i]) (l.map (vAt ws)) by rw [dGo, if_pos (hiff.mp h)], map_sGo ws l, List.map_append]
      rfl
    · rw [show sGo ws acc (i :: l) = sGo ws acc l by rw [sGo, if_neg h], List.map_cons, show dGo (acc.map (vAt ws)) (vAt ws i :: l.map (vAt ws)) = dGo (acc.map (vAt ws)) (l.map (vAt ws)) by rw [dGo, if_neg (fun q => h (hiff.mpr q))], map_sGo ws l]
/-- of a sorted list: what heads gives -/
theorem dGo_hgo : ∀ (l acc : List Int), (acc ++ l).Pairwise (· ≤ ·) → dGo acc l = Kd.hgo acc l
  | [], acc, _ => rfl
  | x :: l, acc, h => by
    have hiff : (acc = [] ∨ acc.getLastD 0 ≠ x) ↔ x ∉ acc := by
      rcases List.eq_nil_or_concat acc with rfl | ⟨m, y, rfl⟩
      · simp
      · simp only [List.concat_eq_append] at h ⊢
        rw [List.append_assoc] at h
        have hp := List.pairwise_append.mp h
        have h2 := (List.pairwise_cons.mp hp.2.1).1 x (by simp)
        constructor
        · rintro (q | q)
          · simp at q
          · simp at q
            intro hm
            rcases List.mem_append.mp hm with hm | hm
            · have h3 := hp.2.2 x hm y (by simp)
              omega
            · simp at hm; exact q hm.symm
        · intro q
          refine .inr ?_
          simp at q ⊢
          exact fun e => q.2 e.symm
    by_cases hc : acc = [] ∨ acc.getLastD 0 ≠ x
    · rw [dGo, if_pos hc, Kd.hgo, if_neg (hiff.mp hc)]
      exact dGo_hgo l _ (by rw [List.append_assoc]; exact h)
    · rw [dGo, if_neg hc, Kd.hgo, if_pos (Classical.byContradiction fun q => hc (hiff.mpr q))]
      refine dGo_hgo l _ (h.sublist ?_)
      exact List.Sublist.append_left (List.sublist_cons_self x l) acc
theorem hgo_sorted : ∀ (l acc : List Int), (acc ++ l).Pairwise (· ≤ ·) → (Kd.hgo acc l).Pairwise (· ≤ ·)
  | [], acc, h => by rwa [List.append_nil] at h
  | x :: l, acc, h => by
    by_cases hx : x ∈ acc
    · rw [Kd.hgo, if_pos hx]
      exact hgo_sorted l acc (h.sublist (List.Sublist.append_left (List.sublist_cons_self x l) acc))
    · rw [Kd.hgo, if_neg hx]
      exact hgo_sorted l _ (by rw [List.append_assoc]; exact h)
theorem map_set (ws : List Int) : (sGo ws [] (bagIx ws)).map (vAt ws) = Kd.setI ws := by
  rw [map_sGo, map_bag]
  show dGo [] (Kd.sortI ws) = _
  rw [dGo_hgo _ _ (Kd.sortI_sorted ws)]
  refine Kd.sorted_eq (hgo_sorted _ _ (Kd.sortI_sorted ws)) (Kd.sortI_sorted _) ?_
  exact (Kd.heads_perm fun x => Kd.mem_sortI).trans (Kd.sortI_perm _).symm
end G

end
section
set_option Elab.async false
set_option linter.all false
set_option maxRecDepth 100000
set_option maxHeartbeats 0
namespace G
open PySem L2 M
theorem eq_str {a b : Str} {st : Sr} (ha : shP (.str a) = true := by decide +kernel) (hb : shP (.str b) = true := by decide +kernel) : eqO (.fz (.str a)) (.fz (.str b)) st = .ok (.fz (.bl (decide (a = b))), st) := by
  have e : eqP (.str a) (.str b) = decide (a = b) := by
    unfold eqP toPy
    first | rfl | (simp [PyData.eqv]; done) | (by_cases h : a = b <;> simp [PyData.eqv, h])
  show (if shP (.str a) = true ∧ shP (.str b) = true then R.ok (D.fz (.bl (eqP (.str a) (.str b))), st) else .stuck) = _
  rw [if_pos ⟨ha, hb⟩, e]
theorem k_test {η : Et} {st : Sr} {k m : Str} {i : Nat} {b : Bool} (h : η[i]? = some (some (.fz (.str k)))) (hb : decide (k = m) = b) (hk : shP (.str k) = true := by decide +kernel) (hm : shP (.str m) = true := by decide +kernel) : dTru (dBin eqO (dVar i) (dK (.str m))) η st = .ok (b, st) :=
  e_tru (e_bin (e_var h) e_k (eq_str hk hm)) (tru_bl hb)
theorem inV_ints (v : Int) (acc : List Int) : inV (.int v) (acc.map V.int) = decide (v ∈ acc) := by
  induction acc with
  | nil => rfl
  | cons a r ih =>
    unfold inV at ih ⊢
    rw [List.map_cons, List.any_cons, ih]
    by_cases h : a = v
    · subst h; simp [eqV]
    · have h2 : ¬ v = a := fun e => h e.symm
      simp [eqV, h, h2]
theorem flat_ints (acc : List Int) : (acc.map P.int).all flatP = true := by
  rw [List.all_eq_true]; intro x hx; obtain ⟨i, _, rfl⟩ := List.mem_map.mp hx; rfl
theorem vP_ints (acc : List Int) : (acc.map P.int).map vP = acc.map V.int := by rw [List.map_map]; rfl
theorem notIn_lst {st : Sr} {n : Nat} {acc : List Int} {v : Int} (hn : st[n]? = some (.lst (acc.map P.int))) : notInO (.fz (.int v)) (.cell n) st = .ok (.fz (.bl (!decide (v ∈ acc))), st) := by
  unfold notInO
  rw [peek_lst hn]
  have e : inB (.int v) (.lst (acc.map P.int)) = some (decide (v ∈ acc)) := by
    unfold inB
    dsimp only
    rw [if_pos ⟨rfl, flat_ints acc⟩, vP_ints, ← inV_ints]
    rfl
  show (match inB (.int v) (.lst (acc.map P.int)) with
    | some b => R.ok (D.fz (.bl (!b)), st)
    | none => .stuck) = _
  rw [e]
def vT (b : Bool) (ws : List Int) (i : Int) : Int := if b then vAt ws (ws.length - 1 - i) else vAt ws i
theorem lp_step (b : Bool) (ws acc : List Int) (i : Int) (hi : 0 ≤ i ∧ i < ws.length) (s0 o5 : Option D) (hz : acc.length < 100000) :
    b_l_plain_1 [s0, some (.fz (.tup (ws.map P.int))), some (.cell 0), some (.fz (.bl b)), some (.fz (.int i)), o5] [.lst (acc.map P.int)] = .ok (.nx, [s0, some (.fz (.tup (ws.map P.int))), some (.cell 0), some (.fz (.bl b)), some (.fz (.int i)), some (.fz (.int (vT b ws i)))], [.lst ((if vT b ws i ∈ acc then acc else acc ++ [vT b ws i]).map P.int)]) := by
  have hw : Wd (.fz (.tup (ws.map P.int))) [] ws := .inl ⟨rfl, rfl⟩
  have ix : ∀ j, 0 ≤ j → j < (ws.length : Int) → ixO (.fz (.tup (ws.map P.int))) (.fz (.int j)) [.lst (acc.map P.int)] = .ok (.fz (.int (vAt ws j)), [.lst (acc.map P.int)]) := fun j h0 h1 => ix_wd (more := [.lst (acc.map P.int)]) hw h0 h1
  have h2 : dIf (dTru (dVar 3)) (dAsg (dBin ixO (dVar 1) (dBin subO (dBin subO (dAp lenO (dCons (dVar 1) (dNil))) (dK (.int 1))) (dVar 4))) (gNm 5)) (dSkip) [s0, some (.fz (.tup (ws.map P.int))), some (.cell 0), some (.fz (.bl b)), some (.fz (.int i)), some (.fz (.int (vAt ws i)))] [.lst (acc.map P.int)] = .ok (.nx, [s0, some (.fz (.tup (ws.map P.int))), some (.cell 0), some (.fz (.bl b)), some (.fz (.int i)), some (.fz (.int (vT b ws i)))], [.lst (acc.map P.int)]) := by
    cases b
    · exact s_iff (e_tru (e_var rfl) rfl) rfl
    · refine s_ift (e_tru (e_var rfl) rfl) (s_set (i := 5) (e_bin (b := .fz (.int (ws.length - 1 - i))) (s2 := [.lst (acc.map P.int)]) (e_var rfl) ?_ (ix _ (by omega) (by omega))))
      refine e_bin (e_bin (e_ap (e_cons (e_var rfl) e_nil) rfl) e_k rfl) (e_var rfl) ?_
      show R.ok (D.fz (.int ((((ws.map P.int).length : Nat) : Int) - 1 - i)), _) = _
      rw [List.length_map]
  refine s_seq (s_set (i := 5) (e_bin (e_var rfl) (e_var rfl) (ix i hi.1 hi.2))) (s_seq h2 ?_)
  by_cases hc : vT b ws i ∈ acc
  · rw [if_pos hc]
    exact s_iff (e_tru (e_bin (e_var rfl) (e_var rfl) (notIn_lst rfl)) (tru_bl (by rw [decide_eq_true hc]; rfl))) rfl
  · rw [if_neg hc]
    refine s_ift (e_tru (e_bin (e_var rfl) (e_var rfl) (notIn_lst rfl)) (tru_bl (by rw [decide_eq_false hc]; rfl))) ((s_append (n := 0) (xs := acc.map P.int) (p := .int (vT b ws i)) rfl rfl (e_var rfl) (by simp; omega)).trans ?_)
    rw [List.map_append]
    rfl
theorem lp_loop (b : Bool) (ws : List Int) (s0 : Option D) : ∀ (l acc : List Int) (o4 o5 : Option D), okIx ws l → acc.length + l.length < 100000 → ∃ o4' o5',
    loopD (gNm 4) b_l_plain_1 (l.map P.int) [s0, some (.fz (.tup (ws.map P.int))), some (.cell 0), some (.fz (.bl b)), o4, o5] [.lst (acc.map P.int)] = .ok (.nx, [s0, some (.fz (.tup (ws.map P.int))), some (.cell 0), some (.fz (.bl b)), o4', o5'], [.lst ((Kd.hgo acc (l.map (vT b ws))).map P.int)])
  | [], acc, o4, o5, _, _ => ⟨o4, o5, rfl⟩
  | i :: l, acc, o4, o5, hl, hz => by
    have h1 := lp_step b ws acc i (hl i List.mem_cons_self) s0 o5 (by simp at hz; omega)
    have hl' : okIx ws l := fun j hj => hl j (List.mem_cons_of_mem _ hj)
    by_cases hc : vT b ws i ∈ acc
    · rw [if_pos hc] at h1
      obtain ⟨p4, p5, h2⟩ := lp_loop b ws s0 l acc (some (.fz (.int i))) (some (.fz (.int (vT b ws i)))) hl' (by simp at hz ⊢; omega)
      refine ⟨p4, p5, ?_⟩
      rw [List.map_cons (f := vT b ws), show Kd.hgo acc (vT b ws i :: l.map (vT b ws)) = Kd.hgo acc (l.map (vT b ws)) by rw [Kd.hgo, if_pos hc]]
      exact lp_cons (gg := gNm 4) h1 h2
    · rw [if_neg hc] at h1
      obtain ⟨p4, p5, h2⟩ := lp_loop b ws s0 l (acc ++ [vT b ws i]) (some (.fz (.int i))) (some (.fz (.int (vT b ws i)))) hl' (by simp at hz ⊢; omega)
      refine ⟨p4, p5, ?_⟩
      rw [List.map_cons (f := vT b ws), show Kd.hgo acc (vT b ws i :: l.map (vT b ws)) = Kd.hgo (acc ++ [vT b ws i]) (l.map (vT b ws)) by rw [Kd.hgo, if_neg hc]]
      exact lp_cons (gg := gNm 4) h1 h2
theorem map_vT (b : Bool) (ws : List Int) : (rngI ws.length).map (vT b ws) = if b then ws.reverse else ws := by
  cases b
  · exact map_rng ws
  · show (rngI ws.length).map (vT true ws) = ws.reverse
    apply List.ext_getElem?
    intro n
    unfold rngI
    rw [List.map_map, List.getElem?_map]
    by_cases h : n < ws.length
    · rw [List.getElem?_range h, List.getElem?_reverse h, List.getElem?_eq_getElem (by omega)]
      show some (vT true ws (n : Int)) = _
      unfold vT vAt
      rw [if_pos rfl, show ((ws.length : Int) - 1 - (n : Int)).toNat = ws.length - 1 - n by omega, List.getD_eq_getElem?_getD, List.getElem?_eq_getElem (by omega)]
      rfl
    · rw [List.getElem?_eq_none (by simpa using h), List.getElem?_eq_none (by simpa using h)]
      rfl
theorem len_test {η : Et} {st : Sr} {xs : List P} {b : Bool} (h : η[1]? = some (some (.fz (.tup xs)))) (hb : decide ((xs.length : Int) = 0) = b) : dTru (dBin eqO (dAp lenO (dCons (dVar 1) (dNil))) (dK (.int 0))) η st = .ok (b, st) := by
  refine e_tru (e_bin (e_ap (e_cons (e_var h) e_nil) rfl) e_k (r := .ok (.fz (.bl (decide ((xs.length : Int) = 0))), st)) ?_) (tru_bl hb)
  show (if shP (.int (xs.length : Int)) = true ∧ shP (.int 0) = true then R.ok (D.fz (.bl (eqP (.int (xs.length : Int)) (.int 0))), st) else .stuck) = _
  rw [if_pos ⟨rfl, rfl⟩, eqP_int]
/-- the parts of _law_plain -/
theorem lp_list (ws : List Int) : F_l_plain [.fz (.str "list"), .fz (.tup (ws.map P.int))] [] = .ok (.fz (.tup (ws.map P.int)), []) :=
  run0 rfl (s_seqr (s_ift (k_test rfl (by decide)) (s_ret (e_ap (e_cons (e_var rfl) e_nil) rfl))))
theorem intsP_ok (ws : List Int) : intsP (ws.map P.int) = some ws := intsP_map ws
theorem sort_fz {st : Sr} (ws : List Int) : sortO [.fz (.tup (ws.map P.int))] st = .ok (.cell st.length, st ++ [.lst ((Kd.sortI ws).map P.int)]) := by
  show (match intsP (ws.map P.int) with
    | some is => R.ok (D.cell st.length, st ++ [Ct.lst ((is.mergeSort fun i j => decide (i ≤ j)).map P.int)])
    | none => .stuck) = _
  rw [intsP_ok]
  rfl
theorem lp_bag (ws : List Int) : F_l_plain [.fz (.str "bag"), .fz (.tup (ws.map P.int))] [] = .ok (.fz (.tup ((Kd.sortI ws).map P.int)), []) :=
  run0 rfl (s_seq (s_iff (k_test rfl (by decide)) rfl) (s_seqr (s_ift (k_test rfl (by decide)) (s_ret (e_ap (e_cons (e_ap (e_cons (e_var rfl) e_nil) (sort_fz ws)) e_nil) rfl)))))
end G

end
section
set_option Elab.async false
set_option linter.all false
set_option maxRecDepth 100000
set_option maxHeartbeats 0
namespace G
open PySem L2 M
abbrev nok (k : Str) (ms : List Str) : Prop := ∀ m ∈ ms, decide (k = m) = false
theorem lp_empty (k : Str) (h : nok k ["list", "bag"]) (hk : shP (.str k) = true := by decide +kernel) : F_l_plain [.fz (.str k), .fz (.tup [])] [] = .ok (.fz (.tup []), []) :=
  run0 rfl (s_seq (s_iff (k_test rfl (h _ (by simp)) hk) rfl) (s_seq (s_iff (k_test rfl (h _ (by simp)) hk) rfl) (s_seqr (s_ift (len_test rfl (by decide)) (s_ret (e_ap e_nil rfl))))))
theorem len_ne {xs : List Int} (h : xs ≠ []) : decide (((xs.map P.int).length : Int) = 0) = false := by
  cases xs with
  | nil => exact absurd rfl h
  | cons a r => simp; omega
theorem ix_0 {x : Int} {r : List Int} {st : Sr} : ixO (.fz (.tup ((x :: r).map P.int))) (.fz (.int 0)) st = .ok (.fz (.int x), st) := by
  show (match L2.atI ((x :: r).map P.int) 0 with | some q => R.ok (D.fz q, st) | none => .stuck) = _
  rw [show L2.atI ((x :: r).map P.int) 0 = some (.int x) from L2.atI_nat (j := 0) rfl]
theorem ix_l {x : Int} {r : List Int} {st : Sr} : ixO (.fz (.tup ((r ++ [x]).map P.int))) (.fz (.int (-1))) st = .ok (.fz (.int x), st) := by
  show (match L2.atI ((r ++ [x]).map P.int) (-1) with | some q => R.ok (D.fz q, st) | none => .stuck) = _
  rw [last_at]
theorem lp_first (ws : List Int) : F_l_plain [.fz (.str "first"), .fz (.tup (ws.map P.int))] [] = .ok (.fz (.tup ((Kd.firstI ws).map P.int)), []) := by
  cases ws with
  | nil => exact lp_empty "first" (by decide)
  | cons x r =>
    exact run0 rfl (s_seq (s_iff (k_test rfl (by decide)) rfl) (s_seq (s_iff (k_test rfl (by decide)) rfl) (s_seq (s_iff (len_test rfl (len_ne (by simp))) rfl) (s_seqr (s_ift (k_test rfl (by decide)) (s_ret (e_ap (e_cons (e_bin (e_var rfl) e_k ix_0) e_nil) rfl)))))))
theorem lp_last (ws : List Int) : F_l_plain [.fz (.str "last"), .fz (.tup (ws.map P.int))] [] = .ok (.fz (.tup ((Kd.lastI ws).map P.int)), []) := by
  rcases List.eq_nil_or_concat ws with rfl | ⟨r, x, rfl⟩
  · exact lp_empty "last" (by decide)
  · have e : Kd.lastI (r ++ [x]) = [x] := by simp [Kd.lastI]
    rw [List.concat_eq_append, e]
    exact run0 rfl (s_seq (s_iff (k_test rfl (by decide)) rfl) (s_seq (s_iff (k_test rfl (by decide)) rfl) (s_seq (s_iff (len_test rfl (len_ne (by simp))) rfl) (s_seq (s_iff (k_test rfl (by decide)) rfl) (s_seqr (s_ift (k_test rfl (by decide)) (s_ret (e_ap (e_cons (e_bin (e_var rfl) (e_un (o := negO) e_k rfl) ix_l) e_nil) rfl))))))))
theorem lp_ends (ws : List Int) : F_l_plain [.fz (.str "ends"), .fz (.tup (ws.map P.int))] [] = .ok (.fz (.tup ((Kd.endsI ws).map P.int)), []) := by
  cases hws : ws with
  | nil => exact lp_empty "ends" (by decide)
  | cons y s =>
    rcases List.eq_nil_or_concat ws with e0 | ⟨r, x, e0⟩
    · rw [hws] at e0; cases e0
    · rw [List.concat_eq_append] at e0
      have hl : ixO (.fz (.tup ((y :: s).map P.int))) (.fz (.int (-1))) [] = .ok (.fz (.int x), []) := by
        rw [← hws, e0]; exact ix_l
      have e : Kd.endsI (y :: s) = [y, x] := by
        rw [← hws]
        unfold Kd.endsI
        rw [show Kd.lastI ws = [x] by rw [e0]; simp [Kd.lastI], hws]
        rfl
      rw [e]
      exact run0 rfl (s_seq (s_iff (k_test rfl (by decide)) rfl) (s_seq (s_iff (k_test rfl (by decide)) rfl) (s_seq (s_iff (len_test rfl (len_ne (by simp))) rfl) (s_seq (s_iff (k_test rfl (by decide)) rfl) (s_seq (s_iff (k_test rfl (by decide)) rfl) (s_seqr (s_ift (k_test rfl (by decide)) (s_ret (e_ap (e_cons (e_bin (e_var rfl) e_k ix_0) (e_cons (e_bin (e_var rfl) (e_un (o := negO) e_k rfl) hl) e_nil)) rfl)))))))))
theorem len_tup {ws : List Int} {st : Sr} : lenO [.fz (.tup (ws.map P.int))] st = .ok (.fz (.int (ws.length : Int)), st) := by
  show R.ok (D.fz (.int (((ws.map P.int).length : Nat) : Int)), st) = _
  rw [List.length_map]
def b_lp_z : DS := dSeq (dIf (dTru (dVar 3)) (dEx (dBM isLst reverseO (dVar 2) dNil)) (dSkip)) (dSeq (dIf (dTru (dBin eqO (dVar 0) (dK (.str "set")))) (dRet (dAp tupleO (dCons (dAp sortO (dCons (dVar 2) (dNil))) (dNil)))) (dSkip)) (dRet (dAp tupleO (dCons (dVar 2) (dNil)))))
theorem lp_mid {k : Str} {b : Bool} {ws : List Int} {p : P} (h : nok k ["list", "bag", "first", "last", "ends"]) (hk : shP (.str k) = true) (hb : decide (k = "tails") = b) (hne : ws ≠ []) (hl : ws.length ≤ 1000)
    (hz : ∀ o4 o5, ∃ η' st', b_lp_z [some (.fz (.str k)), some (.fz (.tup (ws.map P.int))), some (.cell 0), some (.fz (.bl b)), o4, o5] [.lst ((Kd.heads (if b then ws.reverse else ws)).map P.int)] = .ok (.rt (.fz p), η', st')) : F_l_plain [.fz (.str k), .fz (.tup (ws.map P.int))] [] = .ok (.fz p, []) := by
  obtain ⟨o4, o5, hlp⟩ := lp_loop b ws (some (.fz (.str k))) (rngI ws.length) [] none none (rng_okIx ws) (by rw [rng_len]; simp; omega)
  rw [map_vT, ← rangeP_ints] at hlp
  obtain ⟨η', st', hz⟩ := hz o4 o5
  refine run0 (η' := η') (st' := st') rfl (s_seq (s_iff (k_test rfl (h _ (by simp)) hk) rfl) (s_seq (s_iff (k_test rfl (h _ (by simp)) hk) rfl) (s_seq (s_iff (len_test rfl (len_ne hne)) rfl) (s_seq (s_iff (k_test rfl (h _ (by simp)) hk) rfl) (s_seq (s_iff (k_test rfl (h _ (by simp)) hk) rfl) (s_seq (s_iff (k_test rfl (h _ (by simp)) hk) rfl) (s_seq (s_set (i := 2) (e_ap e_nil rfl)) (s_seq (s_set (i := 3) (e_bin (e_var rfl) e_k (eq_str (b := "tails") hk))) (s_seq (η' := [some (.fz (.str k)), some (.fz (.tup (ws.map P.int))), some (.cell 0), some (.fz (.bl b)), o4, o5]) (s_forR1 (k := ws.length) (e_cons (e_ap (e_cons (e_var rfl) e_nil) len_tup) e_nil) (by omega) ?_) hz)))))))))
  rw [hb]; exact hlp
theorem lp_heads (ws : List Int) (hl : ws.length ≤ 1000) : F_l_plain [.fz (.str "heads"), .fz (.tup (ws.map P.int))] [] = .ok (.fz (.tup ((Kd.heads ws).map P.int)), []) := by
  by_cases hne : ws = []
  · subst hne; exact lp_empty "heads" (by decide)
  · exact lp_mid (b := false) (by decide) (by decide +kernel) (by decide) hne hl fun o4 o5 => ⟨_, _, s_seq (s_iff (e_tru (e_var rfl) rfl) rfl) (s_seq (s_iff (k_test rfl (by decide)) rfl) (s_ret (e_ap (e_cons (e_var rfl) e_nil) rfl)))⟩
theorem lp_tails (ws : List Int) (hl : ws.length ≤ 1000) : F_l_plain [.fz (.str "tails"), .fz (.tup (ws.map P.int))] [] = .ok (.fz (.tup ((Kd.tails ws).map P.int)), []) := by
  by_cases hne : ws = []
  · subst hne; exact lp_empty "tails" (by decide)
  · rw [show (Kd.tails ws).map P.int = ((Kd.heads ws.reverse).map P.int).reverse by unfold Kd.tails; rw [List.map_reverse]]
    exact lp_mid (b := true) (by decide) (by decide +kernel) (by decide) hne hl fun o4 o5 => ⟨_, _, s_seq (s_ift (e_tru (e_var rfl) rfl) (s_ex (e_bm (e_var rfl) rfl e_nil rfl))) (s_seq (s_iff (k_test rfl (by decide)) rfl) (s_ret (e_ap (e_cons (e_var rfl) e_nil) rfl)))⟩
theorem sort_lst {st : Sr} {n : Nat} {ws : List Int} (hn : st[n]? = some (.lst (ws.map P.int))) : sortO [.cell n] st = .ok (.cell st.length, st ++ [.lst ((Kd.sortI ws).map P.int)]) := by
  unfold sortO
  dsimp only
  rw [peek_lst hn]
  show (match intsP (ws.map P.int) with
    | some is => R.ok (D.cell st.length, st ++ [Ct.lst ((is.mergeSort fun i j => decide (i ≤ j)).map P.int)])
    | none => .stuck) = _
  rw [intsP_ok]
  rfl
theorem lp_set (ws : List Int) (hl : ws.length ≤ 1000) : F_l_plain [.fz (.str "set"), .fz (.tup (ws.map P.int))] [] = .ok (.fz (.tup ((Kd.setI ws).map P.int)), []) := by
  by_cases hne : ws = []
  · subst hne; rw [show Kd.setI [] = [] by simp [Kd.setI, Kd.sortI, Kd.heads, Kd.hgo]]; exact lp_empty "set" (by decide)
  · exact lp_mid (b := false) (by decide) (by decide +kernel) (by decide) hne hl fun o4 o5 => ⟨_, _, s_seq (s_iff (e_tru (e_var rfl) rfl) rfl) (s_seqr (s_ift (k_test rfl (by decide)) (s_ret (e_ap (e_cons (e_ap (e_cons (e_var rfl) e_nil) (sort_lst (ws := Kd.heads ws) rfl)) e_nil) rfl))))⟩
end G

end
section
set_option Elab.async false
set_option linter.all false
set_option maxRecDepth 100000
set_option maxHeartbeats 0
namespace G
open PySem L2 M
/-- all that the law needs of a kind -/
structure PlOk (k c : Str) (f : List Int → List Int) : Prop where
  named : F_kind_named [.fz (.str k)] [] = .ok (.fz (.obj c []), [])
  meth : look1 c mt_plain = some F_Kind_plain
  plain : ∀ {d : D} {pre : Sr} {ws : List Int}, Wd d pre ws → ws.length ≤ 1000 → F_Kind_plain [.fz (.obj c []), d] pre = .ok (.fz (.tup ((f ws).map P.int)), pre)
  lawp : ∀ ws : List Int, ws.length ≤ 1000 → F_l_plain [.fz (.str k), .fz (.tup (ws.map P.int))] [] = .ok (.fz (.tup ((f ws).map P.int)), [])
  join : ∀ l r, f (f l ++ f r) = f (l ++ r)
  idem : ∀ l, f (f l) = f l
  len : ∀ l, (f l).length ≤ l.length + 2
theorem sGo_ok (ws : List Int) : ∀ (l acc : List Int), okIx ws l → okIx ws acc → okIx ws (sGo ws acc l) ∧ (sGo ws acc l).length ≤ acc.length + l.length
  | [], acc, _, h => ⟨h, Nat.le_refl _⟩
  | i :: l, acc, hl, ha => by
    have hl' : okIx ws l := fun j hj => hl j (List.mem_cons_of_mem _ hj)
    unfold sGo
    split
    · obtain ⟨h1, h2⟩ := sGo_ok ws l (acc ++ [i]) hl' (fun j hj => by
        rcases List.mem_append.mp hj with h | h
        · exact ha j h
        · simp at h; subst h; exact hl _ List.mem_cons_self)
      exact ⟨h1, by simp at h2 ⊢; omega⟩
    · obtain ⟨h1, h2⟩ := sGo_ok ws l acc hl' ha
      exact ⟨h1, by simp at h2 ⊢; omega⟩
theorem hIx_ok (ws : List Int) : ∀ (l acc : List Int), okIx ws l → okIx ws acc → okIx ws (hIx ws acc l) ∧ (hIx ws acc l).length ≤ acc.length + l.length
  | [], acc, _, h => ⟨h, Nat.le_refl _⟩
  | i :: l, acc, hl, ha => by
    have hl' : okIx ws l := fun j hj => hl j (List.mem_cons_of_mem _ hj)
    unfold hIx
    split
    · obtain ⟨h1, h2⟩ := hIx_ok ws l acc hl' ha
      exact ⟨h1, by simp at h2 ⊢; omega⟩
    · obtain ⟨h1, h2⟩ := hIx_ok ws l (acc ++ [i]) hl' (fun j hj => by
        rcases List.mem_append.mp hj with h | h
        · exact ha j h
        · simp at h; subst h; exact hl _ List.mem_cons_self)
      exact ⟨h1, by simp at h2 ⊢; omega⟩
theorem heads_ok (ws : List Int) : okIx ws (headsIx ws) ∧ (headsIx ws).length ≤ ws.length := by
  have h := hIx_ok ws (rngI ws.length) [] (rng_okIx ws) (fun _ h => by cases h)
  rw [rng_len] at h
  exact ⟨h.1, by unfold headsIx; simpa using h.2⟩
theorem tails_ok (ws : List Int) : okIx ws (tailsIx ws) ∧ (tailsIx ws).length ≤ ws.length := by
  have h := hIx_ok ws (rngI ws.length).reverse [] (fun j hj => rng_okIx ws j (List.mem_reverse.mp hj)) (fun _ h => by cases h)
  rw [List.length_reverse, rng_len] at h
  exact ⟨fun j hj => h.1 j (List.mem_reverse.mp hj), by unfold tailsIx; rw [List.length_reverse]; simpa using h.2⟩
theorem hlen (l : List Int) : (Kd.heads l).length ≤ l.length := by
  rw [← map_heads, List.length_map]; exact (heads_ok l).2
theorem ok_list : PlOk "list" "Kind" id where
  named := kn_0
  meth := rfl
  plain := fun {d pre ws} hw hl => by
    have h := plain_of (c := "Kind") (F := F_Kind_keep) rfl hw (kind_keep hw hl _) (rng_okIx ws) (by rw [rng_len]; omega)
    rwa [map_rng] at h
  lawp := fun ws _ => lp_list ws
  join := fun _ _ => rfl
  idem := fun _ => rfl
  len := fun _ => by simp
theorem ok_bag : PlOk "bag" "BagKind" Kd.sortI where
  named := kn_1
  meth := rfl
  plain := fun {d pre ws} hw hl => by
    have h := plain_of (c := "BagKind") (F := F_BagKind_keep) rfl hw (bag_keep lk1 hw hl) (bag_ok ws) (by rw [bag_len]; omega)
    rwa [map_bag] at h
  lawp := fun ws _ => lp_bag ws
  join := Kd.sortI_join
  idem := Kd.sortI_idem
  len := fun l => by rw [(Kd.sortI_perm l).length_eq]; omega
theorem ok_set : PlOk "set" "SetKind" Kd.setI where
  named := kn_2
  meth := rfl
  plain := fun {d pre ws} hw hl => by
    have ho := sGo_ok ws (bagIx ws) [] (bag_ok ws) (fun _ h => by cases h)
    have h := plain_of (c := "SetKind") (F := F_SetKind_keep) rfl hw (set_keep hw hl) ho.1 (by have := ho.2; rw [bag_len] at this; simp at this; omega)
    rwa [map_set] at h
  lawp := lp_set
  join := Kd.setI_join
  idem := Kd.setI_idem
  len := fun l => by unfold Kd.setI; rw [(Kd.sortI_perm _).length_eq]; have := hlen l; omega
theorem ok_first : PlOk "first" "FirstKind" Kd.firstI where
  named := kn_3
  meth := rfl
  plain := fun {d pre ws} hw hl => by
    have ho := heads_ok ws
    have h := plain_of (c := "FirstKind") (F := F_FirstKind_keep) rfl hw (first_keep hw hl) (fun j hj => ho.1 j (List.mem_of_mem_take hj)) (by simp; omega)
    rwa [map_first] at h
  lawp := fun ws _ => lp_first ws
  join := Kd.firstI_join
  idem := Kd.firstI_idem
  len := fun l => by unfold Kd.firstI; simp; omega
theorem ok_last : PlOk "last" "LastKind" Kd.lastI where
  named := kn_4
  meth := rfl
  plain := fun {d pre ws} hw hl => by
    have ho := tails_ok ws
    have h := plain_of (c := "LastKind") (F := F_LastKind_keep) rfl hw (last_keep hw hl) (fun j hj => ho.1 j (List.mem_of_mem_drop hj)) (by simp; omega)
    rwa [map_last] at h
  lawp := fun ws _ => lp_last ws
  join := Kd.lastI_join
  idem := Kd.lastI_idem
  len := fun l => by unfold Kd.lastI; simp; omega
theorem ok_ends : PlOk "ends" "EndsKind" Kd.endsI where
  named := kn_5
  meth := rfl
  plain := fun {d pre ws} hw hl => by
    have h := plain_of (c := "EndsKind") (F := F_EndsKind_keep) rfl hw (ends_keep hw hl) (fun j hj => by
      unfold endsIx at hj
      rcases List.mem_append.mp hj with h | h
      · exact rng_okIx ws j (List.mem_of_mem_take h)
      · exact rng_okIx ws j (List.mem_of_mem_drop h)) (by unfold endsIx; simp [rng_len]; omega)
    rwa [map_ends] at h
  lawp := fun ws _ => lp_ends ws
  join := Kd.endsI_join
  idem := Kd.endsI_idem
  len := fun l => by unfold Kd.endsI Kd.firstI Kd.lastI; simp; omega
theorem ok_heads : PlOk "heads" "HeadsKind" Kd.heads where
  named := kn_6
  meth := rfl
  plain := fun {d pre ws} hw hl => by
    have ho := heads_ok ws
    have h := plain_of (c := "HeadsKind") (F := F_HeadsKind_keep) rfl hw (heads_keep rfl hw hl) ho.1 (by omega)
    rwa [map_heads] at h
  lawp := lp_heads
  join := Kd.heads_join
  idem := Kd.heads_idem
  len := fun l => by have := hlen l; omega
theorem ok_tails : PlOk "tails" "TailsKind" Kd.tails where
  named := kn_7
  meth := rfl
  plain := fun {d pre ws} hw hl => by
    have ho := tails_ok ws
    have h := plain_of (c := "TailsKind") (F := F_TailsKind_keep) rfl hw (tails_keep rfl hw hl) ho.1 (by omega)
    rwa [map_tails] at h
  lawp := lp_tails
  join := Kd.tails_join
  idem := Kd.tails_idem
  len := fun l => by have := (tails_ok l).2; rw [← List.length_map (f := vAt l), map_tails] at this; omega
theorem pl_ex (k : Str) (h : k ∈ kinds) : ∃ c f, PlOk k c f := by
  simp only [kinds, List.mem_cons, List.not_mem_nil, or_false] at h
  rcases h with rfl | rfl | rfl | rfl | rfl | rfl | rfl | rfl
  · exact ⟨_, _, ok_list⟩
  · exact ⟨_, _, ok_bag⟩
  · exact ⟨_, _, ok_set⟩
  · exact ⟨_, _, ok_first⟩
  · exact ⟨_, _, ok_last⟩
  · exact ⟨_, _, ok_ends⟩
  · exact ⟨_, _, ok_heads⟩
  · exact ⟨_, _, ok_tails⟩
end G

end
section
set_option Elab.async false
set_option linter.all false
set_option maxRecDepth 100000
set_option maxHeartbeats 0
namespace G
open PySem L2 M
theorem set_same {α : Type} : ∀ {l : List α} {n : Nat} {c : α}, l[n]? = some c → l.set n c = l
  | [], n, c, h => by simp at h
  | a :: r, 0, c, h => by simp at h; subst h; rfl
  | a :: r, n + 1, c, h => by rw [List.set_cons_succ, set_same (by simpa using h)]
/-- a word in a store: a frozen tuple, or a list in a cell -/
def WdS (st : Sr) (d : D) (ws : List Int) : Prop := d = .fz (.tup (ws.map P.int)) ∨ ∃ n, d = .cell n ∧ st[n]? = some (.lst (ws.map P.int))
theorem c_wds {F : DF} {as : List P} {ws : List Int} {q : P} {η : Et} {st : Sr} {d : D} (hF : ∀ {d : D} {pre : Sr}, Wd d pre ws → F (as.map D.fz ++ [d]) pre = .ok (.fz q, pre)) (h : WdS st d ws) : callF F (as.map D.fz ++ [d]) η st = .ok (.fz q, st) := by
  rcases h with rfl | ⟨n, rfl, hn⟩
  · have h := hF (d := .fz (.tup (ws.map P.int))) (pre := []) (.inl ⟨rfl, rfl⟩)
    have e : as.map D.fz ++ [D.fz (.tup (ws.map P.int))] = (as ++ [P.tup (ws.map P.int)]).map D.fz := by rw [List.map_append]; rfl
    rw [e] at h ⊢
    exact callF_fz h
  · have h := hF (d := .cell 0) (pre := [.lst (ws.map P.int)]) (.inr ⟨rfl, rfl⟩)
    have h2 := callF_c (F := F) (as := as) (bs := []) (q := q) (η := η) hn rfl rfl h
    rw [set_same hn] at h2
    exact h2
section
variable {k c : Str} {f : List Int → List Int} (o : PlOk k c f)
include o
theorem named_c {η : Et} {st : Sr} : callF F_kind_named [.fz (.str k)] η st = .ok (.fz (.obj c []), st) := callF_fz (ps := [.str k]) o.named
theorem plain_c {η : Et} {st : Sr} {d : D} {ws : List Int} (h : WdS st d ws) (hl : ws.length ≤ 1000) : callF F_Kind_plain [.fz (.obj c []), d] η st = .ok (.fz (.tup ((f ws).map P.int)), st) :=
  c_wds (as := [.obj c []]) (fun hw => o.plain hw hl) h
theorem lp_c {η : Et} {st : Sr} {ws : List Int} (hl : ws.length ≤ 1000) : callF F_l_plain [.fz (.str k), .fz (.tup (ws.map P.int))] η st = .ok (.fz (.tup ((f ws).map P.int)), st) :=
  callF_fz (ps := [.str k, .tup (ws.map P.int)]) (o.lawp ws hl)
theorem alike_ok {a b : List Int} (ha : a.length ≤ 1000) (hb : b.length ≤ 1000) (e : f a = f b) : F_alike [.fz (.str k), .fz (.tup (a.map P.int)), .fz (.tup (b.map P.int))] [] = .ok (.fz (.bl true), []) := by
  refine run0 (η' := [some (.fz (.str k)), some (.fz (.tup (a.map P.int))), some (.fz (.tup (b.map P.int))), some (.fz (.obj c []))]) (st' := []) rfl (s_seq (s_set (i := 3) (e_call (e_cons (e_var rfl) e_nil) (named_c o))) (s_ret (e_bin (e_meth (F := F_Kind_plain) (e_var rfl) o.meth (e_cons (e_var rfl) e_nil) (plain_c o (.inl rfl) ha)) (e_meth (F := F_Kind_plain) (e_var rfl) o.meth (e_cons (e_var rfl) e_nil) (plain_c o (.inl rfl) hb)) ?_)))
  rw [e]
  show (if shP (.tup ((f b).map P.int)) = true ∧ shP (.tup ((f b).map P.int)) = true then R.ok (D.fz (.bl (eqP (.tup ((f b).map P.int)) (.tup ((f b).map P.int)))), []) else .stuck) = _
  rw [if_pos ⟨shP_tup _, shP_tup _⟩, eqP_tup, decide_eq_true rfl]
end
theorem kit1 : kitB "tuple" "tuple" = some true := by decide +kernel
theorem kit2 : kitB "int" "int" = some true := by decide +kernel
theorem kit3 : kitB "int" "bool" = some false := by decide +kernel
theorem isi_ok {T t : String} {p : P} {b : Bool} {st : Sr} (h1 : tyP p = some t) (h2 : kitB t T = some b) : isiO T (.fz p) st = .ok (.fz (.bl b), st) := by
  unfold isiO
  rw [show (peek st (.fz p)).bind tyP = some t from h1]
  dsimp only
  rw [h2]
theorem ne_tup {a b : List Int} {st : Sr} (e : a = b) : neO (.fz (.tup (a.map P.int))) (.fz (.tup (b.map P.int))) st = .ok (.fz (.bl false), st) := by
  subst e
  show (if shP (.tup (a.map P.int)) = true ∧ shP (.tup (a.map P.int)) = true then R.ok (D.fz (.bl (!eqP (.tup (a.map P.int)) (.tup (a.map P.int)))), st) else .stuck) = _
  rw [if_pos ⟨shP_tup _, shP_tup _⟩, eqP_tup, decide_eq_true rfl]
  rfl
theorem ne_lst {a : List Int} {st : Sr} {n m : Nat} (hn : st[n]? = some (.lst (a.map P.int))) (hm : st[m]? = some (.lst (a.map P.int))) : neO (.cell n) (.cell m) st = .ok (.fz (.bl false), st) := by
  unfold neO
  rw [peek_lst hn, peek_lst hm]
  dsimp only
  rw [if_pos ⟨shP_lst _, shP_lst _⟩, eqP_lst, decide_eq_true rfl]
  rfl
theorem add_tup {a b : List Int} {st : Sr} (h : a.length + b.length ≤ 5000) : addO (.fz (.tup (a.map P.int))) (.fz (.tup (b.map P.int))) st = .ok (.fz (.tup ((a ++ b).map P.int)), st) := by
  show (if (a.map P.int).length + (b.map P.int).length ≤ szL then R.ok (D.fz (.tup (a.map P.int ++ b.map P.int)), st) else .stuck) = _
  rw [if_pos (show _ ≤ 16777216 by simp; omega), List.map_append]
theorem list_tup {a : List Int} {st : Sr} : listO [.fz (.tup (a.map P.int))] st = .ok (.cell st.length, st ++ [.lst (a.map P.int)]) := rfl
end G

end
section
set_option Elab.async false
set_option linter.all false
set_option maxRecDepth 100000
set_option maxHeartbeats 0
namespace G
open PySem L2 M
/-! # Drawing parcels -/
abbrev stm (xs : List Int) : Ct := .lst (xs.map P.int)
abbrev wordR (xs : List Int) (k sty : Int) : R (D × Sr) := F_l_word [.cell 0, .fz (.int k), .fz (.int sty)] [stm xs]
abbrev wordV (xs : List Int) (k sty : Int) : List Int := rTup (wordR xs k sty)
abbrev wordS (xs : List Int) (k sty : Int) : List Int := rStm (wordR xs k sty)
theorem word_q (xs : List Int) {k : Int} (sty : Int) (h0 : 0 ≤ k) (h1 : k ≤ 100) : (wordV xs k sty).length = k.toNat ∧ wordR xs k sty = .ok (.fz (pw (wordV xs k sty)), [stm (wordS xs k sty)]) := by
  refine ex_tup (Q := fun ws => ws.length = k.toNat) ?_
  obtain ⟨ws, ys, hl, h⟩ := word_ex xs sty k.toNat (by omega)
  rw [Int.toNat_of_nonneg h0] at h
  exact ⟨ws, ys, hl, h⟩
theorem c_word (xs : List Int) {k sty : Int} (h0 : 0 ≤ k) (h1 : k ≤ 100) {η : Et} {rest : Sr} : callF F_l_word [.cell 0, .fz (.int k), .fz (.int sty)] η (stm xs :: rest) = .ok (.fz (pw (wordV xs k sty)), stm (wordS xs k sty) :: rest) :=
  c_one (F := F_l_word) (as := [.int k, .int sty]) (word_q xs sty h0 h1).2
/-! a parcel -/
def stemOk (shape : Int) (stem : List Int) : Prop := if shape = 2 then 1 ≤ stem.length ∧ stem.length ≤ 2 else stem.length = 3
abbrev okP (ws : List Int) : Prop := 1 ≤ ws.length ∧ ws.length ≤ 4
theorem parcel_ex (xs : List Int) (sty shape : Int) (stem : List Int) (hs : stemOk shape stem) : ∃ ws ys, okP ws ∧ F_l_parcel [.cell 0, .fz (.int sty), .fz (.int shape), .fz (pw stem)] [stm xs] = .ok (.fz (pw ws), [stm ys]) := by
  have hd := drawV_bd (xs := xs) (show (0 : Int) < 3 by decide)
  generalize hz : 1 + drawV xs 3 = z
  have hz1 : 1 ≤ z ∧ z ≤ 3 := by omega
  -- a free word
  have free : ∀ ys : List Int, okP (wordV ys z sty) ∧ dRet (dCall F_l_word (dCons (dVar 0) (dCons (dVar 4) (dCons (dVar 1) (dNil))))) [some (.cell 0), some (.fz (.int sty)), some (.fz (.int shape)), some (.fz (pw stem)), some (.fz (.int z))] [stm ys] = .ok (.rt (.fz (pw (wordV ys z sty))), [some (.cell 0), some (.fz (.int sty)), some (.fz (.int shape)), some (.fz (pw stem)), some (.fz (.int z))], [stm (wordS ys z sty)]) := fun ys => by
    have h := (word_q ys sty (show 0 ≤ z by omega) (show z ≤ 100 by omega)).1
    refine ⟨⟨by rw [h]; omega, by rw [h]; omega⟩, ?_⟩
    exact s_ret (e_call (e_cons (e_var rfl) (e_cons (e_var rfl) (e_cons (e_var rfl) e_nil))) (c_word ys (by omega) (by omega)))
  have first : dAsg (dBin addO (dK (.int 1)) (dCall F_l_draw (dCons (dVar 0) (dCons (dK (.int 3)) (dNil))))) (gNm 4) [some (.cell 0), some (.fz (.int sty)), some (.fz (.int shape)), some (.fz (pw stem)), none] [stm xs] = .ok (.nx, [some (.cell 0), some (.fz (.int sty)), some (.fz (.int shape)), some (.fz (pw stem)), some (.fz (.int z))], [stm (drawS xs)]) := by
    rw [← hz]
    exact s_set (i := 4) (e_bin e_k (e_call (e_cons (e_var rfl) (e_cons e_k e_nil)) (c_draw xs (by decide))) add_int)
  by_cases h2 : shape < 2
  · refine ⟨_, _, (free (drawS xs)).1, run1 (c := stm (wordS (drawS xs) z sty)) rfl (s_seq first (s_seqr (s_ift (e_or_t (t_lt (e_var rfl) e_k (decide_eq_true h2))) (free (drawS xs)).2))) rfl rfl⟩
  by_cases h7 : drawV (drawS xs) 8 = 7
  · refine ⟨_, _, (free (drawS (drawS xs))).1, run1 (c := stm (wordS (drawS (drawS xs)) z sty)) rfl (s_seq first (s_seqr (s_ift (e_or_f (t_lt (e_var rfl) e_k (decide_eq_false h2)) (t_eq (e_call (e_cons (e_var rfl) (e_cons e_k e_nil)) (c_draw _ (by decide))) e_k (decide_eq_true h7))) (free (drawS (drawS xs))).2))) rfl rfl⟩
  have t1 : ∀ {x y : DS}, dIf (dOr (dTru (dBin ltO (dVar 2) (dK (.int 2)))) (dTru (dBin eqO (dCall F_l_draw (dCons (dVar 0) (dCons (dK (.int 8)) (dNil)))) (dK (.int 7))))) x (dSkip) [some (.cell 0), some (.fz (.int sty)), some (.fz (.int shape)), some (.fz (pw stem)), some (.fz (.int z))] [stm (drawS xs)] = .ok (.nx, [some (.cell 0), some (.fz (.int sty)), some (.fz (.int shape)), some (.fz (pw stem)), some (.fz (.int z))], [stm (drawS (drawS xs))]) := fun {x y} =>
    s_iff (e_or_f (t_lt (e_var rfl) e_k (decide_eq_false h2)) (t_eq (e_call (e_cons (e_var rfl) (e_cons e_k e_nil)) (c_draw _ (by decide))) e_k (decide_eq_false h7))) s_skip
  by_cases h3 : shape = 2
  · have hs : 1 ≤ stem.length ∧ stem.length ≤ 2 := by unfold stemOk at hs; rwa [if_pos h3] at hs
    have hne : stem ≠ [] := by intro e; rw [e] at hs; simp at hs
    have hdv : (4 : Int) / (stem.length : Int) = if stem.length = 1 then 4 else 2 := by
      have : stem.length = 1 ∨ stem.length = 2 := by omega
      rcases this with e | e <;> rw [e] <;> decide
    generalize hm : (if (4 : Int) / (stem.length : Int) < z then (4 : Int) / (stem.length : Int) else z) = m
    have hmb : 1 ≤ m ∧ m ≤ 3 ∧ m.toNat * stem.length ≤ 4 ∧ 1 ≤ m.toNat * stem.length := by
      have : stem.length = 1 ∨ stem.length = 2 := by omega
      rcases this with e | e
      · have hdv' : (4 : Int) / (stem.length : Int) = 4 := by rw [hdv, if_pos e]
        rw [hdv'] at hm
        rw [e]
        split at hm <;> omega
      · have hdv' : (4 : Int) / (stem.length : Int) = 2 := by rw [hdv, if_neg (by omega)]
        rw [hdv'] at hm
        rw [e]
        split at hm <;> omega
    refine ⟨(List.replicate m.toNat stem).flatten, drawS (drawS xs), ?_, run1 (c := stm (drawS (drawS xs))) (st' := [stm (drawS (drawS xs))]) rfl (s_seq first (s_seq (t1 (y := dSkip)) (s_seqr (s_ift (t_eq (e_var rfl) e_k (decide_eq_true h3)) (s_ret (e_bin (e_var rfl) (e_ap (e_cons (e_var rfl) (e_cons (e_bin e_k (e_ap (e_cons (e_var rfl) e_nil) lenw) (fdivO_ok (by omega))) e_nil)) rfl) ?_)))))) rfl rfl⟩
    · have : (List.replicate m.toNat stem).flatten.length = m.toNat * stem.length := by simp
      exact ⟨by rw [this]; omega, by rw [this]; omega⟩
    · rw [hm]; exact mulw hne hmb.1 (by omega) (by omega)
  have hs : stem.length = 3 := by unfold stemOk at hs; rwa [if_neg h3] at hs
  have t2 : ∀ {x : DS} {st : Sr}, dIf (dTru (dBin eqO (dVar 2) (dK (.int 2)))) x (dSkip) [some (.cell 0), some (.fz (.int sty)), some (.fz (.int shape)), some (.fz (pw stem)), some (.fz (.int z))] st = .ok (.nx, [some (.cell 0), some (.fz (.int sty)), some (.fz (.int shape)), some (.fz (pw stem)), some (.fz (.int z))], st) := s_iff (t_eq (e_var rfl) e_k (decide_eq_false h3)) s_skip
  by_cases h4 : shape = 3
  · refine ⟨stem.take z.toNat, drawS (drawS xs), ⟨by simp; omega, by simp; omega⟩, run1 (c := stm (drawS (drawS xs))) rfl (s_seq first (s_seq (t1 (y := dSkip)) (s_seq t2 (s_seqr (s_ift (t_eq (e_var rfl) e_k (decide_eq_true h4)) (s_ret (e_sl (e_var rfl) e_nopart (e_part (e_var rfl)) (slw_t (by omega))))))))) rfl rfl⟩
  have t3 : ∀ {x : DS} {st : Sr}, dIf (dTru (dBin eqO (dVar 2) (dK (.int 3)))) x (dSkip) [some (.cell 0), some (.fz (.int sty)), some (.fz (.int shape)), some (.fz (pw stem)), some (.fz (.int z))] st = .ok (.nx, [some (.cell 0), some (.fz (.int sty)), some (.fz (.int shape)), some (.fz (pw stem)), some (.fz (.int z))], st) := s_iff (t_eq (e_var rfl) e_k (decide_eq_false h4)) s_skip
  by_cases h5 : shape = 4
  · refine ⟨stem.drop (3 - z).toNat, drawS (drawS xs), ⟨by simp; omega, by simp; omega⟩, run1 (c := stm (drawS (drawS xs))) rfl (s_seq first (s_seq (t1 (y := dSkip)) (s_seq t2 (s_seq t3 (s_seqr (s_ift (t_eq (e_var rfl) e_k (decide_eq_true h5)) (s_ret (e_sl (e_var rfl) (e_part (e_bin e_k (e_var rfl) rfl)) e_nopart (slw_d (by omega)))))))))) rfl rfl⟩
  have t4 : ∀ {x : DS} {st : Sr}, dIf (dTru (dBin eqO (dVar 2) (dK (.int 4)))) x (dSkip) [some (.cell 0), some (.fz (.int sty)), some (.fz (.int shape)), some (.fz (pw stem)), some (.fz (.int z))] st = .ok (.nx, [some (.cell 0), some (.fz (.int sty)), some (.fz (.int shape)), some (.fz (pw stem)), some (.fz (.int z))], st) := s_iff (t_eq (e_var rfl) e_k (decide_eq_false h5)) s_skip
  have hw := (word_q (drawS (drawS xs)) sty (show 0 ≤ z - 1 by omega) (show z - 1 ≤ 100 by omega)).1
  refine ⟨stem.take (1 : Int).toNat ++ wordV (drawS (drawS xs)) (z - 1) sty ++ stem.drop (stem.length - 1), wordS (drawS (drawS xs)) (z - 1) sty, ⟨by simp; omega, by simp [hw]; omega⟩, run1 (c := stm (wordS (drawS (drawS xs)) (z - 1) sty)) rfl (s_seq first (s_seq (t1 (y := dSkip)) (s_seq t2 (s_seq t3 (s_seq t4 (s_ret (e_bin (e_bin (e_sl (e_var rfl) e_nopart (e_part e_k) (slw_t (by decide))) (e_call (e_cons (e_var rfl) (e_cons (e_bin (e_var rfl) e_k rfl) (e_cons (e_var rfl) e_nil))) (c_word _ (k := z - 1) (by omega) (by omega))) (addw (by simp [hw]; omega))) (e_sl (e_var rfl) (e_part (e_un e_k rfl)) e_nopart (sl_tup_l stem)) (addw (by simp [hw]; omega))))))))) rfl rfl⟩
end G

end
section
set_option Elab.async false
set_option linter.all false
set_option maxRecDepth 100000
set_option maxHeartbeats 0
namespace G
open PySem L2 M
/-! # A list of parcels; words around it -/
abbrev okPs (ps : List (List Int)) : Prop := ∀ p ∈ ps, okP p
theorem c_parcel (xs : List Int) (sty shape : Int) (stem : List Int) (hs : stemOk shape stem) : ∃ ws ys, okP ws ∧ ∀ (η : Et) (rest : Sr), callF F_l_parcel [.cell 0, .fz (.int sty), .fz (.int shape), .fz (pw stem)] η (stm xs :: rest) = .ok (.fz (pw ws), stm ys :: rest) := by
  obtain ⟨ws, ys, h1, h2⟩ := parcel_ex xs sty shape stem hs
  exact ⟨ws, ys, h1, fun η rest => c_one (F := F_l_parcel) (as := [.int sty, .int shape, pw stem]) h2⟩
theorem drawn_loop (s1 : Option D) (sty shape : Int) (stem : List Int) (hs : stemOk shape stem) : ∀ (l : List P) (xs : List Int) (acc : List (List Int)) (o : Option D), okPs acc → acc.length + l.length ≤ 1000 → ∃ acc' ys o', acc'.length = acc.length + l.length ∧ okPs acc' ∧
    loopD (gNm 6) b_l_drawn_1 l [some (.cell 0), s1, some (.fz (.int sty)), some (.fz (.int shape)), some (.fz (pw stem)), some (.cell 1), o] [stm xs, .lst (acc.map pw)] = .ok (.nx, [some (.cell 0), s1, some (.fz (.int sty)), some (.fz (.int shape)), some (.fz (pw stem)), some (.cell 1), o'], [stm ys, .lst (acc'.map pw)])
  | [], xs, acc, o, ha, hl => ⟨acc, xs, o, by simp, ha, rfl⟩
  | x :: l, xs, acc, o, ha, hl => by
    obtain ⟨ws, ys, h1, h2⟩ := c_parcel xs sty shape stem hs
    obtain ⟨acc', zs, o', e1, e2, e3⟩ := drawn_loop s1 sty shape stem hs l ys (acc ++ [ws]) (some (.fz x)) (fun p hp => by
      rcases List.mem_append.mp hp with h | h
      · exact ha p h
      · simp at h; subst h; exact h1) (by simp at hl ⊢; omega)
    refine ⟨acc', zs, o', by simp at e1 ⊢; omega, e2, lp_cons (gg := gNm 6) (s_ex (e_bm (e_var rfl) rfl (e_cons (e_call (e_cons (e_var rfl) (e_cons (e_var rfl) (e_cons (e_var rfl) (e_cons (e_var rfl) e_nil)))) (h2 _ _)) e_nil) (append_at (xs := acc.map pw) rfl (by simp at hl ⊢; omega)))) ?_⟩
    rw [List.map_append] at e3
    exact e3
theorem drawn_ex (xs : List Int) (sty : Int) (k : Int) (h0 : 0 ≤ k) (hk : k ≤ 100) : ∃ ps ys, (ps.length = k.toNat ∧ okPs ps) ∧ F_l_drawn [.cell 0, .fz (.int k), .fz (.int sty)] [stm xs] = .ok (.fz (pws ps), [stm ys]) := by
  have hd := drawV_bd (xs := xs) (show (0 : Int) < 6 by decide)
  generalize hsh : drawV xs 6 = shape at hd
  have hw := word_q (drawS xs) sty (show (0 : Int) ≤ 3 by decide) (by decide)
  generalize hst : wordV (drawS xs) 3 sty = stem at hw
  generalize hys : wordS (drawS xs) 3 sty = ys at hw
  have hw1 : stem.length = 3 := hw.1
  have d2 := drawV_bd (xs := ys) (show (0 : Int) < 2 by decide)
  have hif : ∃ stem' ys', stemOk shape stem' ∧ dIf (dTru (dBin eqO (dVar 3) (dK (.int 2)))) (dAsg (dSl (dVar 4) (dNoPart) (dPart (dBin addO (dK (.int 1)) (dCall F_l_draw (dCons (dVar 0) (dCons (dK (.int 2)) (dNil))))))) (gNm 4)) (dSkip) [some (.cell 0), some (.fz (.int k)), some (.fz (.int sty)), some (.fz (.int shape)), some (.fz (pw stem)), none, none] [stm ys] = .ok (.nx, [some (.cell 0), some (.fz (.int k)), some (.fz (.int sty)), some (.fz (.int shape)), some (.fz (pw stem')), none, none], [stm ys']) := by
    by_cases h2 : shape = 2
    · refine ⟨stem.take (1 + drawV ys 2).toNat, drawS ys, ?_, s_ift (t_eq (e_var rfl) e_k (decide_eq_true h2)) (s_set (i := 4) (e_sl (e_var rfl) e_nopart (e_part (e_bin e_k (e_call (e_cons (e_var rfl) (e_cons e_k e_nil)) (c_draw ys (by decide))) add_int)) (slw_t (by omega))))⟩
      unfold stemOk
      rw [if_pos h2, List.length_take, hw1]
      omega
    · refine ⟨stem, ys, ?_, s_iff (t_eq (e_var rfl) e_k (decide_eq_false h2)) s_skip⟩
      unfold stemOk
      rw [if_neg h2]; exact hw1
  obtain ⟨stem', ys', hs, hif⟩ := hif
  obtain ⟨ps, zs, o', e1, e2, e3⟩ := drawn_loop (some (.fz (.int k))) sty shape stem' hs (rangeP 0 k.toNat) ys' [] none (fun p hp => by cases hp) (by simp [rangeP]; omega)
  refine ⟨ps, zs, ⟨by simp [rangeP] at e1; exact e1, e2⟩, run1le (k := 0) (c := stm zs) (more := [.lst (ps.map pw)]) rfl rfl rfl ?_⟩
  apply Exists.intro
  refine s_seq (s_set (i := 3) (e_call (e_cons (e_var rfl) (e_cons e_k e_nil)) (c_draw xs (by decide)))) ?_
  rw [hsh]
  refine s_seq (s_set (i := 4) (e_call (e_cons (e_var rfl) (e_cons e_k (e_cons (e_var rfl) e_nil))) (c_word (drawS xs) (k := 3) (by decide) (by decide)))) ?_
  rw [hst, hys]
  refine s_seq hif (s_seq (s_set (i := 5) (e_ap e_nil (lstO_fz (ps := []) (by decide)))) (s_seq (for_r1 (e_cons (e_var rfl) e_nil) h0 (by omega) e3) (s_ret (e_var rfl))))
theorem pickI (ns : List Int) {v : Int} (h0 : 0 ≤ v) (hl : v < ns.length) : ∃ w ∈ ns, (ns.map P.int)[v.toNat]? = some (.int w) := by
  have h : v.toNat < ns.length := by omega
  exact ⟨ns[v.toNat], List.getElem_mem h, by rw [List.getElem?_map, List.getElem?_eq_getElem h]; rfl⟩
theorem pickP (ns : List P) {v : Int} (h0 : 0 ≤ v) (hl : v < ns.length) : ∃ w ∈ ns, ns[v.toNat]? = some w := by
  have h : v.toNat < ns.length := by omega
  exact ⟨ns[v.toNat], List.getElem_mem h, List.getElem?_eq_getElem h⟩
theorem around_ex (xs : List Int) (sty : Int) : ∃ ws ys, ws.length ≤ 2 ∧ F_l_around [.cell 0, .fz (.int sty)] [stm xs] = .ok (.fz (pw ws), [stm ys]) := by
  have hd := drawV_bd (xs := xs) (show (0 : Int) < 4 by decide)
  obtain ⟨w, hw, e⟩ := pickI [0, 0, 1, 2] hd.1 hd.2
  have hb : 0 ≤ w ∧ w ≤ 2 := by
    simp at hw; omega
  have hq := (word_q (drawS xs) sty hb.1 (show w ≤ 100 by omega)).1
  refine ⟨wordV (drawS xs) w sty, wordS (drawS xs) w sty, by omega, run1 (c := stm (wordS (drawS xs) w sty)) (st' := [stm (wordS (drawS xs) w sty), .lst [.int 0, .int 0, .int 1, .int 2]]) rfl (s_ret (e_call (e_cons (e_var rfl) (e_cons (e_bin (e_ap (e_cons e_k (e_cons e_k (e_cons e_k (e_cons e_k e_nil)))) (lstO_fz (ps := [.int 0, .int 0, .int 1, .int 2]) (by decide))) (e_call (e_cons (e_var rfl) (e_cons e_k e_nil)) (c_draw xs (by decide))) (ixl (xs := [.int 0, .int 0, .int 1, .int 2]) (IsL.cell rfl) hd.1 e)) (e_cons (e_var rfl) e_nil))) (c_word (drawS xs) hb.1 (by omega)))) rfl rfl⟩
/-! ### a list of words: frozen, a cell, a frozen cell; what a loop over it leaves -/
inductive Ls (xs : List P) : D → Sr → Sr → Prop
  | fz : Ls xs (.fz (.lst xs)) [] []
  | cell : Ls xs (.cell 0) [.lst xs] [.frz (.lst xs)]
  | frz : Ls xs (.cell 0) [.frz (.lst xs)] [.frz (.lst xs)]
theorem Ls.to {xs : List P} {d : D} {pre post : Sr} (h : Ls xs d pre post) : toP pre d = some (.lst xs, post) := by cases h <;> rfl
theorem Ls.isL {xs : List P} {d : D} {pre post : Sr} (h : Ls xs d pre post) : IsL pre d xs := by cases h <;> rfl
theorem Ls.isL2 {xs : List P} {d : D} {pre post more : Sr} (h : Ls xs d pre post) : IsL (pre ++ more) d xs := by cases h <;> rfl
theorem Ls.isLp {xs : List P} {d : D} {pre post more : Sr} (h : Ls xs d pre post) : IsL (post ++ more) d xs := by cases h <;> rfl
/-- a def with a list among its arguments -/
theorem run_ls {np n : Nat} {b : DS} {ds : List D} {d : D} {xs : List P} {pre post : Sr} {p : P} {η' : Et} (hw : Ls xs d pre post) (hl : ds.length = np) {s : Sr} (hs : s = pre ∨ s = post) {more : Sr} (h : b (ds.map some ++ List.replicate (n - np) none) pre = .ok (.rt (.fz p), η', s ++ more)) : runF np n true b ds pre = .ok (.fz p, s) := by
  cases hw with
  | fz => have e : s = [] := by rcases hs with h | h <;> exact h
          subst e; exact run0 hl h
  | cell => rcases hs with rfl | rfl
            · exact run1 hl h rfl rfl
            · exact run1 hl h rfl rfl
  | frz => have e : s = [.frz (.lst xs)] := by rcases hs with h | h <;> exact h
           subst e; exact run1 hl h rfl rfl
theorem run_lsl {np n : Nat} {b : DS} {ds : List D} {d : D} {xs ys : List P} {pre post : Sr} {η' : Et} (hw : Ls xs d pre post) (hl : ds.length = np) {s : Sr} (hs : s = pre ∨ s = post) {mid more : Sr} (h : b (ds.map some ++ List.replicate (n - np) none) pre = .ok (.rt (.cell (s ++ mid).length), η', s ++ mid ++ .lst ys :: more)) : runF np n true b ds pre = .ok (.fz (.lst ys), s) := by
  cases hw with
  | fz => have e : s = [] := by rcases hs with h | h <;> exact h
          subst e; exact run0l hl h get_end
  | cell => rcases hs with rfl | rfl
            · exact run1l (k := mid.length) hl h (get_end (pre := .lst xs :: mid)) rfl rfl
            · exact run1l (k := mid.length) hl h (get_end (pre := .frz (.lst xs) :: mid)) rfl rfl
  | frz => have e : s = [.frz (.lst xs)] := by rcases hs with h | h <;> exact h
           subst e; exact run1l (k := mid.length) hl h (get_end (pre := .frz (.lst xs) :: mid)) rfl rfl
theorem fl_len {ps : List (List Int)} (h : okPs ps) : ps.flatten.length ≤ 4 * ps.length := by
  induction ps with
  | nil => simp
  | cons p r ih =>
    have h1 := (h p List.mem_cons_self).2
    have h2 := ih fun q hq => h q (List.mem_cons_of_mem _ hq)
    simp only [List.flatten_cons, List.length_append, List.length_cons] at *
    omega
theorem joined_loop (s0 : Option D) (st : Sr) : ∀ (ps : List (List Int)) (w : List Int) (o : Option D), w.length + ps.flatten.length ≤ 5000 → ∃ o', loopD (gNm 2) b_l_joined_1 (ps.map pw) [s0, some (.fz (pw w)), o] st = .ok (.nx, [s0, some (.fz (pw (w ++ ps.flatten))), o'], st)
  | [], w, o, _ => ⟨o, by rw [List.flatten_nil, List.append_nil]; rfl⟩
  | p :: ps, w, o, h => by
    simp only [List.flatten_cons, List.length_append] at h
    obtain ⟨o', ih⟩ := joined_loop s0 st ps (w ++ p) (some (.fz (pw p))) (by rw [List.length_append]; omega)
    refine ⟨o', lp_cons (gg := gNm 2) (s_set (i := 1) (e_bin (e_var rfl) (e_var rfl) (addw (by omega)))) ?_⟩
    rw [List.append_assoc] at ih
    exact ih
theorem joined_ok {ps : List (List Int)} {d : D} {pre post : Sr} (hd : Ls (ps.map pw) d pre post) (h : ps.flatten.length ≤ 5000) : F_l_joined [d] pre = .ok (.fz (pw ps.flatten), post) := by
  obtain ⟨o', e⟩ := joined_loop (some d) post ps [] none (by simpa using h)
  exact run_ls hd rfl (.inr rfl) (more := []) (by
    rw [List.append_nil]
    exact s_seq (s_set (i := 1) (e_ap e_nil (tupO_fz (ps := []) (by decide)))) (s_seq (s_forL (e_var rfl) hd.to rfl e) (s_ret (e_var rfl))))
theorem wof_loop (s0 s1 s2 : Option D) (st : Sr) : ∀ (ps : List (List Int)) (w : List Int) (o : Option D), w.length + ps.flatten.length ≤ 5000 → ∃ o', loopD (gNm 4) b_word_of_1 (ps.map pw) [s0, s1, s2, some (.fz (pw w)), o] st = .ok (.nx, [s0, s1, s2, some (.fz (pw (w ++ ps.flatten))), o'], st)
  | [], w, o, _ => ⟨o, by rw [List.flatten_nil, List.append_nil]; rfl⟩
  | p :: ps, w, o, h => by
    simp only [List.flatten_cons, List.length_append] at h
    obtain ⟨o', ih⟩ := wof_loop s0 s1 s2 st ps (w ++ p) (some (.fz (pw p))) (by rw [List.length_append]; omega)
    refine ⟨o', lp_cons (gg := gNm 4) (s_set (i := 3) (e_bin (e_var rfl) (e_var rfl) (addw (by omega)))) ?_⟩
    rw [List.append_assoc] at ih
    exact ih
theorem wof_ok {ps : List (List Int)} {a b : List Int} {d : D} {pre post : Sr} (hd : Ls (ps.map pw) d pre post) (h : a.length + ps.flatten.length + b.length ≤ 5000) : F_word_of [d, .fz (pw a), .fz (pw b)] pre = .ok (.fz (pw (a ++ ps.flatten ++ b)), post) := by
  obtain ⟨o', e⟩ := wof_loop (some d) (some (.fz (pw a))) (some (.fz (pw b))) post ps a none (by omega)
  exact run_ls hd rfl (.inr rfl) (more := []) (by
    rw [List.append_nil]
    exact s_seq (s_set (i := 3) (e_var rfl)) (s_seq (s_forL (e_var rfl) hd.to rfl e) (s_ret (e_bin (e_var rfl) (e_var rfl) (addw (by rw [List.length_append]; omega))))))
/-- a call with a list among frozen arguments -/
inductive LsS (xs : List P) (st : Sr) : D → Sr → Prop
  | fz : LsS xs st (.fz (.lst xs)) st
  | cell {n : Nat} : st[n]? = some (.lst xs) → LsS xs st (.cell n) (st.set n (.frz (.lst xs)))
  | frz {n : Nat} : st[n]? = some (.frz (.lst xs)) → LsS xs st (.cell n) st
theorem c_ls {F : DF} {as bs : List P} {xs : List P} {q : P} {η : Et} {st st' : Sr} {d : D} (hF : ∀ {d : D} {pre post : Sr}, Ls xs d pre post → F (as.map D.fz ++ d :: bs.map D.fz) pre = .ok (.fz q, post)) (h : LsS xs st d st') : callF F (as.map D.fz ++ d :: bs.map D.fz) η st = .ok (.fz q, st') := by
  cases h with
  | fz =>
    have h := hF .fz
    have e : as.map D.fz ++ D.fz (.lst xs) :: bs.map D.fz = (as ++ P.lst xs :: bs).map D.fz := by rw [List.map_append, List.map_cons]
    rw [e] at h ⊢
    exact callF_fz h
  | cell hn => exact callF_c (F := F) (as := as) (bs := bs) hn rfl rfl (hF .cell)
  | frz hn =>
    have h2 := callF_c (F := F) (as := as) (bs := bs) (q := q) (η := η) hn rfl rfl (hF .frz)
    rw [set_same hn] at h2
    exact h2
end G

end
section
set_option Elab.async false
set_option linter.all false
set_option maxRecDepth 100000
set_option maxHeartbeats 0
namespace G
open PySem L2 M
theorem inB_ints {v : Int} {acc : List Int} : inB (.int v) (.lst (acc.map P.int)) = some (decide (v ∈ acc)) := by
  unfold inB
  dsimp only
  rw [if_pos ⟨rfl, flat_ints acc⟩, vP_ints, ← inV_ints]
  rfl
theorem inB_intt {v : Int} {acc : List Int} : inB (.int v) (.tup (acc.map P.int)) = some (decide (v ∈ acc)) := by
  unfold inB
  dsimp only
  rw [if_pos ⟨rfl, flat_ints acc⟩, vP_ints, ← inV_ints]
  rfl
theorem notIn_w {st : Sr} {acc : List Int} {v : Int} : notInO (.fz (.int v)) (.fz (pw acc)) st = .ok (.fz (.bl (!decide (v ∈ acc))), st) := by
  show (match inB (.int v) (.tup (acc.map P.int)) with
    | some b => R.ok (D.fz (.bl (!b)), st)
    | none => .stuck) = _
  rw [inB_intt]
theorem in_w {st : Sr} {acc : List Int} {v : Int} : inO (.fz (.int v)) (.fz (pw acc)) st = .ok (.fz (.bl (decide (v ∈ acc))), st) := by
  show (match inB (.int v) (.tup (acc.map P.int)) with
    | some b => R.ok (D.fz (.bl b), st)
    | none => .stuck) = _
  rw [inB_intt]
theorem new_loop (s0 : Option D) (kn : List Int) : ∀ (l acc : List Int) (o : Option D), acc.length + l.length < 10000 → ∃ o', loopD (gNm 3) b_l_new_1 (l.map P.int) [s0, some (.fz (pw kn)), some (.cell 0), o] [.lst (acc.map P.int)] = .ok (.nx, [s0, some (.fz (pw kn)), some (.cell 0), o'], [.lst ((Kd.ngo kn acc l).map P.int)])
  | [], acc, o, _ => ⟨o, rfl⟩
  | x :: l, acc, o, h => by
    simp only [List.length_cons] at h
    by_cases h1 : x ∈ kn
    · obtain ⟨o', ih⟩ := new_loop s0 kn l acc (some (.fz (.int x))) (by omega)
      refine ⟨o', lp_cons (gg := gNm 3) (s_iff (e_and_f (e_tru (e_bin (e_var rfl) (e_var rfl) notIn_w) (tru_bl (by simp [h1])))) s_skip) ?_⟩
      rw [Kd.ngo, if_neg (by simp [h1])]; exact ih
    by_cases h2 : x ∈ acc
    · obtain ⟨o', ih⟩ := new_loop s0 kn l acc (some (.fz (.int x))) (by omega)
      refine ⟨o', lp_cons (gg := gNm 3) (s_iff (e_and_t (e_tru (e_bin (e_var rfl) (e_var rfl) notIn_w) (tru_bl (by simp [h1]))) (e_tru (e_bin (e_var rfl) (e_var rfl) (notIn_lst rfl)) (tru_bl (by simp [h2])))) s_skip) ?_⟩
      rw [Kd.ngo, if_neg (by simp [h2])]; exact ih
    · obtain ⟨o', ih⟩ := new_loop s0 kn l (acc ++ [x]) (some (.fz (.int x))) (by simp; omega)
      refine ⟨o', lp_cons (gg := gNm 3) (s_ift (e_and_t (e_tru (e_bin (e_var rfl) (e_var rfl) notIn_w) (tru_bl (by simp [h1]))) (e_tru (e_bin (e_var rfl) (e_var rfl) (notIn_lst rfl)) (tru_bl (by simp [h2])))) (s_append rfl rfl (e_var rfl) (by rw [List.length_map]; omega))) ?_⟩
      rw [Kd.ngo, if_pos ⟨h1, h2⟩]
      rw [List.map_append] at ih
      exact ih
theorem new_ok (w kn : List Int) (h : w.length < 10000) : F_l_new [.fz (pw w), .fz (pw kn)] [] = .ok (.cell 0, [.lst ((Kd.nw kn w).map P.int)]) := by
  obtain ⟨o', e⟩ := new_loop (some (.fz (pw w))) kn w [] none (by simpa using h)
  rw [Kd.ngo_nw] at e
  have hb : b_l_new [some (.fz (pw w)), some (.fz (pw kn)), none, none] [] = .ok (.rt (.cell 0), [some (.fz (pw w)), some (.fz (pw kn)), some (.cell 0), o'], [.lst ((Kd.nw kn w).map P.int)]) :=
    s_seq (s_set (i := 2) (e_ap e_nil (lstO_fz (ps := []) (by decide)))) (s_seq (s_forL (e_var rfl) rfl rfl e) (s_ret (e_var rfl)))
  show endF false 0 (b_l_new [some (.fz (pw w)), some (.fz (pw kn)), none, none] []) = _
  rw [hb]
  rfl
theorem reverse_at {st : Sr} {n : Nat} {xs : List P} (hn : st[n]? = some (.lst xs)) : reverseO (.cell n) [] st = .ok (.fz .non, st.set n (.lst xs.reverse)) := by
  unfold reverseO; dsimp only; rw [hn]
theorem revw {w : List Int} {st : Sr} : revAO (.fz (pw w)) st = .ok (.fz (pw w.reverse), st) := by
  show R.ok (D.fz (.tup (w.map P.int).reverse), st) = _
  rw [← List.map_reverse]
theorem rear_ok (w kn : List Int) (h : w.length < 10000) : F_l_rear [.fz (pw w), .fz (pw kn)] [] = .ok (.fz (.lst ((Kd.nw kn w.reverse).reverse.map P.int)), []) := by
  refine run0le (k := 0) (st' := [.lst ((Kd.nw kn w.reverse).reverse.map P.int)]) rfl rfl ?_
  apply Exists.intro
  refine s_seq (s_set (i := 2) (e_call (e_cons (e_revA (e_var rfl) revw) (e_cons (e_var rfl) e_nil)) (callF_new (ps := [pw w.reverse, pw kn]) (new_ok w.reverse kn (by simpa using h)) rfl))) ?_
  rw [List.map_reverse]
  exact s_seq (s_ex (e_bm (e_var rfl) rfl e_nil (reverse_at rfl))) (s_ret (e_var rfl))
/-! ### the program -/
abbrev cop (ps : List (List Int)) (p : List Int) (j : Nat) : List (List Int) := ps.take (j + 1) ++ [p] ++ ps.drop (j + 1)
theorem toNat1 (j : Nat) : ((j : Int) + 1).toNat = j + 1 := by omega
theorem get_pw {ps : List (List Int)} {i : Nat} {p : List Int} (h : ps[i]? = some p) : (ps.map pw)[((i : Nat) : Int).toNat]? = some (pw p) := by
  rw [Int.toNat_natCast, List.getElem?_map, h]; rfl
theorem eqO_w {u v : List Int} {st : Sr} : eqO (.fz (pw u)) (.fz (pw v)) st = .ok (.fz (.bl (decide (u = v))), st) := eq_w
section
variable {k c : Str} {f : List Int → List Int} (o : PlOk k c f)
include o
theorem alike_b {a b : List Int} (ha : a.length ≤ 1000) (hb : b.length ≤ 1000) : F_alike [.fz (.str k), .fz (pw a), .fz (pw b)] [] = .ok (.fz (.bl (decide (f a = f b))), []) :=
  run0 (η' := [some (.fz (.str k)), some (.fz (pw a)), some (.fz (pw b)), some (.fz (.obj c []))]) (st' := []) rfl (s_seq (s_set (i := 3) (e_call (e_cons (e_var rfl) e_nil) (named_c o))) (s_ret (e_bin (e_meth (F := F_Kind_plain) (e_var rfl) o.meth (e_cons (e_var rfl) e_nil) (plain_c o (.inl rfl) ha)) (e_meth (F := F_Kind_plain) (e_var rfl) o.meth (e_cons (e_var rfl) e_nil) (plain_c o (.inl rfl) hb)) eqO_w)))
/-- the form of the call fits the words around -/
def fits (form : Int) (a b : List Int) : Prop := (form = 1 → b = []) ∧ (form = 2 → a = []) ∧ (form = 3 → a = [] ∧ b = [])
end
end G

end
section
set_option Elab.async false
set_option linter.all false
set_option maxRecDepth 100000
set_option maxHeartbeats 0
namespace G
open PySem L2 M
/-! # Clashes, chains -/
theorem eqP_tws (ps qs : List (List Int)) : eqP (.tup (ps.map pw)) (.tup (qs.map pw)) = decide (ps = qs) := by
  show PyData.eqvAll (toPys (ps.map pw)) (toPys (qs.map pw)) = _
  rw [toPys_pws, toPys_pws, eqvAll_pws]
theorem shP_tws (ps : List (List Int)) : shP (.tup (ps.map pw)) = true := shP_pws ps
theorem eq_tws {ps qs : List (List Int)} {st : Sr} : eqO (.fz (.tup (ps.map pw))) (.fz (.tup (qs.map pw))) st = .ok (.fz (.bl (decide (ps = qs))), st) := by
  show (if shP (.tup (ps.map pw)) = true ∧ shP (.tup (qs.map pw)) = true then R.ok (D.fz (.bl (eqP (.tup (ps.map pw)) (.tup (qs.map pw)))), st) else .stuck) = _
  rw [if_pos ⟨shP_tws _, shP_tws _⟩, eqP_tws]
theorem new_f (w kn : List Int) (h : w.length < 10000) : F_l_new_f [.fz (pw w), .fz (pw kn)] [] = .ok (.fz (.lst ((Kd.nw kn w).map P.int)), []) := by
  obtain ⟨o', e⟩ := new_loop (some (.fz (pw w))) kn w [] none (by simpa using h)
  rw [Kd.ngo_nw] at e
  exact run0l (k := 0) (st' := [.lst ((Kd.nw kn w).map P.int)]) rfl (s_seq (s_set (i := 2) (e_ap e_nil (lstO_fz (ps := []) (by decide)))) (s_seq (s_forL (e_var rfl) rfl rfl e) (s_ret (e_var rfl)))) rfl
def cP : Option (Nat × Nat) → P
  | none => .non
  | some (i, j) => .tup [.int (i : Int), .int (j : Int)]
abbrev pN (j : Nat) : P := .int (j : Int)
theorem rangeN (n : Nat) : rangeP 0 n = (List.range n).map pN := by
  unfold rangeP
  congr 1
  funext i
  show P.int (0 + (i : Int)) = P.int i
  rw [Int.zero_add]
theorem drop_at {α : Type} {l : List α} {i : Nat} {x : α} {r : List α} (h : l.drop i = x :: r) : l[i]? = some x ∧ l.drop (i + 1) = r := by
  constructor
  · rw [← List.head?_drop, h]; rfl
  · rw [← List.drop_drop, h]; rfl
theorem getZ {ps : List (List Int)} {i : Nat} {p : List Int} (h : ps[i]? = some p) : ps[((i : Nat) : Int).toNat]? = some p := by rw [Int.toNat_natCast]; exact h
section
variable {u v : List (List Int)} (hu : okPs u) (hv : okPs v) (lu : u.length ≤ 1000) (lv : v.length ≤ 1000)
include hu hv lu lv
/-! the program's own -/
theorem fc_row (s0 s1 : Option D) {i : Nat} {p : List Int} (op : okP p) : ∀ (w : List (List Int)) (j : Nat) (o4 o5 : Option D), okPs w →
    (Kd.rowC p j w = none → ∃ o4' o5', loopD (gTp [gNm 4, gNm 5]) b_first_clash_2 (enumP j (w.map pw)) [s0, s1, some (.fz (.int (i : Int))), some (.fz (pw p)), o4, o5] [] = .ok (.nx, [s0, s1, some (.fz (.int (i : Int))), some (.fz (pw p)), o4', o5'], [])) ∧
    ∀ k, Kd.rowC p j w = some k → ∃ η', loopD (gTp [gNm 4, gNm 5]) b_first_clash_2 (enumP j (w.map pw)) [s0, s1, some (.fz (.int (i : Int))), some (.fz (pw p)), o4, o5] [] = .ok (.rt (.fz (cP (some (i, k)))), η', [])
  | [], j, o4, o5, _ => ⟨fun _ => ⟨o4, o5, rfl⟩, fun k hk => by cases hk⟩
  | q :: w, j, o4, o5, hw => by
    have oq := hw q List.mem_cons_self
    obtain ⟨i1, i2⟩ := fc_row s0 s1 op w (j + 1) (some (.fz (.int (j : Int)))) (some (.fz (pw q))) (fun x hx => hw x (List.mem_cons_of_mem _ hx))
    rw [Kd.rowC, List.map_cons, enumP_cons]
    have tst : dTru (dBin neO (dBin addF (dVar 3) (dVar 5)) (dBin addF (dVar 5) (dVar 3))) [s0, s1, some (.fz (.int (i : Int))), some (.fz (pw p)), some (.fz (.int (j : Int))), some (.fz (pw q))] [] = .ok (!decide (p ++ q = q ++ p), []) :=
      e_tru (e_bin (e_bin (e_var rfl) (e_var rfl) (addwF (by omega))) (e_bin (e_var rfl) (e_var rfl) (addwF (by omega))) ne_w) (tru_bl rfl)
    by_cases hc : p ++ q = q ++ p
    · rw [if_pos hc]
      rw [decide_eq_true hc] at tst
      refine ⟨fun h0 => ?_, fun k hk => ?_⟩
      · obtain ⟨o4', o5', e⟩ := i1 h0
        exact ⟨o4', o5', lp_consT rfl (s_iff tst s_skip) e⟩
      · obtain ⟨η', e⟩ := i2 k hk
        exact ⟨η', lp_consT rfl (s_iff tst s_skip) e⟩
    · rw [if_neg hc]
      rw [decide_eq_false hc] at tst
      refine ⟨fun h0 => (by cases h0), fun k hk => ?_⟩
      cases hk
      exact ⟨_, lp_retT rfl (s_ift tst (s_ret (e_ap (e_cons (e_var rfl) (e_cons (e_var rfl) e_nil)) tup_2)))⟩
theorem fc_all (s0 : Option D) : ∀ (w : List (List Int)) (i : Nat) (o2 o3 o4 o5 : Option D), okPs w →
    (Kd.allC v i w = none → ∃ o2' o3' o4' o5', loopD (gTp [gNm 2, gNm 3]) b_first_clash_1 (enumP i (w.map pw)) [s0, some (.fz (pws v)), o2, o3, o4, o5] [] = .ok (.nx, [s0, some (.fz (pws v)), o2', o3', o4', o5'], [])) ∧
    ∀ r, Kd.allC v i w = some r → ∃ η', loopD (gTp [gNm 2, gNm 3]) b_first_clash_1 (enumP i (w.map pw)) [s0, some (.fz (pws v)), o2, o3, o4, o5] [] = .ok (.rt (.fz (cP (some r))), η', [])
  | [], i, o2, o3, o4, o5, _ => ⟨fun _ => ⟨o2, o3, o4, o5, rfl⟩, fun k hk => by cases hk⟩
  | p :: w, i, o2, o3, o4, o5, hw => by
    have op := hw p List.mem_cons_self
    obtain ⟨r1, r2⟩ := fc_row hu hv lu lv s0 (some (.fz (pws v))) (i := i) op v 0 o4 o5 hv
    rw [Kd.allC, List.map_cons, enumP_cons]
    cases hr : Kd.rowC p 0 v with
    | none =>
      obtain ⟨o4', o5', e⟩ := r1 hr
      obtain ⟨i1, i2⟩ := fc_all s0 w (i + 1) (some (.fz (.int (i : Int)))) (some (.fz (pw p))) o4' o5' (fun x hx => hw x (List.mem_cons_of_mem _ hx))
      refine ⟨fun h0 => ?_, fun k hk => ?_⟩
      · obtain ⟨a2, a3, a4, a5, e2⟩ := i1 h0
        exact ⟨a2, a3, a4, a5, lp_consT rfl (s_forE (e_cons (e_var rfl) e_nil) rfl e) e2⟩
      · obtain ⟨η', e2⟩ := i2 k hk
        exact ⟨η', lp_consT rfl (s_forE (e_cons (e_var rfl) e_nil) rfl e) e2⟩
    | some j =>
      obtain ⟨η', e⟩ := r2 j hr
      refine ⟨fun h0 => (by cases h0), fun k hk => ?_⟩
      cases hk
      exact ⟨_, lp_retT rfl (s_forE (e_cons (e_var rfl) e_nil) rfl e)⟩
theorem fclash_ok : F_first_clash [.fz (pws u), .fz (pws v)] [] = .ok (.fz (cP (Kd.clash u v)), []) := by
  obtain ⟨r1, r2⟩ := fc_all hu hv lu lv (some (.fz (pws u))) u 0 none none none none hu
  unfold Kd.clash
  cases hr : Kd.allC v 0 u with
  | none =>
    obtain ⟨o2, o3, o4, o5, e⟩ := r1 hr
    exact run0 rfl (s_seq (s_forE (e_cons (e_var rfl) e_nil) rfl e) (s_ret e_k))
  | some r =>
    obtain ⟨η', e⟩ := r2 r hr
    exact run0 rfl (s_seqr (s_forE (e_cons (e_var rfl) e_nil) rfl e))
end
/-! ### chained -/
theorem il_t {A : List Int} {m : Nat} {st : Sr} : slF (.fz (.lst (A.map P.int))) none (some (m : Int)) st = .ok (.fz (.lst ((A.take m).map P.int)), st) := by
  have := slf_t (st := st) (d := .fz (.lst (A.map P.int))) (xs := A.map P.int) (z := (m : Int)) rfl (by omega)
  rw [Int.toNat_natCast, ← List.map_take] at this; exact this
theorem il_d {A : List Int} {z : Int} {st : Sr} (hz : 0 ≤ z) : slF (.fz (.lst (A.map P.int))) (some z) none st = .ok (.fz (.lst ((A.drop z.toNat).map P.int)), st) := by
  have := slf_d (st := st) (d := .fz (.lst (A.map P.int))) (xs := A.map P.int) rfl hz
  rw [← List.map_drop] at this; exact this
theorem il_len {A : List Int} {st : Sr} : lenO [.fz (.lst (A.map P.int))] st = .ok (.fz (.int (A.length : Int)), st) := by
  have := len_lst (st := st) (d := .fz (.lst (A.map P.int))) (xs := A.map P.int) rfl
  rw [List.length_map] at this; exact this
theorem min_ok {a b : Nat} {st : Sr} : min2O [.fz (.int (a : Int)), .fz (.int (b : Int))] st = .ok (.fz (.int ((min a b : Nat) : Int)), st) := by
  show R.ok (D.fz (.int (if (b : Int) < (a : Int) then (b : Int) else (a : Int))), st) = _
  congr 4
  split <;> omega
theorem chained_h (A B : List Int) : F_l_chained [.fz (.str "heads"), .fz (.lst (A.map P.int)), .fz (.lst (B.map P.int))] [] = .ok (.fz (.bl (Kd.chainB A B)), []) :=
  run0 rfl (s_seq (s_set (i := 3) (e_ap (e_cons (e_ap (e_cons (e_var rfl) e_nil) il_len) (e_cons (e_ap (e_cons (e_var rfl) e_nil) il_len) e_nil)) min_ok)) (s_seqr (s_ift (k_test rfl (by decide +kernel)) (s_ret (e_bin (e_slF (e_var rfl) e_nopart (e_part (e_var rfl)) il_t) (e_slF (e_var rfl) e_nopart (e_part (e_var rfl)) il_t) (eq_il IsL.fz IsL.fz))))))
theorem chained_t (A B : List Int) : F_l_chained [.fz (.str "tails"), .fz (.lst (A.reverse.map P.int)), .fz (.lst (B.reverse.map P.int))] [] = .ok (.fz (.bl (Kd.chainB A B)), []) := by
  have e : Kd.chainB A B = decide (A.reverse.drop ((A.reverse.length : Int) - ((min A.reverse.length B.reverse.length : Nat) : Int)).toNat = B.reverse.drop ((B.reverse.length : Int) - ((min A.reverse.length B.reverse.length : Nat) : Int)).toNat) := by
    unfold Kd.chainB
    simp only [List.length_reverse]
    rw [show ((A.length : Int) - ((min A.length B.length : Nat) : Int)).toNat = A.length - min A.length B.length by omega, show ((B.length : Int) - ((min A.length B.length : Nat) : Int)).toNat = B.length - min A.length B.length by omega]
    rw [← List.reverse_take, ← List.reverse_take]
    exact decide_eq_decide.mpr List.reverse_inj.symm
  rw [e]
  refine run0 rfl (s_seq (s_set (i := 3) (e_ap (e_cons (e_ap (e_cons (e_var rfl) e_nil) il_len) (e_cons (e_ap (e_cons (e_var rfl) e_nil) il_len) e_nil)) min_ok)) (s_seq (s_iff (k_test rfl (by decide +kernel)) s_skip) (s_ret (e_bin (e_slF (e_var rfl) (e_part (e_bin (e_ap (e_cons (e_var rfl) e_nil) il_len) (e_var rfl) rfl)) e_nopart (il_d ?_)) (e_slF (e_var rfl) (e_part (e_bin (e_ap (e_cons (e_var rfl) e_nil) il_len) (e_var rfl) rfl)) e_nopart (il_d ?_)) (eq_il IsL.fz IsL.fz)))))
  · omega
  · omega
end G

end
section
set_option Elab.async false
set_option linter.all false
set_option maxRecDepth 100000
set_option maxHeartbeats 0
namespace G
open PySem L2 M
/-! # Free shuffles: the law's own word -/
structure Sh (u v : List (List Int)) (a b : List Int) : Prop where
  ou : okPs u
  ov : okPs v
  nu : u ≠ []
  nv : v ≠ []
  lu : u.length ≤ 100
  lv : v.length ≤ 100
  all : a.length + u.flatten.length + v.flatten.length + b.length ≤ 300
theorem flat_ne {u : List (List Int)} (o : okPs u) (n : u ≠ []) : u.flatten ≠ [] := by
  cases u with
  | nil => exact absurd rfl n
  | cons p u =>
    have := (o p List.mem_cons_self).1
    intro e
    rw [List.flatten_cons, List.append_eq_nil_iff] at e
    rw [e.1] at this; simp at this
section
variable {u v : List (List Int)} {a b : List Int} (h : Sh u v a b)
include h
theorem Sh.symm : Sh v u a b := ⟨h.ov, h.ou, h.nv, h.nu, h.lv, h.lu, by have := h.all; omega⟩
theorem Sh.U : u.flatten ≠ [] := flat_ne h.ou h.nu
theorem Sh.V : v.flatten ≠ [] := flat_ne h.ov h.nv
theorem Sh.fcl : F_first_clash [.fz (pws u), .fz (pws v)] [] = .ok (.fz (cP (Kd.clash u v)), []) := fclash_ok h.ou h.ov (by have := h.lu; omega) (by have := h.lv; omega)
theorem Sh.jo : F_l_joined [.fz (pws u)] [] = .ok (.fz (pw u.flatten), []) := joined_ok .fz (by have := h.all; omega)
end
theorem gt0 (l : List Int) : decide ((0 : Int) < (l.length : Int)) = decide (l ≠ []) := by
  cases l with
  | nil => rfl
  | cons x r => simp
theorem nil_or_conc (l : List Int) : l = [] ∨ ∃ r x, l = r ++ [x] := by
  rcases List.eq_nil_or_concat l with e | ⟨r, x, e⟩
  · exact .inl e
  · exact .inr ⟨r, x, by rw [e, List.concat_eq_append]⟩
section
variable {u v : List (List Int)} {a b : List Int} (h : Sh u v a b)
include h
end
/-! ### the two words -/
abbrev W2 (a : List Int) (x : List (List Int)) (b : List Int) : List Int := a ++ x.flatten ++ b
abbrev mixA (u v : List (List Int)) (p q : List Int) (i j : Nat) : List (List Int) := (u.take i ++ v.take j) ++ [p, q] ++ (u.drop (i + 1) ++ v.drop (j + 1))
theorem tN (j : Nat) : ((j : Nat) : Int).toNat = j := Int.toNat_natCast j
theorem tN1 (j : Nat) : ((j : Int) + 1).toNat = j + 1 := by omega
section
variable {u v : List (List Int)} {a b : List Int} (h : Sh u v a b)
include h
theorem jo2 : (u ++ v).flatten.length = u.flatten.length + v.flatten.length := by rw [List.flatten_append, List.length_append]
theorem jo3 : (v ++ u).flatten.length = u.flatten.length + v.flatten.length := by rw [List.flatten_append, List.length_append]; omega
theorem mix_len {p q : List Int} {i j : Nat} (hp : u[i]? = some p) (hq : v[j]? = some q) : (mixA u v p q i j).flatten.length = u.flatten.length + v.flatten.length ∧ (mixA u v q p i j).flatten.length = u.flatten.length + v.flatten.length := by
  have s1 : u.flatten.length = (u.take i).flatten.length + (p.length + (u.drop (i + 1)).flatten.length) := by
    obtain ⟨hi, e⟩ := List.getElem?_eq_some_iff.mp hp
    have : u = u.take i ++ p :: u.drop (i + 1) := by rw [← e, ← List.drop_eq_getElem_cons hi, List.take_append_drop]
    conv => lhs; rw [this]
    rw [List.flatten_append, List.length_append, List.flatten_cons, List.length_append]
  have s2 : v.flatten.length = (v.take j).flatten.length + (q.length + (v.drop (j + 1)).flatten.length) := by
    obtain ⟨hi, e⟩ := List.getElem?_eq_some_iff.mp hq
    have : v = v.take j ++ q :: v.drop (j + 1) := by rw [← e, ← List.drop_eq_getElem_cons hi, List.take_append_drop]
    conv => lhs; rw [this]
    rw [List.flatten_append, List.length_append, List.flatten_cons, List.length_append]
  constructor <;> (simp only [mixA, List.flatten_append, List.length_append, List.flatten_cons, List.flatten_nil, List.append_nil]; omega)
theorem mix_ne {p q : List Int} {i j : Nat} (hne : p ++ q ≠ q ++ p) : W2 a (mixA u v p q i j) b ≠ W2 a (mixA u v q p i j) b := by
  intro e
  apply hne
  simp only [W2, mixA, List.flatten_append, List.flatten_cons, List.flatten_nil, List.append_nil, List.append_assoc] at e
  have e := List.append_cancel_left e
  have e := List.append_cancel_left e
  have e := List.append_cancel_left e
  rw [← List.append_assoc, ← List.append_assoc q p] at e
  exact List.append_cancel_right e
end
end G

end
section
set_option Elab.async false
set_option linter.all false
set_option maxRecDepth 100000
set_option maxHeartbeats 0
namespace G
open PySem L2 M
/-! # A kind's free shuffles -/
abbrev Fr4 := List (List Int) → List (List Int) → List Int → List Int → Bool
abbrev Mx := List (List Int) → List (List Int) → List (List Int)
abbrev pr2 (x y : List Int) : P := .tup [pw x, pw y]
section
variable {u v : List (List Int)} {a b : List Int} (h : Sh u v a b)
include h
theorem wof_c {x : List (List Int)} {η : Et} {st : Sr} (hx : x.flatten.length ≤ u.flatten.length + v.flatten.length) : callF F_word_of [.fz (pws x), .fz (pw a), .fz (pw b)] η st = .ok (.fz (pw (W2 a x b)), st) :=
  callF_fz (F := F_word_of) (ps := [pws x, pw a, pw b]) (wof_ok .fz (by have := h.all; omega))
theorem jo_c {x : List (List Int)} {η : Et} {st : Sr} (hx : x.flatten.length ≤ u.flatten.length + v.flatten.length) : callF F_l_joined [.fz (pws x)] η st = .ok (.fz (pw x.flatten), st) :=
  callF_fz (F := F_l_joined) (ps := [pws x]) (joined_ok .fz (by have := h.all; omega))
theorem uv_f {st : Sr} : addF (.fz (pws u)) (.fz (pws v)) st = .ok (.fz (pws (u ++ v)), st) := add_ps (by have := h.lu; have := h.lv; omega)
theorem W2_len {x : List (List Int)} (hx : x.flatten.length ≤ u.flatten.length + v.flatten.length) : (W2 a x b).length ≤ 300 := by
  have := h.all
  unfold W2
  rw [List.length_append, List.length_append]
  omega
end
theorem W2_app (a b : List Int) (u v : List (List Int)) : W2 a (u ++ v) b = a ++ u.flatten ++ v.flatten ++ b := by simp [W2]
theorem dec_of {p : Prop} [Decidable p] {b : Bool} (h : p ↔ b = true) : decide p = b := by
  rw [Bool.eq_iff_iff, decide_eq_true_iff]; exact h
theorem Sh.ph {p : List Int} {u v : List (List Int)} {a b : List Int} (h : Sh (p :: u) v a b) : p ≠ [] := by
  have := (h.ou p List.mem_cons_self).1
  intro e; rw [e] at this; simp at this
theorem okPs_tail {p : List Int} {u : List (List Int)} (h : okPs (p :: u)) : okPs u := fun q hq => h q (List.mem_cons_of_mem _ hq)
theorem enL {p : List Int} {u v : List (List Int)} {a b : List Int} (h : Sh (p :: u) v a b) (hu : u ≠ []) (hf : Kd.enF b (p :: u).flatten v.flatten = true) : Kd.enF b u.flatten v.flatten = true := by
  rw [List.flatten_cons] at hf
  exact Kd.enF_step (flat_ne (okPs_tail h.ou) hu) hf
theorem enR {q : List Int} {u v : List (List Int)} {a b : List Int} (h : Sh u (q :: v) a b) (hv : v ≠ []) (hf : Kd.enF b u.flatten (q :: v).flatten = true) : Kd.enF b u.flatten v.flatten = true := by
  rw [Kd.enF_symm] at hf ⊢
  exact enL h.symm hv hf
/-! ### list -/
def oneL (u v : List (List Int)) : List (List Int) := match Kd.clash u v with
  | none => u ++ v
  | some (i, j) => mixA u v (u.getD i []) (v.getD j []) i j
def otherL (u v : List (List Int)) : List (List Int) := match Kd.clash u v with
  | none => v ++ u
  | some (i, j) => mixA u v (v.getD j []) (u.getD i []) i j
theorem getD_of {l : List (List Int)} {i : Nat} {p : List Int} (h : l[i]? = some p) : l.getD i [] = p := by rw [List.getD_eq_getElem?_getD, h]; rfl
theorem notN_cP {r : Option (Nat × Nat)} {st : Sr} : notNO (.fz (cP r)) (.fz .non) st = .ok (.fz (.bl r.isSome), st) := by
  cases r with
  | none => rfl
  | some p => rfl
theorem isN_cP' {r : Option (Nat × Nat)} {st : Sr} : isNO (.fz (cP r)) (.fz .non) st = .ok (.fz (.bl r.isNone), st) := by
  cases r with
  | none => rfl
  | some p => rfl
end G

end

end
section
set_option Elab.async false
set_option linter.all false
set_option maxRecDepth 100000
set_option maxHeartbeats 0
namespace G
open PySem L2 M
/-! # Two parcels -/
theorem shuf_else {k c : Str} {f : List Int → List Int} (o : PlOk k c f) (hk : shP (.str k) = true) (hnl : decide (k = "list") = false) {u v : List (List Int)} {a b : List Int} (h : Sh u v a b) :
    F_free_shuffles [.fz (.str k), .fz (pws u), .fz (pws v), .fz (pw a), .fz (pw b)] [] = .ok (.fz (if decide (f (W2 a (u ++ v) b) = f (W2 a (v ++ u) b)) then .non else pr2 (W2 a (u ++ v) b) (W2 a (v ++ u) b)), []) := by
  have l1 := jo2 h
  have l2 := jo3 h
  have w1 := W2_len h (x := u ++ v) (by omega)
  have w2 := W2_len h (x := v ++ u) (by omega)
  have hal := alike_b o (a := W2 a (u ++ v) b) (b := W2 a (v ++ u) b) (by omega) (by omega)
  have pre : ∀ {r : R (Fl × Et × Sr)}, dSeq (dIf (dTru (dCall F_alike (dCons (dVar 0) (dCons (dBin ixO (dVar 5) (dK (.int 0))) (dCons (dBin ixO (dVar 5) (dK (.int 1))) (dNil)))))) (dRet (dK .non)) (dSkip)) (dRet (dVar 5)) [some (.fz (.str k)), some (.fz (pws u)), some (.fz (pws v)), some (.fz (pw a)), some (.fz (pw b)), some (.fz (pr2 (W2 a (u ++ v) b) (W2 a (v ++ u) b))), none, none, none, none, none, none, none] [] = r → b_free_shuffles [some (.fz (.str k)), some (.fz (pws u)), some (.fz (pws v)), some (.fz (pw a)), some (.fz (pw b)), none, none, none, none, none, none, none, none] [] = r := fun {r} hr =>
    s_seq (s_ex (e_call (e_cons (e_var rfl) e_nil) (named_c o))) (s_seq (s_set (i := 5) (e_ap (e_cons (e_call (e_cons (e_bin (e_var rfl) (e_var rfl) (uv_f h)) (e_cons (e_var rfl) (e_cons (e_var rfl) e_nil))) (wof_c h (by omega))) (e_cons (e_call (e_cons (e_bin (e_var rfl) (e_var rfl) (uv_f h.symm)) (e_cons (e_var rfl) (e_cons (e_var rfl) e_nil))) (wof_c h (by omega))) e_nil)) tup_2)) (s_seq (s_iff (k_test rfl hnl hk) s_skip) hr))
  have tst : dTru (dCall F_alike (dCons (dVar 0) (dCons (dBin ixO (dVar 5) (dK (.int 0))) (dCons (dBin ixO (dVar 5) (dK (.int 1))) (dNil))))) [some (.fz (.str k)), some (.fz (pws u)), some (.fz (pws v)), some (.fz (pw a)), some (.fz (pw b)), some (.fz (pr2 (W2 a (u ++ v) b) (W2 a (v ++ u) b))), none, none, none, none, none, none, none] [] = .ok (decide (f (W2 a (u ++ v) b) = f (W2 a (v ++ u) b)), []) :=
    e_tru (e_call (e_cons (e_var rfl) (e_cons (e_bin (e_var rfl) e_k ix2_0) (e_cons (e_bin (e_var rfl) e_k ix2_1) e_nil))) (callF_fz (F := F_alike) (ps := [.str k, pw (W2 a (u ++ v) b), pw (W2 a (v ++ u) b)]) hal)) (tru_bl rfl)
  cases hb : decide (f (W2 a (u ++ v) b) = f (W2 a (v ++ u) b)) with
  | true =>
    rw [hb] at tst
    exact run0 rfl (pre (s_seqr (s_ift tst (s_ret e_k))))
  | false =>
    rw [hb] at tst
    exact run0 rfl (pre (s_seq (s_iff tst s_skip) (s_ret (e_var rfl))))
theorem shuf_list {u v : List (List Int)} {a b : List Int} (h : Sh u v a b) :
    F_free_shuffles [.fz (.str "list"), .fz (pws u), .fz (pws v), .fz (pw a), .fz (pw b)] [] = .ok (.fz (if (Kd.clash u v).isNone then .non else pr2 (W2 a (oneL u v) b) (W2 a (otherL u v) b)), []) := by
  have l1 := jo2 h
  have l2 := jo3 h
  have hl := h.all
  have n1 := h.lu
  have n2 := h.lv
  have pre : ∀ {r : R (Fl × Et × Sr)}, dSeq (dIf (dTru (dBin eqO (dVar 0) (dK (.str "list")))) _ (dSkip)) _ [some (.fz (.str "list")), some (.fz (pws u)), some (.fz (pws v)), some (.fz (pw a)), some (.fz (pw b)), some (.fz (pr2 (W2 a (u ++ v) b) (W2 a (v ++ u) b))), none, none, none, none, none, none, none] [] = r → b_free_shuffles [some (.fz (.str "list")), some (.fz (pws u)), some (.fz (pws v)), some (.fz (pw a)), some (.fz (pw b)), none, none, none, none, none, none, none, none] [] = r := fun {r} hr =>
    s_seq (s_ex (e_call (e_cons (e_var rfl) e_nil) (named_c ok_list))) (s_seq (s_set (i := 5) (e_ap (e_cons (e_call (e_cons (e_bin (e_var rfl) (e_var rfl) (uv_f h)) (e_cons (e_var rfl) (e_cons (e_var rfl) e_nil))) (wof_c h (by omega))) (e_cons (e_call (e_cons (e_bin (e_var rfl) (e_var rfl) (uv_f h.symm)) (e_cons (e_var rfl) (e_cons (e_var rfl) e_nil))) (wof_c h (by omega))) e_nil)) tup_2)) hr)
  cases hc : Kd.clash u v with
  | none =>
    have hfc := h.fcl
    rw [hc] at hfc
    exact run0 rfl (pre (s_seqr (s_ift (k_test rfl (by decide +kernel)) (s_seq (s_set (i := 6) (e_call (e_cons (e_var rfl) (e_cons (e_var rfl) e_nil)) (callF_fz (F := F_first_clash) (ps := [pws u, pws v]) hfc))) (s_seqr (s_ift (e_tru (e_bin (e_var rfl) e_k isN_cP') (tru_bl rfl)) (s_ret e_k)))))))
  | some r =>
    obtain ⟨i, j⟩ := r
    have hfc := h.fcl
    rw [hc] at hfc
    obtain ⟨p, q, hp, hq, hne⟩ := Kd.clash_some hc
    obtain ⟨m1, m2⟩ := mix_len h hp hq
    have e1 : oneL u v = mixA u v p q i j := by unfold oneL; rw [hc]; dsimp only; rw [getD_of hp, getD_of hq]
    have e2 : otherL u v = mixA u v q p i j := by unfold otherL; rw [hc]; dsimp only; rw [getD_of hp, getD_of hq]
    rw [e1, e2]
    have w1 := W2_len h (x := mixA u v p q i j) (by omega)
    have w2 := W2_len h (x := mixA u v q p i j) (by omega)
    have hal := alike_b ok_list (a := W2 a (mixA u v p q i j) b) (b := W2 a (mixA u v q p i j) b) (by omega) (by omega)
    rw [decide_eq_false (show ¬ (id (W2 a (mixA u v p q i j) b) = id (W2 a (mixA u v q p i j) b)) from mix_ne h hne)] at hal
    have ln : (u.take i ++ v.take j).length ≤ 200 := by rw [List.length_append, List.length_take, List.length_take]; omega
    have ld : (u.drop (i + 1) ++ v.drop (j + 1)).length ≤ 200 := by rw [List.length_append, List.length_drop, List.length_drop]; omega
    have a1 : ∀ {st : Sr}, addF (.fz (pws (u.take ((i : Nat) : Int).toNat))) (.fz (pws (v.take ((j : Nat) : Int).toNat))) st = .ok (.fz (pws (u.take i ++ v.take j)), st) := fun {st} => by
      rw [tN, tN]; exact add_ps (by rw [List.length_append] at ln; omega)
    have a2 : ∀ {st : Sr}, addF (.fz (pws (u.drop ((i : Int) + 1).toNat))) (.fz (pws (v.drop ((j : Int) + 1).toNat))) st = .ok (.fz (pws (u.drop (i + 1) ++ v.drop (j + 1))), st) := fun {st} => by
      rw [tN1, tN1]; exact add_ps (by rw [List.length_append] at ld; omega)
    refine run0e rfl ?_
    apply Exists.intro
    apply Exists.intro
    refine pre (s_seq (s_ift (k_test rfl (by decide +kernel)) (s_seq (s_set (i := 6) (e_call (e_cons (e_var rfl) (e_cons (e_var rfl) e_nil)) (callF_fz (F := F_first_clash) (ps := [pws u, pws v]) hfc))) (s_seq (s_iff (e_tru (e_bin (e_var rfl) e_k isN_cP') (tru_bl rfl)) s_skip) (s_seq (s_asg (e_var rfl) rfl) (s_seq (s_par (e_cons (e_bin (e_slF (e_var rfl) e_nopart (e_part (e_var rfl)) (take_ps (by omega))) (e_slF (e_var rfl) e_nopart (e_part (e_var rfl)) (take_ps (by omega))) a1) (e_cons (e_bin (e_slF (e_var rfl) (e_part (e_bin (e_var rfl) e_k add_intF)) e_nopart (drop_ps (by omega))) (e_slF (e_var rfl) (e_part (e_bin (e_var rfl) e_k add_intF)) e_nopart (drop_ps (by omega))) a2) e_nil))) (s_seq (s_par (e_cons (e_bin (e_bin (e_var rfl) (e_ap (e_cons (e_bin (e_var rfl) (e_var rfl) (ix_ps (by omega) (getZ hp))) (e_cons (e_bin (e_var rfl) (e_var rfl) (ix_ps (by omega) (getZ hq))) e_nil)) lst_ps2) (add_ps (by simp only [List.length_cons, List.length_nil]; omega))) (e_var rfl) (add_ps (by rw [List.length_append]; simp only [List.length_cons, List.length_nil]; omega))) (e_cons (e_bin (e_bin (e_var rfl) (e_ap (e_cons (e_bin (e_var rfl) (e_var rfl) (ix_ps (by omega) (getZ hq))) (e_cons (e_bin (e_var rfl) (e_var rfl) (ix_ps (by omega) (getZ hp))) e_nil)) lst_ps2) (add_ps (by simp only [List.length_cons, List.length_nil]; omega))) (e_var rfl) (add_ps (by rw [List.length_append]; simp only [List.length_cons, List.length_nil]; omega))) e_nil))) (s_set (i := 5) (e_ap (e_cons (e_call (e_cons (e_var rfl) (e_cons (e_var rfl) (e_cons (e_var rfl) e_nil))) (wof_c h (x := mixA u v p q i j) (by omega))) (e_cons (e_call (e_cons (e_var rfl) (e_cons (e_var rfl) (e_cons (e_var rfl) e_nil))) (wof_c h (x := mixA u v q p i j) (by omega))) e_nil)) tup_2)))))))) ?_)
    exact s_seq (s_iff (e_tru (e_call (e_cons (e_var rfl) (e_cons (e_bin (e_var rfl) e_k ix2_0) (e_cons (e_bin (e_var rfl) e_k ix2_1) e_nil))) (callF_fz (F := F_alike) (ps := [.str "list", pw (W2 a (mixA u v p q i j) b), pw (W2 a (mixA u v q p i j) b)]) hal)) (tru_bl rfl)) s_skip) (s_ret (e_var rfl))
theorem frt_ok {a U V : List Int} {η : Et} {st : Sr} (hU : U ≠ []) (hV : V ≠ []) (h3 : η[3]? = some (some (.fz (pw a)))) (h5 : η[1]? = some (some (.fz (pw U)))) (h6 : η[2]? = some (some (.fz (pw V)))) :
    dOrV (dBin gtO (dAp lenO (dCons (dVar 3) (dNil))) (dK (.int 0))) (dBin eqO (dBin ixO (dVar 1) (dK (.int 0))) (dBin ixO (dVar 2) (dK (.int 0)))) η st = .ok (.fz (.bl (Kd.frF a U V)), st) := by
  unfold Kd.frF
  refine v_or (e_bin (e_ap (e_cons (e_var h3) e_nil) lenw) e_k (M.gt_b (gt0 a))) (fun h => ?_) (fun h => by rw [h, Bool.true_or])
  rw [h, Bool.false_or]
  cases U with
  | nil => exact absurd rfl hU
  | cons x U =>
    cases V with
    | nil => exact absurd rfl hV
    | cons z V =>
      refine (e_bin (e_bin (e_var h5) e_k ix_0) (e_bin (e_var h6) e_k ix_0) M.eq_int).trans ?_
      simp
theorem ent_ok {b U V : List Int} {η : Et} {st : Sr} (hU : U ≠ []) (hV : V ≠ []) (h4 : η[4]? = some (some (.fz (pw b)))) (h5 : η[1]? = some (some (.fz (pw U)))) (h6 : η[2]? = some (some (.fz (pw V)))) :
    dOrV (dBin gtO (dAp lenO (dCons (dVar 4) (dNil))) (dK (.int 0))) (dBin eqO (dBin ixO (dVar 1) (dUn negO (dK (.int 1)))) (dBin ixO (dVar 2) (dUn negO (dK (.int 1))))) η st = .ok (.fz (.bl (Kd.enF b U V)), st) := by
  unfold Kd.enF
  refine v_or (e_bin (e_ap (e_cons (e_var h4) e_nil) lenw) e_k (M.gt_b (gt0 b))) (fun h => ?_) (fun h => by rw [h, Bool.true_or])
  rw [h, Bool.false_or]
  rcases nil_or_conc U with e | ⟨U, x, rfl⟩
  · exact absurd e hU
  rcases nil_or_conc V with e | ⟨V, z, rfl⟩
  · exact absurd e hV
  refine (e_bin (e_bin (e_var h5) (e_un e_k rfl) ixw_l) (e_bin (e_var h6) (e_un e_k rfl) ixw_l) M.eq_int).trans ?_
  simp
def b_tw_z : DS := dSeq (dIf (dTru (dBin eqO (dVar 0) (dK (.str "list")))) (dRet (dBin eqO (dBin addF (dVar 1) (dVar 2)) (dBin addF (dVar 2) (dVar 1)))) (dSkip)) (dSeq (dIf (dTru (dBin eqO (dVar 0) (dK (.str "first")))) (dRet (dVar 5)) (dSkip)) (dSeq (dIf (dTru (dBin eqO (dVar 0) (dK (.str "last")))) (dRet (dVar 6)) (dSkip)) (dSeq (dIf (dTru (dBin eqO (dVar 0) (dK (.str "ends")))) (dRet (dAndV (dVar 5) (dVar 6))) (dSkip)) (dSeq (dIf (dTru (dBin eqO (dVar 0) (dK (.str "heads")))) (dRet (dCall F_l_chained (dCons (dVar 0) (dCons (dCall F_l_new_f (dCons (dVar 1) (dCons (dVar 3) (dNil)))) (dCons (dCall F_l_new_f (dCons (dVar 2) (dCons (dVar 3) (dNil)))) (dNil)))))) (dSkip)) (dSeq (dIf (dTru (dBin eqO (dVar 0) (dK (.str "tails")))) (dRet (dCall F_l_chained (dCons (dVar 0) (dCons (dCall F_l_rear (dCons (dVar 1) (dCons (dVar 4) (dNil)))) (dCons (dCall F_l_rear (dCons (dVar 2) (dCons (dVar 4) (dNil)))) (dNil)))))) (dSkip)) (dRet (dK (.bl true))))))))
abbrev twE (k : Str) (p q a b : List Int) : Et := [some (.fz (.str k)), some (.fz (pw p)), some (.fz (pw q)), some (.fz (pw a)), some (.fz (pw b)), some (.fz (.bl (Kd.frF a p q))), some (.fz (.bl (Kd.enF b p q)))]
structure Two (p q a b : List Int) : Prop where
  op : okP p
  oq : okP q
  la : a.length ≤ 60
  lb : b.length ≤ 60
theorem okP_ne {p : List Int} (h : okP p) : p ≠ [] := by intro e; have := h.1; rw [e] at this; simp at this
theorem Two.sh {p q a b : List Int} (h : Two p q a b) : Sh [p] [q] a b := by
  have h1 := h.op.2
  have h2 := h.oq.2
  have h3 := h.la
  have h4 := h.lb
  refine ⟨fun x hx => ?_, fun x hx => ?_, by simp, by simp, by simp, by simp, by simp; omega⟩
  · simp at hx; subst hx; exact h.op
  · simp at hx; subst hx; exact h.oq
abbrev TwF (k : Str) (p q a b : List Int) : R (D × Sr) := F_l_two [.fz (.str k), .fz (pw p), .fz (pw q), .fz (pw a), .fz (pw b)] []
theorem tw_run {k : Str} {w : Bool} {p q a b : List Int} (h : Two p q a b) (hz : ∃ η' s', b_tw_z (twE k p q a b) [] = .ok (.rt (.fz (.bl w)), η', s')) : TwF k p q a b = .ok (.fz (.bl w), []) := by
  obtain ⟨η', s', hz⟩ := hz
  refine run0 (η' := η') (st' := s') rfl ?_
  refine s_seq (s_set (i := 5) (frt_ok (okP_ne h.op) (okP_ne h.oq) rfl rfl rfl)) ?_
  refine s_seq (s_set (i := 6) (ent_ok (okP_ne h.op) (okP_ne h.oq) rfl rfl rfl)) ?_
  exact hz
section
variable {p q a b : List Int} (h : Two p q a b)
include h
theorem two_else {k : Str} (hk : shP (.str k) = true) (hn : nok k ["list", "first", "last", "ends", "heads", "tails"]) : TwF k p q a b = .ok (.fz (.bl true), []) := tw_run h ⟨_, _, s_seq (s_iff (k_test rfl (hn "list" (by decide +kernel)) hk) s_skip) (s_seq (s_iff (k_test rfl (hn "first" (by decide +kernel)) hk) s_skip) (s_seq (s_iff (k_test rfl (hn "last" (by decide +kernel)) hk) s_skip) (s_seq (s_iff (k_test rfl (hn "ends" (by decide +kernel)) hk) s_skip) (s_seq (s_iff (k_test rfl (hn "heads" (by decide +kernel)) hk) s_skip) (s_seq (s_iff (k_test rfl (hn "tails" (by decide +kernel)) hk) s_skip) (s_ret e_k))))))⟩
theorem two_list : TwF "list" p q a b = .ok (.fz (.bl (decide (p ++ q = q ++ p))), []) := by
  have h1 := h.op
  have h2 := h.oq
  exact tw_run h ⟨_, _, s_seqr (s_ift (k_test rfl (by decide +kernel)) (s_ret (e_bin (e_bin (e_var rfl) (e_var rfl) (addwF (by omega))) (e_bin (e_var rfl) (e_var rfl) (addwF (by omega))) eqO_w)))⟩
theorem two_first : TwF "first" p q a b = .ok (.fz (.bl (Kd.frF a p q)), []) := tw_run h ⟨_, _, s_seq (s_iff (k_test rfl (by decide +kernel)) s_skip) (s_seqr (s_ift (k_test rfl (by decide +kernel)) (s_ret (e_var rfl))))⟩
theorem two_last : TwF "last" p q a b = .ok (.fz (.bl (Kd.enF b p q)), []) := tw_run h ⟨_, _, s_seq (s_iff (k_test rfl (by decide +kernel)) s_skip) (s_seq (s_iff (k_test rfl (by decide +kernel)) s_skip) (s_seqr (s_ift (k_test rfl (by decide +kernel)) (s_ret (e_var rfl)))))⟩
theorem two_ends : TwF "ends" p q a b = .ok (.fz (.bl (Kd.frF a p q && Kd.enF b p q)), []) := by
  refine tw_run h ⟨_, _, s_seq (s_iff (k_test rfl (by decide +kernel)) s_skip) (s_seq (s_iff (k_test rfl (by decide +kernel)) s_skip) (s_seq (s_iff (k_test rfl (by decide +kernel)) s_skip) (s_seqr (s_ift (k_test rfl (by decide +kernel)) (s_ret (s1 := []) ?_)))))⟩
  exact v_and (e_var rfl) (fun h => by rw [h, Bool.true_and]; exact e_var rfl) (fun h => by rw [h, Bool.false_and])
theorem two_heads : TwF "heads" p q a b = .ok (.fz (.bl (Kd.chainB (Kd.nw a p) (Kd.nw a q))), []) := by
  have h1 := h.op
  have h2 := h.oq
  exact tw_run h ⟨_, _, s_seq (s_iff (k_test rfl (by decide +kernel)) s_skip) (s_seq (s_iff (k_test rfl (by decide +kernel)) s_skip) (s_seq (s_iff (k_test rfl (by decide +kernel)) s_skip) (s_seq (s_iff (k_test rfl (by decide +kernel)) s_skip) (s_seqr (s_ift (k_test rfl (by decide +kernel)) (s_ret (e_call (e_cons (e_var rfl) (e_cons (e_call (e_cons (e_var rfl) (e_cons (e_var rfl) e_nil)) (callF_fz (F := F_l_new_f) (ps := [pw p, pw a]) (new_f _ _ (by omega)))) (e_cons (e_call (e_cons (e_var rfl) (e_cons (e_var rfl) e_nil)) (callF_fz (F := F_l_new_f) (ps := [pw q, pw a]) (new_f _ _ (by omega)))) e_nil))) (callF_fz (F := F_l_chained) (ps := [.str "heads", .lst ((Kd.nw a p).map P.int), .lst ((Kd.nw a q).map P.int)]) (chained_h _ _)))))))))⟩
theorem two_tails : TwF "tails" p q a b = .ok (.fz (.bl (Kd.chainB (Kd.nw b p.reverse) (Kd.nw b q.reverse))), []) := by
  have h1 := h.op
  have h2 := h.oq
  exact tw_run h ⟨_, _, s_seq (s_iff (k_test rfl (by decide +kernel)) s_skip) (s_seq (s_iff (k_test rfl (by decide +kernel)) s_skip) (s_seq (s_iff (k_test rfl (by decide +kernel)) s_skip) (s_seq (s_iff (k_test rfl (by decide +kernel)) s_skip) (s_seq (s_iff (k_test rfl (by decide +kernel)) s_skip) (s_seqr (s_ift (k_test rfl (by decide +kernel)) (s_ret (e_call (e_cons (e_var rfl) (e_cons (e_call (e_cons (e_var rfl) (e_cons (e_var rfl) e_nil)) (callF_fz (F := F_l_rear) (ps := [pw p, pw b]) (rear_ok _ _ (by omega)))) (e_cons (e_call (e_cons (e_var rfl) (e_cons (e_var rfl) e_nil)) (callF_fz (F := F_l_rear) (ps := [pw q, pw b]) (rear_ok _ _ (by omega)))) e_nil))) (callF_fz (F := F_l_chained) (ps := [.str "tails", .lst ((Kd.nw b p.reverse).reverse.map P.int), .lst ((Kd.nw b q.reverse).reverse.map P.int)]) (chained_t _ _))))))))))⟩
end
abbrev Tw4 := List Int → List Int → List Int → List Int → Bool
structure TK (k : Str) (f : List Int → List Int) (tw : Tw4) : Prop where
  pl : ∃ c, PlOk k c f
  T : Kd.Tw f tw
  two : ∀ {p q a b : List Int}, Two p q a b → TwF k p q a b = .ok (.fz (.bl (tw a b p q)), [])
  sh1 : ∀ {p q a b : List Int}, Two p q a b → ∃ r : P, F_free_shuffles [.fz (.str k), .fz (pws [p]), .fz (pws [q]), .fz (pw a), .fz (pw b)] [] = .ok (.fz r, []) ∧ r.isNon = tw a b p q
theorem same_of {f : List Int → List Int} {tw : Tw4} (T : Kd.Tw f tw) {p q a b : List Int} (h : Two p q a b) : decide (f (W2 a ([p] ++ [q]) b) = f (W2 a ([q] ++ [p]) b)) = tw a b p q := by
  have e : ∀ x y : List Int, W2 a ([x] ++ [y]) b = a ++ [] ++ x ++ y ++ [] ++ b := fun x y => by simp [W2]
  rw [e, e]
  cases ht : tw a b p q with
  | true => exact decide_eq_true (T.t1 [] [] (okP_ne h.op) (okP_ne h.oq) ht)
  | false =>
    refine decide_eq_false ?_
    have := T.t2 [] (okP_ne h.op) (okP_ne h.oq) ht
    simp only [List.append_nil] at this ⊢
    rcases this with h | h <;> exact h
theorem tk_else {k c : Str} {f : List Int → List Int} {tw : Tw4} (o : PlOk k c f) (hk : shP (.str k) = true) (hnl : decide (k = "list") = false) (T : Kd.Tw f tw) (two : ∀ {p q a b : List Int}, Two p q a b → TwF k p q a b = .ok (.fz (.bl (tw a b p q)), [])) : TK k f tw where
  pl := ⟨c, o⟩
  T := T
  two := two
  sh1 := fun {p q a b} h => by
    refine ⟨_, shuf_else o hk hnl h.sh, ?_⟩
    rw [same_of T h]
    cases tw a b p q <;> rfl
theorem tk_list : TK "list" id (fun _ _ p q => decide (p ++ q = q ++ p)) where
  pl := ⟨_, ok_list⟩
  T := Kd.tw_list
  two := fun h => two_list h
  sh1 := fun {p q a b} h => by
    refine ⟨_, shuf_list h.sh, ?_⟩
    have e : Kd.clash [p] [q] = if p ++ q = q ++ p then none else some (0, 0) := by
      unfold Kd.clash Kd.allC Kd.rowC
      by_cases hc : p ++ q = q ++ p
      · rw [if_pos hc, if_pos hc]; rfl
      · rw [if_neg hc, if_neg hc]
    by_cases hc : p ++ q = q ++ p
    · rw [e, if_pos hc, decide_eq_true hc]; rfl
    · rw [e, if_neg hc, decide_eq_false hc]; rfl
theorem tk_bag : TK "bag" Kd.sortI (fun _ _ _ _ => true) := tk_else ok_bag (by decide +kernel) (by decide +kernel) Kd.tw_bag (fun h => two_else h (by decide +kernel) (by decide +kernel))
theorem tk_set : TK "set" Kd.setI (fun _ _ _ _ => true) := tk_else ok_set (by decide +kernel) (by decide +kernel) Kd.tw_set (fun h => two_else h (by decide +kernel) (by decide +kernel))
theorem tk_first : TK "first" Kd.firstI (fun a _ p q => Kd.frF a p q) := tk_else ok_first (by decide +kernel) (by decide +kernel) Kd.tw_first two_first
theorem tk_last : TK "last" Kd.lastI (fun _ b p q => Kd.enF b p q) := tk_else ok_last (by decide +kernel) (by decide +kernel) Kd.tw_last two_last
theorem tk_ends : TK "ends" Kd.endsI (fun a b p q => Kd.frF a p q && Kd.enF b p q) := tk_else ok_ends (by decide +kernel) (by decide +kernel) Kd.tw_ends two_ends
theorem tk_heads : TK "heads" Kd.heads (fun a _ p q => Kd.chainB (Kd.nw a p) (Kd.nw a q)) := tk_else ok_heads (by decide +kernel) (by decide +kernel) Kd.tw_heads two_heads
theorem tk_tails : TK "tails" Kd.tails (fun _ b p q => Kd.chainB (Kd.nw b p.reverse) (Kd.nw b q.reverse)) := tk_else ok_tails (by decide +kernel) (by decide +kernel) Kd.tw_tails two_tails
end G

end
section
set_option Elab.async false
set_option linter.all false
set_option maxRecDepth 100000
set_option maxHeartbeats 0
namespace G
open PySem L2 M
/-! # All pairs; exchanged parcels -/
structure Ord (ps : List (List Int)) (a b : List Int) : Prop where
  ok : okPs ps
  len : ps.length ≤ 12
  la : a.length ≤ 2
  lb : b.length ≤ 2
theorem getD_ok {ps : List (List Int)} {i : Nat} (h : i < ps.length) : ps[i]? = some (ps.getD i []) := by
  rw [List.getD_eq_getElem?_getD, List.getElem?_eq_getElem h]; rfl
theorem Ord.two {ps : List (List Int)} {a b : List Int} (h : Ord ps a b) {i j : Nat} (hi : i < ps.length) (hj : j < ps.length) : Two (ps.getD j []) (ps.getD i []) a b := by
  have h1 := h.la
  have h2 := h.lb
  exact ⟨h.ok _ (List.mem_of_getElem? (getD_ok hj)), h.ok _ (List.mem_of_getElem? (getD_ok hi)), by omega, by omega⟩
def cT (tw : Tw4) (ps : List (List Int)) (a b : List Int) (i j : Nat) : Option P := if tw a b (ps.getD j []) (ps.getD i []) then none else some (.bl false)
def frR (tw : Tw4) (ps : List (List Int)) (a b : List Int) : Option P := (List.range ps.length).findSome? fun i => (List.range i).findSome? (cT tw ps a b i)
theorem frR_some {tw : Tw4} {ps : List (List Int)} {a b : List Int} {r : P} (h : frR tw ps a b = some r) : r = .bl false := by
  obtain ⟨i, _, h⟩ := List.exists_of_findSome?_eq_some h
  obtain ⟨j, _, h⟩ := List.exists_of_findSome?_eq_some h
  unfold cT at h
  split at h
  · cases h
  · cases h; rfl
theorem frR_none {tw : Tw4} {ps : List (List Int)} {a b : List Int} : frR tw ps a b = none ↔ ps.Pairwise (fun p q => tw a b p q = true) := by
  unfold frR
  rw [List.findSome?_eq_none_iff, List.pairwise_iff_getElem]
  constructor
  · intro h j i hj hi hij
    have := List.findSome?_eq_none_iff.mp (h i (List.mem_range.mpr hi)) j (List.mem_range.mpr hij)
    unfold cT at this
    rw [List.getD_eq_getElem?_getD, List.getElem?_eq_getElem hj, List.getD_eq_getElem?_getD, List.getElem?_eq_getElem hi] at this
    simp only [Option.getD_some] at this
    cases ht : tw a b ps[j] ps[i] with
    | true => rfl
    | false => exfalso; rw [if_neg (by rw [ht]; decide)] at this; cases this
  · intro h i hi
    refine List.findSome?_eq_none_iff.mpr fun j hj => ?_
    have hi := List.mem_range.mp hi
    have hj := List.mem_range.mp hj
    have := h j i (by omega) hi hj
    unfold cT
    rw [List.getD_eq_getElem?_getD, List.getElem?_eq_getElem (by omega : j < ps.length), List.getD_eq_getElem?_getD, List.getElem?_eq_getElem hi]
    simp only [Option.getD_some]
    rw [if_pos this]
abbrev frB (tw : Tw4) (ps : List (List Int)) (a b : List Int) : Bool := (frR tw ps a b).isNone
section
variable {k : Str} {f : List Int → List Int} {tw : Tw4} (o : TK k f tw) {ps : List (List Int)} {a b : List Int} (h : Ord ps a b)
include o h
theorem free_ok : F_l_free [.fz (.str k), .fz (pws ps), .fz (pw a), .fz (pw b)] [] = .ok (.fz (.bl (frB tw ps a b)), []) := by
  have hl := h.len
  have inner : ∀ i, i < ps.length → ∀ o5 : Option D, ((List.range i).findSome? (cT tw ps a b i) = none → ∃ η', (∃ o5', η' = [some (.fz (.str k)), some (.fz (pws ps)), some (.fz (pw a)), some (.fz (pw b)), some (.fz (.int (i : Int))), o5']) ∧ loopD (gNm 5) b_l_free_2 ((List.range i).map fun k : Nat => P.int (k : Int)) [some (.fz (.str k)), some (.fz (pws ps)), some (.fz (pw a)), some (.fz (pw b)), some (.fz (.int (i : Int))), o5] [] = .ok (.nx, η', [])) ∧ (∀ r, (List.range i).findSome? (cT tw ps a b i) = some r → ∃ η', loopD (gNm 5) b_l_free_2 ((List.range i).map fun k : Nat => P.int (k : Int)) [some (.fz (.str k)), some (.fz (pws ps)), some (.fz (pw a)), some (.fz (pw b)), some (.fz (.int (i : Int))), o5] [] = .ok (.rt (.fz r), η', [])) := fun i hi o5 => by
    refine lp_find (I := fun η => ∃ o5', η = [some (.fz (.str k)), some (.fz (pws ps)), some (.fz (pw a)), some (.fz (pw b)), some (.fz (.int (i : Int))), o5']) (List.range i) (fun j hj η hη => ?_) _ ⟨o5, rfl⟩
    obtain ⟨o5', rfl⟩ := hη
    have hj := List.mem_range.mp hj
    have h2 := o.two (h.two hi (show j < ps.length by omega))
    have call : dTru (dCall F_l_two (dCons (dVar 0) (dCons (dBin ixO (dVar 1) (dVar 5)) (dCons (dBin ixO (dVar 1) (dVar 4)) (dCons (dVar 2) (dCons (dVar 3) (dNil))))))) [some (.fz (.str k)), some (.fz (pws ps)), some (.fz (pw a)), some (.fz (pw b)), some (.fz (.int (i : Int))), some (.fz (.int (j : Int)))] [] = .ok (tw a b (ps.getD j []) (ps.getD i []), []) :=
      e_tru (e_call (e_cons (e_var rfl) (e_cons (e_bin (e_var rfl) (e_var rfl) (ix_ps (by omega) (getZ (getD_ok (by omega))))) (e_cons (e_bin (e_var rfl) (e_var rfl) (ix_ps (by omega) (getZ (getD_ok hi)))) (e_cons (e_var rfl) (e_cons (e_var rfl) e_nil))))) (callF_fz (F := F_l_two) (ps := [.str k, pw (ps.getD j []), pw (ps.getD i []), pw a, pw b]) h2)) (tru_bl rfl)
    refine ⟨_, rfl, fun hc => ?_, fun r hr => ?_⟩
    · unfold cT at hc
      cases ht : tw a b (ps.getD j []) (ps.getD i []) with
      | true => rw [ht] at call; exact ⟨_, ⟨_, rfl⟩, s_iff (not_f (x := true) call) s_skip⟩
      | false => rw [ht] at hc; cases hc
    · unfold cT at hr
      cases ht : tw a b (ps.getD j []) (ps.getD i []) with
      | true => rw [ht] at hr; cases hr
      | false => rw [ht] at call hr; cases hr; exact ⟨_, s_ift (not_t (x := true) call) (s_ret e_k)⟩
  have outer := lp_find (g := gNm 4) (body := b_l_free_1) (h := fun k : Nat => P.int (k : Int)) (c := fun i => (List.range i).findSome? (cT tw ps a b i)) (st := []) (I := fun η => ∃ o4 o5, η = [some (.fz (.str k)), some (.fz (pws ps)), some (.fz (pw a)), some (.fz (pw b)), o4, o5]) (List.range ps.length) (fun i hi η hη => by
    obtain ⟨o4, o5, rfl⟩ := hη
    have hi := List.mem_range.mp hi
    obtain ⟨k1, k2⟩ := inner i hi o5
    refine ⟨_, rfl, fun hc => ?_, fun r hr => ?_⟩
    · obtain ⟨η', ⟨o5', rfl⟩, e⟩ := k1 hc
      exact ⟨_, ⟨_, _, rfl⟩, for_r1n (e_cons (e_var rfl) e_nil) (by omega) e⟩
    · obtain ⟨η', e⟩ := k2 r hr
      exact ⟨_, for_r1n (e_cons (e_var rfl) e_nil) (by omega) e⟩) [some (.fz (.str k)), some (.fz (pws ps)), some (.fz (pw a)), some (.fz (pw b)), none, none] ⟨_, _, rfl⟩
  obtain ⟨k1, k2⟩ := outer
  unfold frB
  cases hr : frR tw ps a b with
  | none =>
    obtain ⟨η', _, e⟩ := k1 hr
    exact run0 rfl (s_seq (for_r1n (e_cons (e_ap (e_cons (e_var rfl) e_nil) len_ps) e_nil) (by omega) e) (s_ret e_k))
  | some r =>
    obtain ⟨η', e⟩ := k2 r hr
    rw [frR_some hr] at e
    exact run0 rfl (s_seqr (for_r1n (e_cons (e_ap (e_cons (e_var rfl) e_nil) len_ps) e_nil) (by omega) e))
theorem twos_ok : F_l_twos [.fz (.str k), .fz (pws ps), .fz (pw a), .fz (pw b)] [] = .ok (.fz (.bl (frB tw ps a b)), []) := by
  have hl := h.len
  have inner : ∀ i, i < ps.length → ∀ o5 o6 : Option D, ((List.range i).findSome? (cT tw ps a b i) = none → ∃ η', (∃ o5' o6', η' = [some (.fz (.str k)), some (.fz (pws ps)), some (.fz (pw a)), some (.fz (pw b)), some (.fz (.int (i : Int))), o5', o6']) ∧ loopD (gNm 5) b_l_twos_2 ((List.range i).map fun k : Nat => P.int (k : Int)) [some (.fz (.str k)), some (.fz (pws ps)), some (.fz (pw a)), some (.fz (pw b)), some (.fz (.int (i : Int))), o5, o6] [] = .ok (.nx, η', [])) ∧ (∀ r, (List.range i).findSome? (cT tw ps a b i) = some r → ∃ η', loopD (gNm 5) b_l_twos_2 ((List.range i).map fun k : Nat => P.int (k : Int)) [some (.fz (.str k)), some (.fz (pws ps)), some (.fz (pw a)), some (.fz (pw b)), some (.fz (.int (i : Int))), o5, o6] [] = .ok (.rt (.fz r), η', [])) := fun i hi o5 o6 => by
    refine lp_find (I := fun η => ∃ o5' o6', η = [some (.fz (.str k)), some (.fz (pws ps)), some (.fz (pw a)), some (.fz (pw b)), some (.fz (.int (i : Int))), o5', o6']) (List.range i) (fun j hj η hη => ?_) _ ⟨o5, o6, rfl⟩
    obtain ⟨o5', o6', rfl⟩ := hη
    have hj := List.mem_range.mp hj
    obtain ⟨r0, h2, h3⟩ := o.sh1 (h.two hi (show j < ps.length by omega))
    have call : ∀ {rr : R (Fl × Et × Sr)}, dIf (dTru (dBin notNO (dVar 6) (dK .non))) (dRet (dK (.bl false))) (dSkip) [some (.fz (.str k)), some (.fz (pws ps)), some (.fz (pw a)), some (.fz (pw b)), some (.fz (.int (i : Int))), some (.fz (.int (j : Int))), some (.fz r0)] [] = rr → b_l_twos_2 [some (.fz (.str k)), some (.fz (pws ps)), some (.fz (pw a)), some (.fz (pw b)), some (.fz (.int (i : Int))), some (.fz (.int (j : Int))), o6'] [] = rr := fun {rr} hrr =>
      s_seq (s_set (i := 6) (e_callK (e_cons (e_var rfl) (e_cons (e_ap (e_cons (e_bin (e_var rfl) (e_var rfl) (ix_ps (by omega) (getZ (getD_ok (by omega))))) e_nil) lst_ps1) (e_cons (e_ap (e_cons (e_bin (e_var rfl) (e_var rfl) (ix_ps (by omega) (getZ (getD_ok hi)))) e_nil) lst_ps1) e_nil))) (e_cons (e_var rfl) (e_cons (e_var rfl) e_nil)) rfl rfl (callF_fz (F := F_free_shuffles) (ps := [.str k, pws [ps.getD j []], pws [ps.getD i []], pw a, pw b]) h2))) hrr
    have nn : ∀ {η : Et} {v : Bool}, η[6]? = some (some (.fz r0)) → (!r0.isNon) = v → dTru (dBin notNO (dVar 6) (dK .non)) η [] = .ok (v, []) := fun {η v} h6 hv => e_tru (e_bin (e_var h6) e_k (r := .ok (.fz (.bl v), [])) (by rw [← hv]; rfl)) rfl
    refine ⟨_, rfl, fun hc => ?_, fun r hr => ?_⟩
    · unfold cT at hc
      cases ht : tw a b (ps.getD j []) (ps.getD i []) with
      | true => rw [ht] at h3; exact ⟨_, ⟨_, _, rfl⟩, call (s_iff (nn rfl (by rw [h3]; rfl)) s_skip)⟩
      | false => rw [ht] at hc; cases hc
    · unfold cT at hr
      cases ht : tw a b (ps.getD j []) (ps.getD i []) with
      | true => rw [ht] at hr; cases hr
      | false => rw [ht] at h3 hr; cases hr; exact ⟨_, call (s_ift (nn rfl (by rw [h3]; rfl)) (s_ret e_k))⟩
  have outer := lp_find (g := gNm 4) (body := b_l_twos_1) (h := fun k : Nat => P.int (k : Int)) (c := fun i => (List.range i).findSome? (cT tw ps a b i)) (st := []) (I := fun η => ∃ o4 o5 o6, η = [some (.fz (.str k)), some (.fz (pws ps)), some (.fz (pw a)), some (.fz (pw b)), o4, o5, o6]) (List.range ps.length) (fun i hi η hη => by
    obtain ⟨o4, o5, o6, rfl⟩ := hη
    have hi := List.mem_range.mp hi
    obtain ⟨k1, k2⟩ := inner i hi o5 o6
    refine ⟨_, rfl, fun hc => ?_, fun r hr => ?_⟩
    · obtain ⟨η', ⟨o5', o6', rfl⟩, e⟩ := k1 hc
      exact ⟨_, ⟨_, _, _, rfl⟩, for_r1n (e_cons (e_var rfl) e_nil) (by omega) e⟩
    · obtain ⟨η', e⟩ := k2 r hr
      exact ⟨_, for_r1n (e_cons (e_var rfl) e_nil) (by omega) e⟩) [some (.fz (.str k)), some (.fz (pws ps)), some (.fz (pw a)), some (.fz (pw b)), none, none, none] ⟨_, _, _, rfl⟩
  obtain ⟨k1, k2⟩ := outer
  unfold frB
  cases hr : frR tw ps a b with
  | none =>
    obtain ⟨η', _, e⟩ := k1 hr
    exact run0 rfl (s_seq (for_r1n (e_cons (e_ap (e_cons (e_var rfl) e_nil) len_ps) e_nil) (by omega) e) (s_ret e_k))
  | some r =>
    obtain ⟨η', e⟩ := k2 r hr
    rw [frR_some hr] at e
    exact run0 rfl (s_seqr (for_r1n (e_cons (e_ap (e_cons (e_var rfl) e_nil) len_ps) e_nil) (by omega) e))
end
/-! ### exchanged -/
abbrev rst {α : Type} (ps : List α) (i j : Nat) : List α := ps.take i ++ (ps.drop (i + 1)).take (j - (i + 1)) ++ ps.drop (j + 1)
abbrev exA {α : Type} (e : Bool) (p q : α) (R : List α) : List α := if e then R ++ [p, q] else [p, q] ++ R
theorem split2 {α : Type} {ps : List α} {i j : Nat} {p q : α} (hp : ps[i]? = some p) (hq : ps[j]? = some q) (hij : i < j) : ps = ps.take i ++ p :: ((ps.drop (i + 1)).take (j - (i + 1)) ++ q :: ps.drop (j + 1)) := by
  obtain ⟨hi, e1⟩ := List.getElem?_eq_some_iff.mp hp
  obtain ⟨hj, e2⟩ := List.getElem?_eq_some_iff.mp hq
  have h1 : ps.drop (i + 1) = (ps.drop (i + 1)).take (j - (i + 1)) ++ q :: ps.drop (j + 1) := by
    have h2 : (ps.drop (i + 1)).drop (j - (i + 1)) = q :: ps.drop (j + 1) := by
      rw [List.drop_drop, show i + 1 + (j - (i + 1)) = j by omega, List.drop_eq_getElem_cons hj, e2]
    rw [← h2, List.take_append_drop]
  rw [← h1, ← e1, ← List.drop_eq_getElem_cons hi, List.take_append_drop]
theorem ex_perm {α : Type} {ps : List α} {i j : Nat} {p q : α} (hp : ps[i]? = some p) (hq : ps[j]? = some q) (hij : i < j) (e : Bool) : (exA e p q (rst ps i j)).Perm ps ∧ (exA e q p (rst ps i j)).Perm ps := by
  have h1 : ([p, q] ++ rst ps i j).Perm ps := by
    conv => rhs; rw [split2 hp hq hij]
    have : ([p, q] ++ rst ps i j) = p :: q :: (ps.take i ++ ((ps.drop (i + 1)).take (j - (i + 1)) ++ ps.drop (j + 1))) := by simp [rst]
    rw [this]
    refine List.Perm.trans ?_ List.perm_middle.symm
    refine List.Perm.cons p ?_
    rw [← List.append_assoc, ← List.append_assoc]
    exact List.perm_middle.symm
  have h2 : ([q, p] ++ rst ps i j).Perm ([p, q] ++ rst ps i j) := List.Perm.swap p q _
  have h3 : ∀ x y : α, (rst ps i j ++ [x, y]).Perm ([x, y] ++ rst ps i j) := fun x y => List.perm_append_comm
  cases e with
  | false => exact ⟨h1, h2.trans h1⟩
  | true => exact ⟨(h3 p q).trans h1, (h3 q p).trans (h2.trans h1)⟩
theorem ex_len {ps : List (List Int)} {x : List (List Int)} (h : x.Perm ps) : x.flatten.length = ps.flatten.length ∧ x.length = ps.length := by
  refine ⟨?_, h.length_eq⟩
  exact (h.flatten).length_eq
theorem exch_ok {ps : List (List Int)} {i j : Nat} {p q : List Int} (hl : ps.length ≤ 100) (hp : ps[i]? = some p) (hq : ps[j]? = some q) (hij : i < j) (e : Bool) : F_exchanged [.fz (pws ps), .fz (.int (i : Int)), .fz (.int (j : Int)), .fz (.bl e)] [] = .ok (.fz (.tup [pws (exA e p q (rst ps i j)), pws (exA e q p (rst ps i j))]), []) := by
  have t1 : (ps.take i).length ≤ 100 := by rw [List.length_take]; omega
  have t2 : ((ps.drop (i + 1)).take (j - (i + 1))).length ≤ 100 := by rw [List.length_take, List.length_drop]; omega
  have t3 : (ps.drop (j + 1)).length ≤ 100 := by rw [List.length_drop]; omega
  have tr : (rst ps i j).length ≤ 300 := by unfold rst; rw [List.length_append, List.length_append]; omega
  have a1 : ∀ {st : Sr}, addF (.fz (pws (ps.take ((i : Nat) : Int).toNat))) (.fz (pws ((ps.drop (i + 1)).take (j - (i + 1))))) st = .ok (.fz (pws (ps.take i ++ (ps.drop (i + 1)).take (j - (i + 1)))), st) := fun {st} => by rw [tN]; exact add_ps (by omega)
  have a2 : ∀ {st : Sr}, addF (.fz (pws (ps.take i ++ (ps.drop (i + 1)).take (j - (i + 1))))) (.fz (pws (ps.drop ((j : Int) + 1).toNat))) st = .ok (.fz (pws (rst ps i j)), st) := fun {st} => by rw [tN1]; exact add_ps (by rw [List.length_append]; omega)
  have m1 : ∀ {st : Sr}, slF (.fz (pws ps)) (some ((i : Int) + 1)) (some (j : Int)) st = .ok (.fz (pws ((ps.drop (i + 1)).take (j - (i + 1)))), st) := fun {st} => mid_ps (a := i + 1) (b := j) (by omega)
  have pre : ∀ {r : R (Fl × Et × Sr)}, dSeq (dIf (dTru (dVar 3)) (dRet (dAp tupO (dCons (dBin addF (dVar 4) (dVar 5)) (dCons (dBin addF (dVar 4) (dRevF (dVar 5))) (dNil))))) (dSkip)) (dRet (dAp tupO (dCons (dBin addF (dVar 5) (dVar 4)) (dCons (dBin addF (dRevF (dVar 5)) (dVar 4)) (dNil))))) [some (.fz (pws ps)), some (.fz (.int (i : Int))), some (.fz (.int (j : Int))), some (.fz (.bl e)), some (.fz (pws (rst ps i j))), some (.fz (pws [p, q]))] [] = r → b_exchanged [some (.fz (pws ps)), some (.fz (.int (i : Int))), some (.fz (.int (j : Int))), some (.fz (.bl e)), none, none] [] = r := fun {r} hr =>
    s_seq (s_set (i := 4) (e_bin (e_bin (e_slF (e_var rfl) e_nopart (e_part (e_var rfl)) (take_ps (by omega))) (e_slF (e_var rfl) (e_part (e_bin (e_var rfl) e_k add_intF)) (e_part (e_var rfl)) m1) a1) (e_slF (e_var rfl) (e_part (e_bin (e_var rfl) e_k add_intF)) e_nopart (drop_ps (by omega))) a2)) (s_seq (s_set (i := 5) (e_ap (e_cons (e_bin (e_var rfl) (e_var rfl) (ix_ps (by omega) (getZ hp))) (e_cons (e_bin (e_var rfl) (e_var rfl) (ix_ps (by omega) (getZ hq))) e_nil)) lst_ps2)) hr)
  cases e with
  | true => exact run0 rfl (pre (s_seqr (s_ift (e_tru (e_var rfl) rfl) (s_ret (e_ap (e_cons (e_bin (e_var rfl) (e_var rfl) (add_ps (by simp only [List.length_cons, List.length_nil]; omega))) (e_cons (e_bin (e_var rfl) (e_revF (e_var rfl) rev_ps) (add_ps (by simp only [List.length_reverse, List.length_cons, List.length_nil]; omega))) e_nil)) tup_2)))))
  | false => exact run0 rfl (pre (s_seq (s_iff (e_tru (e_var rfl) rfl) s_skip) (s_ret (e_ap (e_cons (e_bin (e_var rfl) (e_var rfl) (add_ps (by simp only [List.length_cons, List.length_nil]; omega))) (e_cons (e_bin (e_revF (e_var rfl) rev_ps) (e_var rfl) (add_ps (by simp only [List.length_reverse, List.length_cons, List.length_nil]; omega))) e_nil)) tup_2))))
end G

end
section
set_option Elab.async false
set_option linter.all false
set_option maxRecDepth 100000
set_option maxHeartbeats 0
namespace G
open PySem L2 M
/-! # The first two orders that differ -/
def cnd (f : List Int → List Int) (ps : List (List Int)) (a b : List Int) (e : Bool) (i j : Nat) : Option P :=
  if f (W2 a (exA e (ps.getD i []) (ps.getD j []) (rst ps i j)) b) = f (W2 a (exA e (ps.getD j []) (ps.getD i []) (rst ps i j)) b) then none else some (pr2 (W2 a (exA e (ps.getD i []) (ps.getD j []) (rst ps i j)) b) (W2 a (exA e (ps.getD j []) (ps.getD i []) (rst ps i j)) b))
def srI (f : List Int → List Int) (ps : List (List Int)) (a b : List Int) (e : Bool) (i : Nat) : Option P := (List.range' (i + 1) (ps.length - (i + 1))).findSome? (cnd f ps a b e i)
def srE (f : List Int → List Int) (ps : List (List Int)) (a b : List Int) (e : Bool) : Option P := (List.range ps.length).findSome? (srI f ps a b e)
def srch (f : List Int → List Int) (ps : List (List Int)) (a b : List Int) : Option P := [false, true].findSome? (srE f ps a b)
theorem srch_some {f : List Int → List Int} {ps : List (List Int)} {a b : List Int} {r : P} (h : srch f ps a b = some r) : ∃ x y, r = pr2 x y := by
  obtain ⟨e, _, h⟩ := List.exists_of_findSome?_eq_some h
  obtain ⟨i, _, h⟩ := List.exists_of_findSome?_eq_some h
  obtain ⟨j, _, h⟩ := List.exists_of_findSome?_eq_some h
  unfold cnd at h
  split at h
  · cases h
  · cases h; exact ⟨_, _, rfl⟩
theorem mem_r' {i j n : Nat} : j ∈ List.range' (i + 1) (n - (i + 1)) ↔ i < j ∧ j < n := by
  rw [List.mem_range'_1]; omega
theorem srch_none {f : List Int → List Int} {ps : List (List Int)} {a b : List Int} : srch f ps a b = none ↔ ∀ e i j, i < j → j < ps.length → cnd f ps a b e i j = none := by
  constructor
  · intro h e i j hij hj
    have h1 := List.findSome?_eq_none_iff.mp h e (by cases e <;> simp)
    have h2 := List.findSome?_eq_none_iff.mp h1 i (List.mem_range.mpr (by omega))
    exact List.findSome?_eq_none_iff.mp h2 j (mem_r'.mpr ⟨hij, hj⟩)
  · intro h
    refine List.findSome?_eq_none_iff.mpr fun e _ => List.findSome?_eq_none_iff.mpr fun i hi => List.findSome?_eq_none_iff.mpr fun j hj => ?_
    have hj := mem_r'.mp hj
    exact h e i j hj.1 hj.2
theorem W2_ex (a b : List Int) (p q : List Int) (R : List (List Int)) : W2 a (exA false p q R) b = a ++ p ++ q ++ R.flatten ++ b ∧ W2 a (exA true p q R) b = a ++ R.flatten ++ p ++ q ++ b := by
  constructor <;> simp [W2, exA]
section
variable {f : List Int → List Int} {tw : Tw4} (T : Kd.Tw f tw) {ps : List (List Int)} {a b : List Int} (h : Ord ps a b)
include T h
theorem srch_fr : (srch f ps a b).isNone = frB tw ps a b := by
  have ne : ∀ i, i < ps.length → ps.getD i [] ≠ [] := fun i hi => okP_ne (h.ok _ (List.mem_of_getElem? (getD_ok hi)))
  rw [Bool.eq_iff_iff, Option.isNone_iff_eq_none, Option.isNone_iff_eq_none, srch_none, frR_none, List.pairwise_iff_getElem]
  have gd : ∀ i (hi : i < ps.length), ps.getD i [] = ps[i] := fun i hi => by rw [List.getD_eq_getElem?_getD, List.getElem?_eq_getElem hi]; rfl
  constructor
  · intro hs i j hi hj hij
    cases ht : tw a b ps[i] ps[j] with
    | true => rfl
    | false =>
      exfalso
      rw [← gd i hi, ← gd j hj] at ht
      have d := T.t2 (rst ps i j).flatten (ne i hi) (ne j hj) ht
      rcases d with d | d
      · have := hs false i j hij hj
        unfold cnd at this
        rw [if_neg (by rw [(W2_ex a b _ _ _).1, (W2_ex a b _ _ _).1]; exact d)] at this
        cases this
      · have := hs true i j hij hj
        unfold cnd at this
        rw [if_neg (by rw [(W2_ex a b _ _ _).2, (W2_ex a b _ _ _).2]; exact d)] at this
        cases this
  · intro hp e i j hij hj
    have hi : i < ps.length := by omega
    have ht := hp i j hi hj hij
    rw [← gd i hi, ← gd j hj] at ht
    unfold cnd
    refine if_pos ?_
    cases e with
    | false =>
      rw [(W2_ex a b _ _ _).1, (W2_ex a b _ _ _).1]
      have := T.t1 [] (rst ps i j).flatten (ne i hi) (ne j hj) ht
      rw [List.append_nil] at this
      exact this
    | true =>
      rw [(W2_ex a b _ _ _).2, (W2_ex a b _ _ _).2]
      have := T.t1 (rst ps i j).flatten [] (ne i hi) (ne j hj) ht
      simp only [List.append_nil] at this
      exact this
end
section
variable {k : Str} {f : List Int → List Int} {tw : Tw4} (o : TK k f tw) {ps : List (List Int)} {a b : List Int} (h : Ord ps a b)
include o h
abbrev foE (k : Str) (ps : List (List Int)) (a b : List Int) (o4 o5 o6 o7 o8 o9 : Option D) : Et := [some (.fz (.str k)), some (.fz (pws ps)), some (.fz (pw a)), some (.fz (pw b)), o4, o5, o6, o7, o8, o9]
theorem Ord.fl : ps.flatten.length ≤ 48 := by have := fl_len h.ok; have := h.len; omega
theorem orders_ok : F_free_orders [.fz (.str k), .fz (pws ps), .fz (pw a), .fz (pw b)] [] = .ok (.fz ((srch f ps a b).getD .non), []) := by
  obtain ⟨c, op⟩ := o.pl
  have hl := h.len
  have hf := Ord.fl o h
  have la := h.la
  have lb := h.lb
  have body : ∀ (e : Bool) (i j : Nat), i < j → j < ps.length → ∀ o7 o8 o9 : Option D, (cnd f ps a b e i j = none → ∃ η2, (∃ o6 o7 o8 o9, η2 = foE k ps a b (some (.fz (.bl e))) (some (.fz (.int (i : Int)))) o6 o7 o8 o9) ∧ b_free_orders_3 (foE k ps a b (some (.fz (.bl e))) (some (.fz (.int (i : Int)))) (some (.fz (.int (j : Int)))) o7 o8 o9) [] = .ok (.nx, η2, [])) ∧ (∀ r, cnd f ps a b e i j = some r → ∃ η2, b_free_orders_3 (foE k ps a b (some (.fz (.bl e))) (some (.fz (.int (i : Int)))) (some (.fz (.int (j : Int)))) o7 o8 o9) [] = .ok (.rt (.fz r), η2, [])) := fun e i j hij hj o7 o8 o9 => by
    have hi : i < ps.length := by omega
    have hex := exch_ok (ps := ps) (i := i) (j := j) (by omega) (getD_ok hi) (getD_ok hj) hij e
    obtain ⟨q1, q2⟩ := ex_perm (getD_ok hi) (getD_ok hj) hij e
    have l1 := ex_len q1
    have l2 := ex_len q2
    unfold cnd
    generalize exA e (ps.getD i []) (ps.getD j []) (rst ps i j) = A at hex l1 ⊢
    generalize exA e (ps.getD j []) (ps.getD i []) (rst ps i j) = B at hex l2 ⊢
    have w1 : (W2 a A b).length ≤ 100 := by unfold W2; rw [List.length_append, List.length_append]; omega
    have w2 : (W2 a B b).length ≤ 100 := by unfold W2; rw [List.length_append, List.length_append]; omega
    have pre : ∀ {r : R (Fl × Et × Sr)}, dIf (dNot (dTru (dCall F_alike (dCons (dVar 0) (dCons (dBin ixO (dVar 7) (dK (.int 0))) (dCons (dBin ixO (dVar 7) (dK (.int 1))) (dNil))))))) (dRet (dVar 7)) (dSkip) (foE k ps a b (some (.fz (.bl e))) (some (.fz (.int (i : Int)))) (some (.fz (.int (j : Int)))) (some (.fz (pr2 (W2 a A b) (W2 a B b)))) (some (.fz (pws A))) (some (.fz (pws B)))) [] = r → b_free_orders_3 (foE k ps a b (some (.fz (.bl e))) (some (.fz (.int (i : Int)))) (some (.fz (.int (j : Int)))) o7 o8 o9) [] = r := fun {r} hr =>
      s_seq (s_asg (e_call (e_cons (e_var rfl) (e_cons (e_var rfl) (e_cons (e_var rfl) (e_cons (e_var rfl) e_nil)))) (callF_fz (F := F_exchanged) (ps := [pws ps, .int (i : Int), .int (j : Int), .bl e]) hex)) rfl) (s_seq (s_set (i := 7) (e_ap (e_cons (e_call (e_cons (e_var rfl) (e_cons (e_var rfl) (e_cons (e_var rfl) e_nil))) (callF_fz (F := F_word_of) (ps := [pws A, pw a, pw b]) (wof_ok .fz (by omega)))) (e_cons (e_call (e_cons (e_var rfl) (e_cons (e_var rfl) (e_cons (e_var rfl) e_nil))) (callF_fz (F := F_word_of) (ps := [pws B, pw a, pw b]) (wof_ok .fz (by omega)))) e_nil)) tup_2)) hr)
    have tst : dTru (dCall F_alike (dCons (dVar 0) (dCons (dBin ixO (dVar 7) (dK (.int 0))) (dCons (dBin ixO (dVar 7) (dK (.int 1))) (dNil))))) (foE k ps a b (some (.fz (.bl e))) (some (.fz (.int (i : Int)))) (some (.fz (.int (j : Int)))) (some (.fz (pr2 (W2 a A b) (W2 a B b)))) (some (.fz (pws A))) (some (.fz (pws B)))) [] = .ok (decide (f (W2 a A b) = f (W2 a B b)), []) :=
      e_tru (e_call (e_cons (e_var rfl) (e_cons (e_bin (e_var rfl) e_k ix2_0) (e_cons (e_bin (e_var rfl) e_k ix2_1) e_nil))) (callF_fz (F := F_alike) (ps := [.str k, pw (W2 a A b), pw (W2 a B b)]) (alike_b op (by omega) (by omega)))) (tru_bl rfl)
    by_cases hc : f (W2 a A b) = f (W2 a B b)
    · rw [if_pos hc]
      rw [decide_eq_true hc] at tst
      exact ⟨fun _ => ⟨_, ⟨_, _, _, _, rfl⟩, pre (s_iff (not_f (x := true) tst) s_skip)⟩, fun r hr => by cases hr⟩
    · rw [if_neg hc]
      rw [decide_eq_false hc] at tst
      refine ⟨fun h => (by cases h), fun r hr => ?_⟩
      cases hr
      exact ⟨_, pre (s_ift (not_t (x := true) tst) (s_ret (e_var rfl)))⟩
  have l3 : ∀ (e : Bool) (i : Nat), i < ps.length → ∀ o6 o7 o8 o9 : Option D, _ := fun e i hi o6 o7 o8 o9 => lp_find (g := gNm 6) (body := b_free_orders_3) (h := fun k : Nat => P.int (k : Int)) (c := cnd f ps a b e i) (st := []) (I := fun η => ∃ o6 o7 o8 o9, η = foE k ps a b (some (.fz (.bl e))) (some (.fz (.int (i : Int)))) o6 o7 o8 o9) (List.range' (i + 1) (ps.length - (i + 1))) (fun j hj η hη => by
    obtain ⟨o6, o7, o8, o9, rfl⟩ := hη
    have hj := mem_r'.mp hj
    exact ⟨_, rfl, (body e i j hj.1 hj.2 o7 o8 o9).1, (body e i j hj.1 hj.2 o7 o8 o9).2⟩) (foE k ps a b (some (.fz (.bl e))) (some (.fz (.int (i : Int)))) o6 o7 o8 o9) ⟨_, _, _, _, rfl⟩
  have l2 : ∀ (e : Bool) (o5 o6 o7 o8 o9 : Option D), _ := fun e o5 o6 o7 o8 o9 => lp_find (g := gNm 5) (body := b_free_orders_2) (h := fun k : Nat => P.int (k : Int)) (c := srI f ps a b e) (st := []) (I := fun η => ∃ o5 o6 o7 o8 o9, η = foE k ps a b (some (.fz (.bl e))) o5 o6 o7 o8 o9) (List.range ps.length) (fun i hi η hη => by
    obtain ⟨o5, o6, o7, o8, o9, rfl⟩ := hη
    have hi := List.mem_range.mp hi
    obtain ⟨k1, k2⟩ := l3 e i hi o6 o7 o8 o9
    refine ⟨_, rfl, fun hc => ?_, fun r hr => ?_⟩
    · obtain ⟨η', ⟨p6, p7, p8, p9, rfl⟩, e1⟩ := k1 hc
      exact ⟨_, ⟨_, _, _, _, _, rfl⟩, for_r2 (i := i + 1) (j := ps.length) (e_cons (e_bin (e_var rfl) e_k add_intF) (e_cons (e_ap (e_cons (e_var rfl) e_nil) len_ps) e_nil)) (by omega) (by omega) e1⟩
    · obtain ⟨η', e1⟩ := k2 r hr
      exact ⟨_, for_r2 (i := i + 1) (j := ps.length) (e_cons (e_bin (e_var rfl) e_k add_intF) (e_cons (e_ap (e_cons (e_var rfl) e_nil) len_ps) e_nil)) (by omega) (by omega) e1⟩) (foE k ps a b (some (.fz (.bl e))) o5 o6 o7 o8 o9) ⟨_, _, _, _, _, rfl⟩
  have l1 := lp_find (g := gNm 4) (body := b_free_orders_1) (h := P.bl) (c := srE f ps a b) (st := []) (I := fun η => ∃ o4 o5 o6 o7 o8 o9, η = foE k ps a b o4 o5 o6 o7 o8 o9) [false, true] (fun e _ η hη => by
    obtain ⟨o4, o5, o6, o7, o8, o9, rfl⟩ := hη
    obtain ⟨k1, k2⟩ := l2 e o5 o6 o7 o8 o9
    refine ⟨_, rfl, fun hc => ?_, fun r hr => ?_⟩
    · obtain ⟨η', ⟨p5, p6, p7, p8, p9, rfl⟩, e1⟩ := k1 hc
      exact ⟨_, ⟨_, _, _, _, _, _, rfl⟩, for_r1n (e_cons (e_ap (e_cons (e_var rfl) e_nil) len_ps) e_nil) (by omega) e1⟩
    · obtain ⟨η', e1⟩ := k2 r hr
      exact ⟨_, for_r1n (e_cons (e_ap (e_cons (e_var rfl) e_nil) len_ps) e_nil) (by omega) e1⟩) (foE k ps a b none none none none none none) ⟨_, _, _, _, _, _, rfl⟩
  obtain ⟨k1, k2⟩ := l1
  cases hr : srch f ps a b with
  | none =>
    obtain ⟨η', _, e1⟩ := k1 hr
    exact run0 rfl (s_seq (s_ex (e_call (e_cons (e_var rfl) e_nil) (named_c op))) (s_seq (s_forL (xs := [false, true].map P.bl) (e_ap (e_cons e_k (e_cons e_k e_nil)) tup_2) rfl rfl e1) (s_ret e_k)))
  | some r =>
    obtain ⟨η', e1⟩ := k2 r hr
    exact run0 rfl (s_seq (s_ex (e_call (e_cons (e_var rfl) e_nil) (named_c op))) (s_seqr (s_forL (xs := [false, true].map P.bl) (e_ap (e_cons e_k (e_cons e_k e_nil)) tup_2) rfl rfl e1)))
end
end G

end
section
set_option Elab.async false
set_option linter.all false
set_option maxRecDepth 100000
set_option maxHeartbeats 0
namespace G
open PySem L2 M
/-! # The law's own pair; asked; refused -/
section
variable {k : Str} {f : List Int → List Int} {tw : Tw4} (o : TK k f tw) {ps : List (List Int)} {a b : List Int} (h : Ord ps a b)
include o h
abbrev paE (k : Str) (ps : List (List Int)) (a b : List Int) (o4 o5 o6 o7 o8 o9 o10 o11 : Option D) : Et := [some (.fz (.str k)), some (.fz (pws ps)), some (.fz (pw a)), some (.fz (pw b)), o4, o5, o6, o7, o8, o9, o10, o11]
theorem pair_ok : F_l_pair [.fz (.str k), .fz (pws ps), .fz (pw a), .fz (pw b)] [] = .ok (.fz ((srch f ps a b).getD .non), []) := by
  obtain ⟨c, op⟩ := o.pl
  have hl := h.len
  have hf := Ord.fl o h
  have la := h.la
  have lb := h.lb
  have body : ∀ (e : Bool) (i j : Nat), i < j → j < ps.length → ∀ o7 o8 o9 o10 o11 : Option D, (cnd f ps a b e i j = none → ∃ η2, (∃ o6 o7 o8 o9 o10 o11, η2 = paE k ps a b (some (.fz (.bl e))) (some (.fz (.int (i : Int)))) o6 o7 o8 o9 o10 o11) ∧ b_l_pair_3 (paE k ps a b (some (.fz (.bl e))) (some (.fz (.int (i : Int)))) (some (.fz (.int (j : Int)))) o7 o8 o9 o10 o11) [] = .ok (.nx, η2, [])) ∧ (∀ r, cnd f ps a b e i j = some r → ∃ η2, b_l_pair_3 (paE k ps a b (some (.fz (.bl e))) (some (.fz (.int (i : Int)))) (some (.fz (.int (j : Int)))) o7 o8 o9 o10 o11) [] = .ok (.rt (.fz r), η2, [])) := fun e i j hij hj o7 o8 o9 o10 o11 => by
    have hi : i < ps.length := by omega
    have hp := getD_ok hi
    have hq := getD_ok hj
    obtain ⟨q1, q2⟩ := ex_perm hp hq hij e
    have l1 := ex_len q1
    have l2 := ex_len q2
    unfold cnd
    generalize ps.getD i [] = p at *
    generalize ps.getD j [] = q at *
    have t1 : (ps.take i).length ≤ 100 := by rw [List.length_take]; omega
    have t2 : ((ps.drop (i + 1)).take (j - (i + 1))).length ≤ 100 := by rw [List.length_take, List.length_drop]; omega
    have t3 : (ps.drop (j + 1)).length ≤ 100 := by rw [List.length_drop]; omega
    have tr : (rst ps i j).length ≤ 300 := by unfold rst; rw [List.length_append, List.length_append]; omega
    have a1 : ∀ {st : Sr}, addF (.fz (pws (ps.take ((i : Nat) : Int).toNat))) (.fz (pws ((ps.drop (i + 1)).take (j - (i + 1))))) st = .ok (.fz (pws (ps.take i ++ (ps.drop (i + 1)).take (j - (i + 1)))), st) := fun {st} => by rw [tN]; exact add_ps (by omega)
    have a2 : ∀ {st : Sr}, addF (.fz (pws (ps.take i ++ (ps.drop (i + 1)).take (j - (i + 1))))) (.fz (pws (ps.drop ((j : Int) + 1).toNat))) st = .ok (.fz (pws (rst ps i j)), st) := fun {st} => by rw [tN1]; exact add_ps (by rw [List.length_append]; omega)
    have m1 : ∀ {st : Sr}, slF (.fz (pws ps)) (some ((i : Int) + 1)) (some (j : Int)) st = .ok (.fz (pws ((ps.drop (i + 1)).take (j - (i + 1)))), st) := fun {st} => mid_ps (a := i + 1) (b := j) (by omega)
    generalize rst ps i j = R at *
    have ifs : dIf (dTru (dVar 4)) (dSeq (dAsg (dBin addF (dVar 7) (dAp lstF (dCons (dBin ixO (dVar 1) (dVar 5)) (dCons (dBin ixO (dVar 1) (dVar 6)) (dNil))))) (gNm 8)) (dAsg (dBin addF (dVar 7) (dAp lstF (dCons (dBin ixO (dVar 1) (dVar 6)) (dCons (dBin ixO (dVar 1) (dVar 5)) (dNil))))) (gNm 9))) (dSkip) (paE k ps a b (some (.fz (.bl e))) (some (.fz (.int (i : Int)))) (some (.fz (.int (j : Int)))) (some (.fz (pws R))) (some (.fz (pws ([p, q] ++ R)))) (some (.fz (pws ([q, p] ++ R)))) o10 o11) [] = .ok (.nx, paE k ps a b (some (.fz (.bl e))) (some (.fz (.int (i : Int)))) (some (.fz (.int (j : Int)))) (some (.fz (pws R))) (some (.fz (pws (exA e p q R)))) (some (.fz (pws (exA e q p R)))) o10 o11, []) := by
      cases e with
      | false => exact s_iff (e_tru (e_var rfl) rfl) s_skip
      | true => exact s_ift (e_tru (e_var rfl) rfl) (s_seq (s_set (i := 8) (e_bin (e_var rfl) (e_ap (e_cons (e_bin (e_var rfl) (e_var rfl) (ix_ps (by omega) (getZ hp))) (e_cons (e_bin (e_var rfl) (e_var rfl) (ix_ps (by omega) (getZ hq))) e_nil)) lst_ps2) (add_ps (by simp only [List.length_cons, List.length_nil]; omega)))) (s_set (i := 9) (e_bin (e_var rfl) (e_ap (e_cons (e_bin (e_var rfl) (e_var rfl) (ix_ps (by omega) (getZ hq))) (e_cons (e_bin (e_var rfl) (e_var rfl) (ix_ps (by omega) (getZ hp))) e_nil)) lst_ps2) (add_ps (by simp only [List.length_cons, List.length_nil]; omega)))))
    generalize exA e p q R = A at l1 ifs ⊢
    generalize exA e q p R = B at l2 ifs ⊢
    have w1 : (W2 a A b).length ≤ 100 := by unfold W2; rw [List.length_append, List.length_append]; omega
    have w2 : (W2 a B b).length ≤ 100 := by unfold W2; rw [List.length_append, List.length_append]; omega
    have pre : ∀ {r : M.R (Fl × Et × Sr)}, dIf (dTru (dBin neO (dCall F_l_plain (dCons (dVar 0) (dCons (dVar 10) (dNil)))) (dCall F_l_plain (dCons (dVar 0) (dCons (dVar 11) (dNil)))))) (dRet (dAp tupO (dCons (dVar 10) (dCons (dVar 11) (dNil))))) (dSkip) (paE k ps a b (some (.fz (.bl e))) (some (.fz (.int (i : Int)))) (some (.fz (.int (j : Int)))) (some (.fz (pws R))) (some (.fz (pws A))) (some (.fz (pws B))) (some (.fz (pw (W2 a A b)))) (some (.fz (pw (W2 a B b))))) [] = r → b_l_pair_3 (paE k ps a b (some (.fz (.bl e))) (some (.fz (.int (i : Int)))) (some (.fz (.int (j : Int)))) o7 o8 o9 o10 o11) [] = r := fun {r} hr =>
      s_seq (s_set (i := 7) (e_bin (e_bin (e_slF (e_var rfl) e_nopart (e_part (e_var rfl)) (take_ps (by omega))) (e_slF (e_var rfl) (e_part (e_bin (e_var rfl) e_k add_intF)) (e_part (e_var rfl)) m1) a1) (e_slF (e_var rfl) (e_part (e_bin (e_var rfl) e_k add_intF)) e_nopart (drop_ps (by omega))) a2)) (s_seq (s_set (i := 8) (e_bin (e_ap (e_cons (e_bin (e_var rfl) (e_var rfl) (ix_ps (by omega) (getZ hp))) (e_cons (e_bin (e_var rfl) (e_var rfl) (ix_ps (by omega) (getZ hq))) e_nil)) lst_ps2) (e_var rfl) (add_ps (by simp only [List.length_cons, List.length_nil]; omega)))) (s_seq (s_set (i := 9) (e_bin (e_ap (e_cons (e_bin (e_var rfl) (e_var rfl) (ix_ps (by omega) (getZ hq))) (e_cons (e_bin (e_var rfl) (e_var rfl) (ix_ps (by omega) (getZ hp))) e_nil)) lst_ps2) (e_var rfl) (add_ps (by simp only [List.length_cons, List.length_nil]; omega)))) (s_seq ifs (s_seq (s_set (i := 10) (e_bin (e_bin (e_var rfl) (e_call (e_cons (e_var rfl) e_nil) (callF_fz (F := F_l_joined) (ps := [pws A]) (joined_ok .fz (by omega)))) (addwF (by omega))) (e_var rfl) (addwF (by rw [List.length_append]; omega)))) (s_seq (s_set (i := 11) (e_bin (e_bin (e_var rfl) (e_call (e_cons (e_var rfl) e_nil) (callF_fz (F := F_l_joined) (ps := [pws B]) (joined_ok .fz (by omega)))) (addwF (by omega))) (e_var rfl) (addwF (by rw [List.length_append]; omega)))) hr)))))
    have tst : dTru (dBin neO (dCall F_l_plain (dCons (dVar 0) (dCons (dVar 10) (dNil)))) (dCall F_l_plain (dCons (dVar 0) (dCons (dVar 11) (dNil))))) (paE k ps a b (some (.fz (.bl e))) (some (.fz (.int (i : Int)))) (some (.fz (.int (j : Int)))) (some (.fz (pws R))) (some (.fz (pws A))) (some (.fz (pws B))) (some (.fz (pw (W2 a A b)))) (some (.fz (pw (W2 a B b))))) [] = .ok (!decide (f (W2 a A b) = f (W2 a B b)), []) :=
      e_tru (e_bin (e_call (e_cons (e_var rfl) (e_cons (e_var rfl) e_nil)) (lp_c op (ws := W2 a A b) (by omega))) (e_call (e_cons (e_var rfl) (e_cons (e_var rfl) e_nil)) (lp_c op (ws := W2 a B b) (by omega))) ne_w) (tru_bl rfl)
    by_cases hc : f (W2 a A b) = f (W2 a B b)
    · rw [if_pos hc]
      rw [decide_eq_true hc] at tst
      exact ⟨fun _ => ⟨_, ⟨_, _, _, _, _, _, rfl⟩, pre (s_iff tst s_skip)⟩, fun r hr => by cases hr⟩
    · rw [if_neg hc]
      rw [decide_eq_false hc] at tst
      refine ⟨fun h => (by cases h), fun r hr => ?_⟩
      cases hr
      exact ⟨_, pre (s_ift tst (s_ret (e_ap (e_cons (e_var rfl) (e_cons (e_var rfl) e_nil)) tup_2)))⟩
  have l3 : ∀ (e : Bool) (i : Nat), i < ps.length → ∀ o6 o7 o8 o9 o10 o11 : Option D, _ := fun e i hi o6 o7 o8 o9 o10 o11 => lp_find (g := gNm 6) (body := b_l_pair_3) (h := fun k : Nat => P.int (k : Int)) (c := cnd f ps a b e i) (st := []) (I := fun η => ∃ o6 o7 o8 o9 o10 o11, η = paE k ps a b (some (.fz (.bl e))) (some (.fz (.int (i : Int)))) o6 o7 o8 o9 o10 o11) (List.range' (i + 1) (ps.length - (i + 1))) (fun j hj η hη => by
    obtain ⟨o6, o7, o8, o9, o10, o11, rfl⟩ := hη
    have hj := mem_r'.mp hj
    exact ⟨_, rfl, (body e i j hj.1 hj.2 o7 o8 o9 o10 o11).1, (body e i j hj.1 hj.2 o7 o8 o9 o10 o11).2⟩) (paE k ps a b (some (.fz (.bl e))) (some (.fz (.int (i : Int)))) o6 o7 o8 o9 o10 o11) ⟨_, _, _, _, _, _, rfl⟩
  have l2 : ∀ (e : Bool) (o5 o6 o7 o8 o9 o10 o11 : Option D), _ := fun e o5 o6 o7 o8 o9 o10 o11 => lp_find (g := gNm 5) (body := b_l_pair_2) (h := fun k : Nat => P.int (k : Int)) (c := srI f ps a b e) (st := []) (I := fun η => ∃ o5 o6 o7 o8 o9 o10 o11, η = paE k ps a b (some (.fz (.bl e))) o5 o6 o7 o8 o9 o10 o11) (List.range ps.length) (fun i hi η hη => by
    obtain ⟨o5, o6, o7, o8, o9, o10, o11, rfl⟩ := hη
    have hi := List.mem_range.mp hi
    obtain ⟨k1, k2⟩ := l3 e i hi o6 o7 o8 o9 o10 o11
    refine ⟨_, rfl, fun hc => ?_, fun r hr => ?_⟩
    · obtain ⟨η', ⟨p6, p7, p8, p9, p10, p11, rfl⟩, e1⟩ := k1 hc
      exact ⟨_, ⟨_, _, _, _, _, _, _, rfl⟩, for_r2 (i := i + 1) (j := ps.length) (e_cons (e_bin (e_var rfl) e_k add_intF) (e_cons (e_ap (e_cons (e_var rfl) e_nil) len_ps) e_nil)) (by omega) (by omega) e1⟩
    · obtain ⟨η', e1⟩ := k2 r hr
      exact ⟨_, for_r2 (i := i + 1) (j := ps.length) (e_cons (e_bin (e_var rfl) e_k add_intF) (e_cons (e_ap (e_cons (e_var rfl) e_nil) len_ps) e_nil)) (by omega) (by omega) e1⟩) (paE k ps a b (some (.fz (.bl e))) o5 o6 o7 o8 o9 o10 o11) ⟨_, _, _, _, _, _, _, rfl⟩
  have l1 := lp_find (g := gNm 4) (body := b_l_pair_1) (h := P.bl) (c := srE f ps a b) (st := []) (I := fun η => ∃ o4 o5 o6 o7 o8 o9 o10 o11, η = paE k ps a b o4 o5 o6 o7 o8 o9 o10 o11) [false, true] (fun e _ η hη => by
    obtain ⟨o4, o5, o6, o7, o8, o9, o10, o11, rfl⟩ := hη
    obtain ⟨k1, k2⟩ := l2 e o5 o6 o7 o8 o9 o10 o11
    refine ⟨_, rfl, fun hc => ?_, fun r hr => ?_⟩
    · obtain ⟨η', ⟨p5, p6, p7, p8, p9, p10, p11, rfl⟩, e1⟩ := k1 hc
      exact ⟨_, ⟨_, _, _, _, _, _, _, _, rfl⟩, for_r1n (e_cons (e_ap (e_cons (e_var rfl) e_nil) len_ps) e_nil) (by omega) e1⟩
    · obtain ⟨η', e1⟩ := k2 r hr
      exact ⟨_, for_r1n (e_cons (e_ap (e_cons (e_var rfl) e_nil) len_ps) e_nil) (by omega) e1⟩) (paE k ps a b none none none none none none none none) ⟨_, _, _, _, _, _, _, _, rfl⟩
  obtain ⟨k1, k2⟩ := l1
  cases hr : srch f ps a b with
  | none =>
    obtain ⟨η', _, e1⟩ := k1 hr
    exact run0 rfl (s_seq (s_forL (xs := [false, true].map P.bl) (e_ap (e_cons e_k (e_cons e_k e_nil)) tup_2) rfl rfl e1) (s_ret e_k))
  | some r =>
    obtain ⟨η', e1⟩ := k2 r hr
    exact run0 rfl (s_seqr (s_forL (xs := [false, true].map P.bl) (e_ap (e_cons e_k (e_cons e_k e_nil)) tup_2) rfl rfl e1))
theorem told_ok {form : Int} (hf : fits form a b) : F_l_told [.fz (.int form), .fz (.str k), .fz (pws ps), .fz (pw a), .fz (pw b)] [] = .ok (.fz ((srch f ps a b).getD .non), []) := by
  have hcall : ∀ {η : Et} {st : Sr}, callF F_free_orders [.fz (.str k), .fz (pws ps), .fz (pw a), .fz (pw b)] η st = .ok (.fz ((srch f ps a b).getD .non), st) := fun {η st} =>
    callF_fz (F := F_free_orders) (ps := [.str k, pws ps, pw a, pw b]) (orders_ok o h)
  refine run0e rfl ?_
  by_cases h1 : form = 1
  · obtain rfl := hf.1 h1
    exact ⟨_, _, s_seqr (s_ift (t_eq (e_var rfl) e_k (decide_eq_true h1)) (s_ret (e_callK (e_cons (e_var rfl) (e_cons (e_var rfl) e_nil)) (e_cons (e_var rfl) e_nil) rfl rfl hcall)))⟩
  by_cases h2 : form = 2
  · obtain rfl := hf.2.1 h2
    exact ⟨_, _, s_seq (s_iff (t_eq (e_var rfl) e_k (decide_eq_false h1)) s_skip) (s_seqr (s_ift (t_eq (e_var rfl) e_k (decide_eq_true h2)) (s_ret (e_callK (e_cons (e_var rfl) (e_cons (e_var rfl) e_nil)) (e_cons (e_var rfl) e_nil) rfl rfl hcall))))⟩
  by_cases h3 : form = 3
  · obtain ⟨rfl, rfl⟩ := hf.2.2 h3
    exact ⟨_, _, s_seq (s_iff (t_eq (e_var rfl) e_k (decide_eq_false h1)) s_skip) (s_seq (s_iff (t_eq (e_var rfl) e_k (decide_eq_false h2)) s_skip) (s_seqr (s_ift (t_eq (e_var rfl) e_k (decide_eq_true h3)) (s_ret (e_callK (e_cons (e_var rfl) (e_cons (e_var rfl) e_nil)) e_nil rfl rfl hcall)))))⟩
  exact ⟨_, _, s_seq (s_iff (t_eq (e_var rfl) e_k (decide_eq_false h1)) s_skip) (s_seq (s_iff (t_eq (e_var rfl) e_k (decide_eq_false h2)) s_skip) (s_seq (s_iff (t_eq (e_var rfl) e_k (decide_eq_false h3)) s_skip) (s_ret (e_callK (e_cons (e_var rfl) (e_cons (e_var rfl) e_nil)) (e_cons (e_var rfl) (e_cons (e_var rfl) e_nil)) rfl rfl hcall))))⟩
theorem ne_pws {ps qs : List (List Int)} {st : Sr} : neO (.fz (pws ps)) (.fz (pws qs)) st = .ok (.fz (.bl (!decide (ps = qs))), st) := by
  show (if shP (pws ps) = true ∧ shP (pws qs) = true then R.ok (D.fz (.bl (!eqP (pws ps) (pws qs))), st) else .stuck) = _
  rw [if_pos ⟨shP_pws _, shP_pws _⟩, eqP_pws]
theorem asked_ok {form : Int} (hf : fits form a b) : F_l_asked [.fz (.int form), .fz (.str k), .fz (pws ps), .fz (pw a), .fz (pw b)] [] = .ok (.fz (.bl true), []) := by
  have ht := told_ok o h hf
  have hfr := free_ok o h
  have hpr := pair_ok o h
  rw [← srch_fr o.T h] at hfr
  have pre : ∀ {q : P} {x : DS} {r : R (Fl × Et × Sr)}, F_l_told [.fz (.int form), .fz (.str k), .fz (pws ps), .fz (pw a), .fz (pw b)] [] = .ok (.fz q, []) → x [some (.fz (.int form)), some (.fz (.str k)), some (.fz (pws ps)), some (.fz (pw a)), some (.fz (pw b)), some (.fz (pws ps)), some (.fz q)] [] = r → dSeq (dAsg (dAp listF (dCons (dVar 2) (dNil))) (gNm 5)) (dSeq (dAsg (dCall F_l_told (dCons (dVar 0) (dCons (dVar 1) (dCons (dVar 5) (dCons (dVar 3) (dCons (dVar 4) (dNil))))))) (gNm 6)) (dSeq (dIf (dTru (dBin neO (dVar 5) (dVar 2))) (dRet (dK (.bl false))) (dSkip)) x)) [some (.fz (.int form)), some (.fz (.str k)), some (.fz (pws ps)), some (.fz (pw a)), some (.fz (pw b)), none, none] [] = r := fun {q x r} h1 h2 =>
    s_seq (s_set (i := 5) (e_ap (e_cons (e_var rfl) e_nil) list_ps)) (s_seq (s_set (i := 6) (e_call (e_cons (e_var rfl) (e_cons (e_var rfl) (e_cons (e_var rfl) (e_cons (e_var rfl) (e_cons (e_var rfl) e_nil))))) (callF_fz (F := F_l_told) (ps := [.int form, .str k, pws ps, pw a, pw b]) h1))) (s_seq (s_iff (e_tru (e_bin (e_var rfl) (e_var rfl) (ne_pws o h)) (tru_bl (by rw [decide_eq_true rfl]; rfl))) s_skip) h2))
  cases hs : srch f ps a b with
  | none =>
    rw [hs] at ht hfr
    exact run0 rfl (pre ht (s_seqr (s_ift (e_tru (e_call (e_cons (e_var rfl) (e_cons (e_var rfl) (e_cons (e_var rfl) (e_cons (e_var rfl) e_nil)))) (callF_fz (F := F_l_free) (ps := [.str k, pws ps, pw a, pw b]) hfr)) rfl) (s_ret (e_bin (e_var rfl) e_k rfl)))))
  | some r =>
    obtain ⟨x, y, rfl⟩ := srch_some hs
    rw [hs] at ht hfr hpr
    exact run0 rfl (pre ht (s_seq (s_iff (e_tru (e_call (e_cons (e_var rfl) (e_cons (e_var rfl) (e_cons (e_var rfl) (e_cons (e_var rfl) e_nil)))) (callF_fz (F := F_l_free) (ps := [.str k, pws ps, pw a, pw b]) hfr)) rfl) s_skip) (s_ret (v_and_t (e_un (e_var rfl) (isi_ok rfl kitTT)) ((e_bin (e_var rfl) (e_call (e_cons (e_var rfl) (e_cons (e_var rfl) (e_cons (e_var rfl) (e_cons (e_var rfl) e_nil)))) (callF_fz (F := F_l_pair) (ps := [.str k, pws ps, pw a, pw b]) hpr)) (eq_tws (ps := [x, y]) (qs := [x, y]))).trans (by rw [decide_eq_true rfl]))))))
end
def badsL : List P := [.str "", .str "Bag", .str "heads ", .str "tail", .str "first last", .non, .int 8]
def isBad (q : P) : Bool := shP q && eqP q q
theorem bad_same : ∀ q ∈ badsL, isBad q = true := by
  intro q hq
  simp only [badsL, List.mem_cons, List.not_mem_nil, or_false] at hq
  rcases hq with rfl | rfl | rfl | rfl | rfl | rfl | rfl <;> kernel_rfl
theorem bad_kn : ∀ q ∈ badsL, F_kind_named [.fz q] [] = .exc "BadKind" (some [("name", q)]) [] [] := by
  intro q hq
  simp only [badsL, List.mem_cons, List.not_mem_nil, or_false] at hq
  rcases hq with rfl | rfl | rfl | rfl | rfl | rfl | rfl <;> kernel_rfl
theorem refused_ok {q : P} (hq : q ∈ badsL) (u : List (List Int)) : F_l_refused [.fz q, .fz (pws u)] [] = .ok (.fz (.bl true), []) := by
  have hk := bad_kn q hq
  have hb := bad_same q hq
  unfold isBad at hb
  rw [Bool.and_eq_true] at hb
  have hfr : F_free_orders [.fz q, .fz (pws u), .fz (.tup []), .fz (.tup [])] [] = .exc "BadKind" (some [("name", q)]) [] [] :=
    run0x rfl (x_seq (x_ex (e_call (e_cons (e_var rfl) e_nil) (callF_exc (ps := [q]) hk))))
  have heq : ∀ {st : Sr}, eqO (.fz q) (.fz q) st = .ok (.fz (.bl true), st) := fun {st} => by
    show (if shP q = true ∧ shP q = true then R.ok (D.fz (.bl (eqP q q)), st) else .stuck) = _
    rw [if_pos ⟨hb.1, hb.1⟩, hb.2]
  refine run0 rfl (s_seq (s_set (i := 2) e_k) (s_seq (s_set (i := 3) e_k) (s_seq (s_try (x_ex (e_callK (e_cons (e_var rfl) (e_cons (e_ap (e_cons (e_var rfl) e_nil) list_ps) e_nil)) e_nil rfl rfl (callF_exc (F := F_free_orders) (ps := [q, pws u, .tup [], .tup []]) hfr))) rfl (Nat.lt_of_sub_eq_succ rfl) (s_seq (s_set (i := 2) e_k) (s_set (i := 3) rfl))) (s_ret (v_and_t (e_var rfl) (e_bin (e_var rfl) (e_var rfl) heq))))))
end G

end
section
set_option Elab.async false
set_option linter.all false
set_option maxRecDepth 100000
set_option maxHeartbeats 0
namespace G
open PySem L2 M
/-! # All orders -/
def oex (n : Nat) (r : List Nat) : List (List Nat) := ((List.range n).filter fun k => decide (k ∉ r)).map fun k => r ++ [k]
def olev (n : Nat) : Nat → List (List Nat)
  | 0 => [[]]
  | t + 1 => (olev n t).flatMap (oex n)
theorem olev_len (n : Nat) : ∀ t, (olev n t).length ≤ n ^ t
  | 0 => Nat.le_refl _
  | t + 1 => by
    have h : ∀ l : List (List Nat), (l.flatMap (oex n)).length ≤ n * l.length := fun l => by
      induction l with
      | nil => simp
      | cons r l ih =>
        rw [List.flatMap_cons, List.length_append, List.length_cons]
        have : (oex n r).length ≤ n := by
          unfold oex
          rw [List.length_map]
          exact Nat.le_trans (List.length_filter_le _ _) (by simp)
        rw [Nat.mul_succ]; omega
    rw [olev, Nat.pow_succ]
    have h1 := h (olev n t)
    have h2 := olev_len n t
    exact Nat.le_trans h1 (by rw [Nat.mul_comm]; exact Nat.mul_le_mul_right n h2)
theorem olev_perm {n : Nat} : ∀ {t : Nat} {r : List Nat}, r ∈ olev n t → (r ++ (List.range n).filter fun k => decide (k ∉ r)).Perm (List.range n) ∧ r.length = t
  | 0, r, h => by
    rw [olev, List.mem_singleton] at h
    subst h
    refine ⟨?_, rfl⟩
    rw [List.nil_append, List.filter_eq_self.mpr (fun k _ => by simp)]
  | t + 1, r, h => by
    rw [olev, List.mem_flatMap] at h
    obtain ⟨r0, h0, h1⟩ := h
    obtain ⟨p0, l0⟩ := olev_perm h0
    unfold oex at h1
    obtain ⟨k, hk, rfl⟩ := List.mem_map.mp h1
    refine ⟨?_, by simp [l0]⟩
    have nd : ((List.range n).filter fun k => decide (k ∉ r0)).Nodup := List.nodup_range.sublist List.filter_sublist
    have e : (List.range n).filter (fun x => decide (x ∉ r0 ++ [k])) = ((List.range n).filter fun x => decide (x ∉ r0)).erase k := by
      rw [nd.erase_eq_filter, List.filter_filter]
      refine List.filter_congr fun x _ => ?_
      by_cases h1 : x ∈ r0 <;> by_cases h2 : x = k <;> simp [h1, h2]
    rw [e, List.append_assoc]
    refine List.Perm.trans ?_ p0
    exact List.Perm.append_left r0 (List.perm_cons_erase hk).symm
theorem olev_all {n : Nat} {r : List Nat} (h : r ∈ olev n n) : r.Perm (List.range n) := by
  obtain ⟨p, l⟩ := olev_perm h
  have := p.length_eq
  rw [List.length_append, List.length_range] at this
  have e : (List.range n).filter (fun k => decide (k ∉ r)) = [] := List.length_eq_zero_iff.mp (by omega)
  rw [e, List.append_nil] at p
  exact p
theorem all_olev {n : Nat} {r : List Nat} (h : r.Perm (List.range n)) : ∀ t, t ≤ n → r.take t ∈ olev n t
  | 0, _ => by simp [olev]
  | t + 1, ht => by
    have ih := all_olev h t (by omega)
    have hl : r.length = n := by rw [h.length_eq, List.length_range]
    have hlt : t < r.length := by omega
    have nd : r.Nodup := h.nodup_iff.mpr List.nodup_range
    rw [olev, List.mem_flatMap]
    refine ⟨r.take t, ih, ?_⟩
    unfold oex
    refine List.mem_map.mpr ⟨r[t], List.mem_filter.mpr ⟨h.mem_iff.mp (List.getElem_mem hlt), ?_⟩, ?_⟩
    · rw [decide_eq_true_iff]
      intro hm
      obtain ⟨i, hi, e⟩ := List.getElem_of_mem hm
      rw [List.length_take] at hi
      rw [List.getElem_take] at e
      have := (List.getElem_inj nd).mp e
      omega
    · rw [List.take_add_one, List.getElem?_eq_getElem hlt]; rfl
theorem perm_olev {n : Nat} {r : List Nat} (h : r.Perm (List.range n)) : r ∈ olev n n := by
  have := all_olev h n (Nat.le_refl _)
  rwa [List.take_of_length_le (by rw [h.length_eq, List.length_range]; exact Nat.le_refl _)] at this
/-! the law's own orders -/
abbrev pR (r : List Nat) : P := .lst (r.map pN)
theorem cast_mem {k : Nat} {r : List Nat} : (k : Int) ∈ r.map (fun x : Nat => (x : Int)) ↔ k ∈ r := by
  rw [List.mem_map]
  constructor
  · rintro ⟨x, hx, e⟩
    have : x = k := by omega
    subst this; exact hx
  · exact fun h => ⟨k, h, rfl⟩
theorem notIn_r {k : Nat} {r : List Nat} {st : Sr} : notInO (.fz (pN k)) (.fz (pR r)) st = .ok (.fz (.bl (!decide (k ∈ r))), st) := by
  have e : r.map pN = (r.map fun x : Nat => (x : Int)).map P.int := by rw [List.map_map]; rfl
  show (match inB (.int (k : Int)) (.lst (r.map pN)) with
    | some b => R.ok (D.fz (.bl (!b)), st)
    | none => .stuck) = _
  rw [e, inB_ints, decide_eq_decide.mpr cast_mem]
theorem add_r {r : List Nat} {k : Nat} {st : Sr} (h : r.length ≤ 1000) : addF (.fz (pR r)) (.fz (pR [k])) st = .ok (.fz (pR (r ++ [k])), st) := by
  have := add_f (st := st) (xs := r.map pN) (ys := [k].map pN) (by simp; omega)
  rw [← List.map_append] at this; exact this
theorem or_in (s0 s1 s2 : Option D) (n : Nat) (r : List Nat) (hr : r.length ≤ 100) : ∀ (l : List Nat) (acc : List (List Nat)) (st : Sr) (o5 : Option D), st[n]? = some (.lst (acc.map pR)) → acc.length + l.length ≤ 100000 → ∃ o5', loopD (gNm 5) b_l_orders_3 (l.map pN) [s0, s1, s2, some (.cell n), some (.fz (pR r)), o5] st = .ok (.nx, [s0, s1, s2, some (.cell n), some (.fz (pR r)), o5'], st.set n (.lst ((acc ++ (l.filter fun k => decide (k ∉ r)).map fun k => r ++ [k]).map pR)))
  | [], acc, st, o5, hn, _ => ⟨o5, by
    have e : acc ++ (([] : List Nat).filter fun k => decide (k ∉ r)).map (fun k => r ++ [k]) = acc := by simp
    rw [e, set_same hn]; rfl⟩
  | k :: l, acc, st, o5, hn, hl => by
    have hnl : n < st.length := (List.getElem?_eq_some_iff.mp hn).1
    simp only [List.length_cons] at hl
    by_cases hk : k ∈ r
    · obtain ⟨o5', ih⟩ := or_in s0 s1 s2 n r hr l acc st (some (.fz (pN k))) hn (by omega)
      refine ⟨o5', lp_cons (gg := gNm 5) (s_iff (e_tru (e_bin (e_var rfl) (e_var rfl) notIn_r) (tru_bl (by rw [decide_eq_true hk]; rfl))) s_skip) ?_⟩
      rw [List.filter_cons_of_neg (by simp [hk])]
      exact ih
    · have hn2 : (st.set n (.lst ((acc ++ [r ++ [k]]).map pR)))[n]? = some (.lst ((acc ++ [r ++ [k]]).map pR)) := List.getElem?_set_self hnl
      obtain ⟨o5', ih⟩ := or_in s0 s1 s2 n r hr l (acc ++ [r ++ [k]]) _ (some (.fz (pN k))) hn2 (by simp; omega)
      have ap := append_at (st := st) (n := n) (xs := acc.map pR) (p := pR (r ++ [k])) hn (by rw [List.length_map]; omega)
      rw [show acc.map pR ++ [pR (r ++ [k])] = (acc ++ [r ++ [k]]).map pR by rw [List.map_append]; rfl] at ap
      rw [List.set_set] at ih
      refine ⟨o5', lp_cons (gg := gNm 5) (s_ift (e_tru (e_bin (e_var rfl) (e_var rfl) notIn_r) (tru_bl (by rw [decide_eq_false hk]; rfl))) (s_ex (e_bm (e_var rfl) (isLst_at hn) (e_cons (e_bin (e_var rfl) (e_ap (e_cons (e_var rfl) e_nil) (lstf (ps := [pN k]) (by simp))) (add_r (by omega))) e_nil) ap))) ?_⟩
      have e : acc ++ (((k :: l).filter fun k => decide (k ∉ r)).map fun k => r ++ [k]) = acc ++ [r ++ [k]] ++ ((l.filter fun k => decide (k ∉ r)).map fun k => r ++ [k]) := by
        rw [List.filter_cons_of_pos (by simp [hk]), List.map_cons, List.append_assoc]; rfl
      rw [e]
      exact ih
theorem or_mid (m : Nat) (hm : m ≤ 10) (s1 s2 : Option D) (n : Nat) : ∀ (l acc : List (List Nat)) (st : Sr) (o4 o5 : Option D), st[n]? = some (.lst (acc.map pR)) → acc.length + 10 * l.length ≤ 100000 → (∀ r ∈ l, r.length ≤ 100) → ∃ o4' o5', loopD (gNm 4) b_l_orders_2 (l.map pR) [some (.fz (.int (m : Int))), s1, s2, some (.cell n), o4, o5] st = .ok (.nx, [some (.fz (.int (m : Int))), s1, s2, some (.cell n), o4', o5'], st.set n (.lst ((acc ++ l.flatMap (oex m)).map pR)))
  | [], acc, st, o4, o5, hn, _, _ => ⟨o4, o5, by rw [List.flatMap_nil, List.append_nil, set_same hn]; rfl⟩
  | r :: l, acc, st, o4, o5, hn, hl, hr => by
    have hnl : n < st.length := (List.getElem?_eq_some_iff.mp hn).1
    simp only [List.length_cons] at hl
    have hol : (oex m r).length ≤ m := by
      unfold oex
      rw [List.length_map]
      exact Nat.le_trans (List.length_filter_le _ _) (by simp)
    obtain ⟨o5', e1⟩ := or_in (some (.fz (.int (m : Int)))) s1 s2 n r (hr r List.mem_cons_self) (List.range m) acc st o5 hn (by simp; omega)
    have hn2 : (st.set n (.lst ((acc ++ oex m r).map pR)))[n]? = some (.lst ((acc ++ oex m r).map pR)) := List.getElem?_set_self hnl
    obtain ⟨p4, p5, ih⟩ := or_mid m hm s1 s2 n l (acc ++ oex m r) _ (some (.fz (pR r))) o5' hn2 (by rw [List.length_append]; omega) (fun x hx => hr x (List.mem_cons_of_mem _ hx))
    rw [List.set_set, List.append_assoc] at ih
    refine ⟨p4, p5, lp_cons (gg := gNm 4) (for_r1n (e_cons (e_var rfl) e_nil) (by omega) e1) ?_⟩
    rw [List.flatMap_cons]
    exact ih
theorem or_out (m : Nat) (hm : m ≤ 5) : ∀ (l : List P) (t : Nat) (st : Sr) (o2 o3 o4 o5 : Option D), t + l.length ≤ 5 → ∃ o2' o3' o4' o5' st', loopD (gNm 2) b_l_orders_1 l [some (.fz (.int (m : Int))), some (.fz (.lst ((olev m t).map pR))), o2, o3, o4, o5] st = .ok (.nx, [some (.fz (.int (m : Int))), some (.fz (.lst ((olev m (t + l.length)).map pR))), o2', o3', o4', o5'], st')
  | [], t, st, o2, o3, o4, o5, _ => ⟨o2, o3, o4, o5, st, rfl⟩
  | x :: l, t, st, o2, o3, o4, o5, hl => by
    simp only [List.length_cons] at hl
    have hlen := olev_len m t
    have hpow : m ^ t ≤ 5 ^ 5 := Nat.le_trans (Nat.pow_le_pow_left hm t) (Nat.pow_le_pow_right (by decide) (by omega))
    have hnew : (st ++ [Ct.lst (([] : List (List Nat)).map pR)])[st.length]? = some (.lst (([] : List (List Nat)).map pR)) := get_end
    obtain ⟨p4, p5, e1⟩ := or_mid m (by omega) (some (.fz (.lst ((olev m t).map pR)))) (some (.fz x)) st.length (olev m t) [] (st ++ [.lst []]) o4 o5 hnew (by simp; omega) (fun r hr => by rw [(olev_perm hr).2]; omega)
    rw [List.nil_append, show (olev m t).flatMap (oex m) = olev m (t + 1) from rfl] at e1
    have hset : (st ++ [Ct.lst []]).set st.length (.lst ((olev m (t + 1)).map pR)) = st ++ [.lst ((olev m (t + 1)).map pR)] := set_end
    rw [hset] at e1
    obtain ⟨o2', o3', o4', o5', st', ih⟩ := or_out m hm l (t + 1) (st ++ [.lst ((olev m (t + 1)).map pR)]) (some (.fz x)) (some (.cell st.length)) p4 p5 (by omega)
    rw [show t + 1 + l.length = t + (x :: l).length by simp; omega] at ih
    exact ⟨o2', o3', o4', o5', st', lp_cons (gg := gNm 2) (s_seq (s_set (i := 3) (e_ap e_nil (lstO_fz (ps := []) (by decide)))) (s_seq (s_forL (e_var rfl) rfl rfl e1) (s_set (i := 1) (e_ap (e_cons (e_var rfl) e_nil) (listf (IsL.cell get_end)))))) ih⟩
theorem ords_ok (m : Nat) (hm : m ≤ 5) : F_l_orders [.fz (.int (m : Int))] [] = .ok (.fz (.lst ((olev m m).map pR)), []) := by
  obtain ⟨o2, o3, o4, o5, st', e⟩ := or_out m hm ((List.range m).map fun k : Nat => P.int (k : Int)) 0 [] none none none none (by simp; omega)
  rw [show 0 + ((List.range m).map fun k : Nat => P.int (k : Int)).length = m by simp] at e
  exact run0 rfl (s_seq (s_set (i := 1) (e_ap (e_cons (e_ap e_nil (lstf (ps := []) (by decide))) e_nil) (lstf (ps := [.lst []]) (by simp)))) (s_seq (for_r1n (e_cons (e_var rfl) e_nil) (by omega) e) (s_ret (e_var rfl))))
/-! ### the words of all orders -/
abbrev pick (ps : List (List Int)) (r : List Nat) : List (List Int) := r.map fun k => ps.getD k []
theorem pick_all (ps : List (List Int)) : pick ps (List.range ps.length) = ps := by
  apply List.ext_getElem?
  intro i
  rw [List.getElem?_map]
  by_cases h : i < ps.length
  · rw [List.getElem?_range h]
    exact (getD_ok h).symm
  · rw [List.getElem?_eq_none (by simp; omega), List.getElem?_eq_none (by omega)]; rfl
theorem pick_perm {ps : List (List Int)} {r : List Nat} (h : r.Perm (List.range ps.length)) : (pick ps r).Perm ps := by
  have := h.map fun k => ps.getD k []
  rwa [show (List.range ps.length).map (fun k => ps.getD k []) = ps from pick_all ps] at this
theorem pick_ex (ps : List (List Int)) (e : Bool) (i j : Nat) : pick ps (exA e i j (rst (List.range ps.length) i j)) = exA e (ps.getD i []) (ps.getD j []) (rst ps i j) := by
  have hr : pick ps (rst (List.range ps.length) i j) = rst ps i j := by
    unfold rst pick
    rw [List.map_append, List.map_append, List.map_take, List.map_take, List.map_drop, List.map_drop, show (List.range ps.length).map (fun k => ps.getD k []) = ps from pick_all ps]
  cases e with
  | false =>
    show pick ps ([i, j] ++ rst (List.range ps.length) i j) = [ps.getD i [], ps.getD j []] ++ rst ps i j
    unfold pick at hr ⊢
    rw [List.map_append, hr]; rfl
  | true =>
    show pick ps (rst (List.range ps.length) i j ++ [i, j]) = rst ps i j ++ [ps.getD i [], ps.getD j []]
    unfold pick at hr ⊢
    rw [List.map_append, hr]; rfl
abbrev wsO (ps : List (List Int)) (a b : List Int) : List (List Int) := (olev ps.length ps.length).map fun r => W2 a (pick ps r) b
section
variable {f : List Int → List Int} {tw : Tw4} (T : Kd.Tw f tw) {ps : List (List Int)} {a b : List Int} (h : Ord ps a b)
include T h
theorem ws_same (hf : frB tw ps a b = true) : ∀ w ∈ wsO ps a b, f w = f (W2 a ps b) := fun w hw => by
  obtain ⟨r, hr, rfl⟩ := List.mem_map.mp hw
  have hp := (pick_perm (olev_all hr)).symm
  have := Kd.perm_one T (a := a) (b := b) hp [] [] (fun p hp => okP_ne (h.ok p hp)) (frR_none.mp (Option.isNone_iff_eq_none.mp hf))
  simp only [List.append_nil] at this
  exact this.symm
theorem ws_diff (hf : frB tw ps a b = false) : ∃ x ∈ wsO ps a b, ∃ y ∈ wsO ps a b, f x ≠ f y := by
  rw [← srch_fr T h] at hf
  have hs : ¬ srch f ps a b = none := fun e => by rw [e] at hf; cases hf
  rw [srch_none] at hs
  simp only [Classical.not_forall] at hs
  obtain ⟨e, i, j, hij, hj, hc⟩ := hs
  have hi : i < ps.length := by omega
  have g1 : (List.range ps.length)[i]? = some i := List.getElem?_range hi
  have g2 : (List.range ps.length)[j]? = some j := List.getElem?_range hj
  obtain ⟨p1, p2⟩ := ex_perm g1 g2 hij e
  refine ⟨_, List.mem_map.mpr ⟨_, perm_olev p1, rfl⟩, _, List.mem_map.mpr ⟨_, perm_olev p2, rfl⟩, fun e0 => hc ?_⟩
  have e2 : pick ps (exA e j i (rst (List.range ps.length) i j)) = exA e (ps.getD j []) (ps.getD i []) (rst ps i j) := by
    have hr : pick ps (rst (List.range ps.length) i j) = rst ps i j := by
      unfold rst pick
      rw [List.map_append, List.map_append, List.map_take, List.map_take, List.map_drop, List.map_drop, show (List.range ps.length).map (fun k => ps.getD k []) = ps from pick_all ps]
    cases e with
    | false =>
      show pick ps ([j, i] ++ rst (List.range ps.length) i j) = [ps.getD j [], ps.getD i []] ++ rst ps i j
      unfold pick at hr ⊢
      rw [List.map_append, hr]; rfl
    | true =>
      show pick ps (rst (List.range ps.length) i j ++ [j, i]) = rst ps i j ++ [ps.getD j [], ps.getD i []]
      unfold pick at hr ⊢
      rw [List.map_append, hr]; rfl
  unfold cnd
  rw [pick_ex, e2] at e0
  exact if_pos e0
theorem ws_len : ∀ w ∈ wsO ps a b, w.length ≤ 100 := fun w hw => by
  obtain ⟨r, hr, rfl⟩ := List.mem_map.mp hw
  have := (ex_len (pick_perm (olev_all hr))).1
  have h1 := fl_len h.ok
  have h2 := h.len
  have h3 := h.la
  have h4 := h.lb
  unfold W2
  rw [List.length_append, List.length_append]; omega
end
end G

end
section
set_option Elab.async false
set_option linter.all false
set_option maxRecDepth 100000
set_option maxHeartbeats 0
namespace G
open PySem L2 M
/-! # Good; the law -/
section
variable {k : Str} {f : List Int → List Int} {tw : Tw4} (o : TK k f tw) {ps : List (List Int)} {a b : List Int} (h : Ord ps a b)
include o h
theorem good_ok {form : Int} (hf : fits form a b) {ws : List (List Int)} (hw : ws = [] ∨ ws = wsO ps a b ∧ ps.length ≤ 5) {rs : List (List (List Int))} (hrs : ∀ r ∈ rs, Ord r a b) (hrl : rs.length ≤ 100) {d : D} {pre post : Sr} (hd : Ls (rs.map pws) d pre post) :
    F_l_good [.fz (.int form), .fz (.str k), .fz (pws ps), .fz (pw a), .fz (pw b), .fz (pws ws), d] pre = .ok (.fz (.bl true), post) := by
  obtain ⟨c, op⟩ := o.pl
  have lw : ∀ w ∈ ws, w.length ≤ 100 := by
    rcases hw with rfl | ⟨rfl, _⟩
    · intro w hw; cases hw
    · exact ws_len o.T h
  have hwl : ws.length ≤ 4000 := by
    rcases hw with rfl | ⟨rfl, h5⟩
    · simp
    · rw [List.length_map]
      have h1 := olev_len ps.length ps.length
      have h2 : ps.length ^ ps.length ≤ 5 ^ 5 := Nat.le_trans (Nat.pow_le_pow_left h5 _) (Nat.pow_le_pow_right (by decide) h5)
      omega
  have p1 : ∀ {η : Et} {st : Sr}, η.length = 12 → η[1]? = some (some (.fz (.str k))) → lcD 9 dYes (dCall F_l_plain (dCons (dVar 1) (dCons (dVar 9) (dNil)))) η (ws.map pw) [] st = .ok ((ws.map f).map pw, st) := fun {η st} hl h0 => by
    have := lc_map (i := 9) (fe := dCall F_l_plain (dCons (dVar 1) (dCons (dVar 9) (dNil)))) (η := η) (st := st) (g := fun w : List Int => pw (f w)) (h := pw) ws [] (fun w hw => e_call (e_cons (e_var (by rw [List.getElem?_set_ne (by decide)]; exact h0)) (e_cons (e_var (List.getElem?_set_self (by omega))) e_nil)) (lp_c op (by have := lw w hw; omega))) (by simp only [List.length_nil]; omega)
    rw [List.nil_append] at this
    rw [this, List.map_map]; rfl
  have p3 : ∀ {η : Et} {st : Sr}, η.length = 12 → η[0]? = some (some (.fz (.int form))) → η[1]? = some (some (.fz (.str k))) → η[3]? = some (some (.fz (pw a))) → η[4]? = some (some (.fz (pw b))) → lcD 10 dYes (dCall F_l_asked (dCons (dVar 0) (dCons (dVar 1) (dCons (dVar 10) (dCons (dVar 3) (dCons (dVar 4) (dNil))))))) η (rs.map pws) [] st = .ok ((rs.map fun _ => true).map P.bl, st) := fun {η st} hl h0 h1 h3 h4 => by
    have := lc_map (i := 10) (fe := dCall F_l_asked (dCons (dVar 0) (dCons (dVar 1) (dCons (dVar 10) (dCons (dVar 3) (dCons (dVar 4) (dNil))))))) (η := η) (st := st) (g := fun _ : List (List Int) => P.bl true) (h := pws) rs [] (fun r hr => e_call (e_cons (e_var (by rw [List.getElem?_set_ne (by decide)]; exact h0)) (e_cons (e_var (by rw [List.getElem?_set_ne (by decide)]; exact h1)) (e_cons (e_var (List.getElem?_set_self (by omega))) (e_cons (e_var (by rw [List.getElem?_set_ne (by decide)]; exact h3)) (e_cons (e_var (by rw [List.getElem?_set_ne (by decide)]; exact h4)) e_nil))))) (callF_fz (F := F_l_asked) (ps := [.int form, .str k, pws r, pw a, pw b]) (asked_ok o (hrs r hr) hf))) (by simp only [List.length_nil]; omega)
    rw [List.nil_append] at this
    rw [this, List.map_map]; rfl
  have hfr := free_ok o h
  have htw := twos_ok o h
  have hcall : ∀ {η : Et} {st : Sr}, callF F_l_free [.fz (.str k), .fz (pws ps), .fz (pw a), .fz (pw b)] η st = .ok (.fz (.bl (frB tw ps a b)), st) := callF_fz (F := F_l_free) (ps := [.str k, pws ps, pw a, pw b]) hfr
  have tst : dAnd (dTru (dBin gtO (dAp lenO (dCons (dVar 8) (dNil))) (dK (.int 0)))) (dTru (dBin neO (dAp allO (dCons (dLcLZ (dVar 8) 11 (dYes) (dBin eqO (dVar 11) (dBin ixO (dVar 8) (dK (.int 0))))) (dNil))) (dVar 7))) [some (.fz (.int form)), some (.fz (.str k)), some (.fz (pws ps)), some (.fz (pw a)), some (.fz (pw b)), some (.fz (pws ws)), some d, some (.fz (.bl (frB tw ps a b))), some (.fz (pws (ws.map f))), none, none, none] pre = .ok (false, pre) := by
    rcases hw with rfl | ⟨rfl, h5⟩
    · exact e_and_f (t_gt (e_ap (e_cons (e_var rfl) e_nil) len_ps) e_k rfl)
    · have hne : wsO ps a b ≠ [] := by
        have : (List.range ps.length) ∈ olev ps.length ps.length := perm_olev (List.Perm.refl _)
        intro e
        have hm : W2 a (pick ps (List.range ps.length)) b ∈ wsO ps a b := List.mem_map.mpr ⟨_, this, rfl⟩
        rw [e] at hm; cases hm
      obtain ⟨x0, hx0⟩ : ∃ x0, ((wsO ps a b).map f)[0]? = some x0 := by
        cases hq : wsO ps a b with
        | nil => exact absurd hq hne
        | cons w r => exact ⟨f w, rfl⟩
      have p2 := lc_map (i := 11) (fe := dBin eqO (dVar 11) (dBin ixO (dVar 8) (dK (.int 0)))) (η := [some (.fz (.int form)), some (.fz (.str k)), some (.fz (pws ps)), some (.fz (pw a)), some (.fz (pw b)), some (.fz (pws (wsO ps a b))), some d, some (.fz (.bl (frB tw ps a b))), some (.fz (pws ((wsO ps a b).map f))), none, none, none]) (st := pre) (g := fun x : List Int => P.bl (decide (x = x0))) (h := pw) ((wsO ps a b).map f) [] (fun w hw => e_bin (e_var rfl) (e_bin (e_var rfl) e_k (ix_ps (z := 0) (by decide) hx0)) eqO_w) (by simp only [List.length_nil]; rw [List.length_map (f := f)]; omega)
      rw [List.nil_append] at p2
      have e2 : ((wsO ps a b).map f).map (fun x : List Int => P.bl (decide (x = x0))) = (((wsO ps a b).map f).map fun x => decide (x = x0)).map P.bl := by rw [List.map_map (f := fun x => decide (x = x0))]; rfl
      rw [e2] at p2
      have hall : (((wsO ps a b).map f).map fun x => decide (x = x0)).all id = frB tw ps a b := by
        rw [Bool.eq_iff_iff, List.all_map, List.all_eq_true]
        constructor
        · intro hall
          cases hb : frB tw ps a b with
          | true => rfl
          | false =>
            exfalso
            obtain ⟨x, hx, y, hy, hxy⟩ := ws_diff o.T h hb
            have e1 := hall _ (List.mem_map.mpr ⟨_, hx, rfl⟩)
            have e2 := hall _ (List.mem_map.mpr ⟨_, hy, rfl⟩)
            simp only [Function.comp_apply, id_eq, decide_eq_true_eq] at e1 e2
            exact hxy (e1.trans e2.symm)
        · intro hb x hx
          have hs := ws_same o.T h hb
          obtain ⟨w, hw, rfl⟩ := List.mem_map.mp hx
          have h0 : x0 ∈ (wsO ps a b).map f := List.mem_of_getElem? hx0
          obtain ⟨w0, hw0, rfl⟩ := List.mem_map.mp h0
          simp only [Function.comp_apply, id_eq, decide_eq_true_eq]
          rw [hs w hw, hs w0 hw0]
      have hpos : 0 < (wsO ps a b).length := List.length_pos_iff.mpr hne
      refine e_and_t (t_gt (e_ap (e_cons (e_var rfl) e_nil) len_ps) e_k (decide_eq_true (by rw [List.length_map (f := f)]; omega))) (e_tru (e_bin (e_ap (e_cons (e_lcLZ (e_var rfl) rfl rfl p2) e_nil) (all_bl _ IsL.fz)) (e_var rfl) M.ne_bl) (tru_bl ?_))
      rw [hall]; simp
  have hal : ∀ {st : Sr}, allO [.fz (.lst ((rs.map fun _ => true).map P.bl))] st = .ok (.fz (.bl true), st) := fun {st} => by
    have := all_bl (rs.map fun _ => true) (st := st) (d := .fz (.lst ((rs.map fun _ => true).map P.bl))) IsL.fz
    rw [this]
    have e : (rs.map fun _ => true).all id = true := by simp
    rw [e]
  refine run_ls hd rfl (.inr rfl) (more := []) (η' := [some (.fz (.int form)), some (.fz (.str k)), some (.fz (pws ps)), some (.fz (pw a)), some (.fz (pw b)), some (.fz (pws ws)), some d, some (.fz (.bl (frB tw ps a b))), some (.fz (pws (ws.map f))), none, none, none]) ?_
  rw [List.append_nil]
  exact s_seq (s_set (i := 7) (e_call (e_cons (e_var rfl) (e_cons (e_var rfl) (e_cons (e_var rfl) (e_cons (e_var rfl) e_nil)))) hcall)) (s_seq (s_set (i := 8) (e_lcLZ (e_var rfl) rfl rfl (p1 rfl rfl))) (s_seq (s_iff tst s_skip) (s_seq (s_iff (not_f (x := true) (e_tru (e_ap (e_cons (e_lcLZ (e_var rfl) hd.to rfl (p3 rfl rfl rfl rfl rfl)) e_nil) hal) rfl)) s_skip) (s_ret ((e_bin (e_call (e_cons (e_var rfl) (e_cons (e_var rfl) (e_cons (e_var rfl) (e_cons (e_var rfl) e_nil)))) (callF_fz (F := F_l_twos) (ps := [.str k, pws ps, pw a, pw b]) htw)) (e_var rfl) M.eq_bl).trans (by rw [beq_self_eq_true]))))))
end
structure Kok (k : Str) : Prop where
  ex : ∃ f tw, TK k f tw
theorem kok_all : ∀ k ∈ kinds, Kok k := by
  intro k hk
  simp only [kinds, List.mem_cons, List.not_mem_nil, or_false] at hk
  rcases hk with rfl | rfl | rfl | rfl | rfl | rfl | rfl | rfl
  · exact ⟨_, _, tk_list⟩
  · exact ⟨_, _, tk_bag⟩
  · exact ⟨_, _, tk_set⟩
  · exact ⟨_, _, tk_first⟩
  · exact ⟨_, _, tk_last⟩
  · exact ⟨_, _, tk_ends⟩
  · exact ⟨_, _, tk_heads⟩
  · exact ⟨_, _, tk_tails⟩
abbrev lawE (s0 s2 s3 : Option D) (ps : List (List Int)) (a b : List Int) (form : Int) (s8 : Option D) (ws : List (List Int)) (s10 o12 : Option D) : Et := [s0, some (.cell 0), s2, s3, some (.fz (pws ps)), some (.fz (pw a)), some (.fz (pw b)), some (.fz (.int form)), s8, some (.fz (pws ws)), s10, some (.cell 1), o12, none, none]
theorem kind_loop {ps : List (List Int)} {a b : List Int} (h : Ord ps a b) {form : Int} (hf : fits form a b) {ws : List (List Int)} (hw : ws = [] ∨ ws = wsO ps a b ∧ ps.length ≤ 5) {rs : List (List (List Int))} (hrs : ∀ r ∈ rs, Ord r a b) (hrl : rs.length ≤ 100) (s0 s2 s3 s8 s10 : Option D) (c0 : Ct) : ∀ (ks : List Str) (c1 : Ct) (o12 : Option D), (∀ k ∈ ks, Kok k) → (c1 = .lst (rs.map pws) ∨ c1 = .frz (.lst (rs.map pws))) → ∃ o12' c1',
    loopD (gNm 12) b_law_1 (ks.map P.str) (lawE s0 s2 s3 ps a b form s8 ws s10 o12) [c0, c1] = .ok (.nx, lawE s0 s2 s3 ps a b form s8 ws s10 o12', [c0, c1'])
  | [], c1, o12, _, _ => ⟨o12, c1, rfl⟩
  | k :: ks, c1, o12, hk, hc => by
    obtain ⟨f, tw, o⟩ := (hk k List.mem_cons_self).ex
    obtain ⟨p12, c1', ih⟩ := kind_loop h hf hw hrs hrl s0 s2 s3 s8 s10 c0 ks (.frz (.lst (rs.map pws))) (some (.fz (.str k))) (fun k h => hk k (List.mem_cons_of_mem _ h)) (.inr rfl)
    have hls : LsS (rs.map pws) [c0, c1] (.cell 1) [c0, .frz (.lst (rs.map pws))] := by
      rcases hc with rfl | rfl
      · exact LsS.cell (n := 1) rfl
      · exact LsS.frz (n := 1) rfl
    exact ⟨p12, c1', lp_cons (gg := gNm 12) (s_iff (not_f (x := true) (e_tru (e_call (e_cons (e_var rfl) (e_cons (e_var rfl) (e_cons (e_var rfl) (e_cons (e_var rfl) (e_cons (e_var rfl) (e_cons (e_var rfl) (e_cons (e_var rfl) e_nil))))))) (c_ls (F := F_l_good) (as := [.int form, .str k, pws ps, pw a, pw b, pws ws]) (bs := []) (fun hd => good_ok o h hf hw hrs hrl hd) hls)) rfl)) s_skip) ih⟩
theorem stream_c {ns ys : List Int} {η : Et} (h : F_l_stream [.fz (.rol (ns.map P.int))] [] = .ok (.cell 0, [.lst (List.map P.int ys)])) : callF F_l_stream [.fz (.rol (ns.map P.int))] η [] = .ok (.cell 0, [.lst (List.map P.int ys)]) :=
  callF_new (F := F_l_stream) (ps := [.rol (ns.map P.int)]) (ct := .lst (ys.map P.int)) (st := []) h rfl
theorem draw_e {η : Et} {xs : List Int} {m : Int} {i : Nat} {rest : Sr} (hm : 0 < m) (hi : η[i]? = some (some (.cell 0))) : dCall F_l_draw (dCons (dVar i) (dCons (dK (.int m)) (dNil))) η (stm xs :: rest) = .ok (.fz (.int (drawV xs m)), stm (drawS xs) :: rest) :=
  e_call (e_cons (e_var hi) (e_cons e_k e_nil)) (c_draw xs hm)
theorem pure_ok : Pure := by
  intro ns h1 h2
  obtain ⟨x0, hs⟩ := stream_ex ns
  generalize hsty : drawV x0 6 = sty
  generalize hx1 : drawS x0 = x1
  have d10 := drawV_bd (xs := x1) (show (0 : Int) < 10 by decide)
  obtain ⟨nn, hnm, hni⟩ := pickI [1, 2, 2, 3, 3, 3, 4, 4, 5, 12] d10.1 d10.2
  obtain ⟨n, rfl, hn1, hn12⟩ : ∃ n : Nat, nn = (n : Int) ∧ 1 ≤ n ∧ n ≤ 12 := by
    simp at hnm
    exact ⟨nn.toNat, by omega, by omega, by omega⟩
  generalize hx2 : drawS x1 = x2
  obtain ⟨ps, x3, ⟨hpl, hpo⟩, hdr⟩ := drawn_ex x2 sty (n : Int) (by omega) (by omega)
  rw [Int.toNat_natCast] at hpl
  obtain ⟨a0, x4, ha0, hea⟩ := around_ex x3 sty
  obtain ⟨b0, x5, hb0, heb⟩ := around_ex x4 sty
  have d4 := drawV_bd (xs := x5) (show (0 : Int) < 4 by decide)
  generalize hform : drawV x5 4 = form at d4
  generalize hx6 : drawS x5 = x6
  have hc1 : ∃ a : List Int, a.length ≤ 2 ∧ (form = 2 → a = []) ∧ (form = 3 → a = []) ∧ ∀ (st : Sr) (s0 s1 s2 s3 s4 s6 : Option D), dIf (dTru (dBin gtO (dVar 7) (dK (.int 1)))) (dAsg (dAp tupO (dNil)) (gNm 5)) (dSkip) [s0, s1, s2, s3, s4, some (.fz (pw a0)), s6, some (.fz (.int form)), none, none, none, none, none, none, none] st = .ok (.nx, [s0, s1, s2, s3, s4, some (.fz (pw a)), s6, some (.fz (.int form)), none, none, none, none, none, none, none], st) := by
    by_cases h : 1 < form
    · exact ⟨[], by simp, fun _ => rfl, fun _ => rfl, fun st s0 s1 s2 s3 s4 s6 => s_ift (t_gt (e_var rfl) e_k (decide_eq_true h)) (s_set (i := 5) (e_ap e_nil (tupO_fz (ps := []) (by simp))))⟩
    · exact ⟨a0, ha0, fun q => by omega, fun q => by omega, fun st s0 s1 s2 s3 s4 s6 => s_iff (t_gt (e_var rfl) e_k (decide_eq_false h)) s_skip⟩
  obtain ⟨a, hla, ha2, ha3, hc1⟩ := hc1
  have hc2 : ∃ b : List Int, b.length ≤ 2 ∧ (form = 1 → b = []) ∧ (form = 3 → b = []) ∧ ∀ (st : Sr) (s0 s1 s2 s3 s4 s5 : Option D), dIf (dOr (dTru (dBin eqO (dVar 7) (dK (.int 1)))) (dTru (dBin eqO (dVar 7) (dK (.int 3))))) (dAsg (dAp tupO (dNil)) (gNm 6)) (dSkip) [s0, s1, s2, s3, s4, s5, some (.fz (pw b0)), some (.fz (.int form)), none, none, none, none, none, none, none] st = .ok (.nx, [s0, s1, s2, s3, s4, s5, some (.fz (pw b)), some (.fz (.int form)), none, none, none, none, none, none, none], st) := by
    by_cases h : form = 1
    · exact ⟨[], by simp, fun _ => rfl, fun _ => rfl, fun st s0 s1 s2 s3 s4 s5 => s_ift (e_or_t (t_eq (e_var rfl) e_k (decide_eq_true h))) (s_set (i := 6) (e_ap e_nil (tupO_fz (ps := []) (by simp))))⟩
    by_cases h3 : form = 3
    · exact ⟨[], by simp, fun _ => rfl, fun _ => rfl, fun st s0 s1 s2 s3 s4 s5 => s_ift (e_or_f (t_eq (e_var rfl) e_k (decide_eq_false h)) (t_eq (e_var rfl) e_k (decide_eq_true h3))) (s_set (i := 6) (e_ap e_nil (tupO_fz (ps := []) (by simp))))⟩
    · exact ⟨b0, hb0, fun q => absurd q h, fun q => absurd q h3, fun st s0 s1 s2 s3 s4 s5 => s_iff (e_or_f (t_eq (e_var rfl) e_k (decide_eq_false h)) (t_eq (e_var rfl) e_k (decide_eq_false h3))) s_skip⟩
  obtain ⟨b, hlb, hb1, hb3, hc2⟩ := hc2
  have hfit : fits form a b := ⟨hb1, ha2, fun h => ⟨ha3 h, hb3 h⟩⟩
  have ord : Ord ps a b := ⟨hpo, by omega, hla, hlb⟩
  have hfl := fl_len hpo
  have hc3 : ∃ (x7 : List Int) (ks : List Str) (ws : List (List Int)), (∀ k ∈ ks, Kok k) ∧ (ws = [] ∨ ws = wsO ps a b ∧ ps.length ≤ 5) ∧ ∀ (s0 s2 : Option D), dIf (dTru (dBin gtO (dVar 3) (dK (.int 5)))) (dAsg (dAp tupO (dCons (dBin ixO (dVar 8) (dCall F_l_draw (dCons (dVar 1) (dCons (dK (.int 8)) (dNil))))) (dNil))) (gNm 8)) (dAsg (dLcLZ (dCall F_l_orders (dCons (dVar 3) (dNil))) 13 (dYes) (dBin addF (dBin addF (dVar 5) (dCall F_l_joined (dCons (dLcLZ (dVar 13) 14 (dYes) (dBin ixO (dVar 4) (dVar 14))) (dNil)))) (dVar 6))) (gNm 9)) [s0, some (.cell 0), s2, some (.fz (.int (n : Int))), some (.fz (pws ps)), some (.fz (pw a)), some (.fz (pw b)), some (.fz (.int form)), some (.fz (.tup (kinds.map P.str))), some (.fz (.lst [])), none, none, none, none, none] [stm x6] = .ok (.nx, [s0, some (.cell 0), s2, some (.fz (.int (n : Int))), some (.fz (pws ps)), some (.fz (pw a)), some (.fz (pw b)), some (.fz (.int form)), some (.fz (.tup (ks.map P.str))), some (.fz (pws ws)), none, none, none, none, none], [stm x7]) := by
    by_cases h5 : (5 : Int) < (n : Int)
    · have d8 := drawV_bd (xs := x6) (show (0 : Int) < 8 by decide)
      have hkl : (drawV x6 8).toNat < kinds.length := by show _ < 8; omega
      refine ⟨drawS x6, [kinds[(drawV x6 8).toNat]], [], fun k hk => ?_, .inl rfl, fun s0 s2 => s_ift (t_gt (e_var rfl) e_k (decide_eq_true h5)) (s_set (i := 8) (e_ap (e_cons (e_bin (e_var rfl) (draw_e (by decide) rfl) (ixt (p := .str kinds[(drawV x6 8).toNat]) d8.1 (by rw [List.getElem?_map, List.getElem?_eq_getElem hkl]; rfl))) e_nil) (tupO_fz (ps := [.str kinds[(drawV x6 8).toNat]]) (by simp))))⟩
      simp only [List.mem_singleton] at hk
      subst hk
      exact kok_all _ (List.getElem_mem hkl)
    · have h5' : n ≤ 5 := by omega
      refine ⟨x6, kinds, wsO ps a b, kok_all, .inr ⟨rfl, by omega⟩, fun s0 s2 => ?_⟩
      have hlv := olev_len n n
      have hpw : n ^ n ≤ 5 ^ 5 := Nat.le_trans (Nat.pow_le_pow_left h5' _) (Nat.pow_le_pow_right (by decide) h5')
      have inn : ∀ {η : Et} {st : Sr} {r : List Nat}, η.length = 15 → η[4]? = some (some (.fz (pws ps))) → (∀ k ∈ r, k < n) → r.length ≤ 10 → lcD 14 dYes (dBin ixO (dVar 4) (dVar 14)) η (r.map pN) [] st = .ok ((pick ps r).map pw, st) := fun {η st r} hl h4 hr hrl => by
        have := lc_map (i := 14) (fe := dBin ixO (dVar 4) (dVar 14)) (η := η) (st := st) (g := fun k : Nat => pw (ps.getD k [])) (h := pN) r [] (fun k hk => e_bin (e_var (by rw [List.getElem?_set_ne (by decide)]; exact h4)) (e_var (List.getElem?_set_self (by omega))) (ix_ps (by omega) (getZ (getD_ok (by have := hr k hk; omega))))) (by simp only [List.length_nil]; omega)
        rw [List.nil_append] at this
        rw [this, List.map_map]; rfl
      have out := lc_map (i := 13) (fe := dBin addF (dBin addF (dVar 5) (dCall F_l_joined (dCons (dLcLZ (dVar 13) 14 (dYes) (dBin ixO (dVar 4) (dVar 14))) (dNil)))) (dVar 6)) (η := [s0, some (.cell 0), s2, some (.fz (.int (n : Int))), some (.fz (pws ps)), some (.fz (pw a)), some (.fz (pw b)), some (.fz (.int form)), some (.fz (.tup (kinds.map P.str))), some (.fz (.lst [])), none, none, none, none, none]) (st := [stm x6]) (g := fun r : List Nat => pw (W2 a (pick ps r) b)) (h := pR) (olev n n) [] (fun r hr => by
        have hp := olev_all hr
        have hlen := (olev_perm hr).2
        have hfl2 := (ex_len (pick_perm (ps := ps) (r := r) (by rw [hpl]; exact hp))).1
        exact e_bin (e_bin (e_var rfl) (e_call (e_cons (e_lcLZ (e_var rfl) rfl rfl (inn (r := r) rfl rfl (fun k hk => List.mem_range.mp (hp.mem_iff.mp hk)) (by omega))) e_nil) (callF_fz (F := F_l_joined) (ps := [pws (pick ps r)]) (joined_ok .fz (by omega)))) (addwF (by omega))) (e_var rfl) (addwF (by rw [List.length_append]; omega))) (by simp only [List.length_nil]; omega)
      rw [List.nil_append] at out
      have e9 : (olev n n).map (fun r : List Nat => pw (W2 a (pick ps r) b)) = (wsO ps a b).map pw := by unfold wsO; rw [hpl, List.map_map]; rfl
      rw [e9] at out
      exact s_iff (t_gt (e_var rfl) e_k (decide_eq_false h5)) (s_set (i := 9) (e_lcLZ (e_call (e_cons (e_var rfl) e_nil) (callF_fz (F := F_l_orders) (ps := [.int (n : Int)]) (ords_ok n h5'))) rfl rfl out))
  obtain ⟨x7, ks, ws, hks, hws, hc3⟩ := hc3
  have dn := drawV_bd (xs := x7) (show (0 : Int) < (n : Int) by omega)
  generalize hgo : drawV x7 (n : Int) = go at dn
  generalize hx8 : drawS x7 = x8
  have okt : ∀ m, okPs (ps.take m) := fun m p hp => hpo p (List.mem_of_mem_take hp)
  have okd : ∀ m, okPs (ps.drop m) := fun m p hp => hpo p (List.mem_of_mem_drop hp)
  have ord2 : Ord (ps.drop (1 : Int).toNat ++ ps.take (1 : Int).toNat) a b := ⟨fun p hp => by
    rcases List.mem_append.mp hp with g | g
    · exact okd _ p g
    · exact okt _ p g, by rw [List.length_append, List.length_take, List.length_drop]; omega, hla, hlb⟩
  have ord3 : Ord (ps.take go.toNat ++ ps.drop (go + 1).toNat) a b := ⟨fun p hp => by
    rcases List.mem_append.mp hp with g | g
    · exact okt _ p g
    · exact okd _ p g, by rw [List.length_append, List.length_take, List.length_drop]; omega, hla, hlb⟩
  have hc4 : ∃ rs : List (List (List Int)), (∀ r ∈ rs, Ord r a b) ∧ rs.length ≤ 100 ∧ ∀ (s0 s2 s8 : Option D), dIf (dTru (dBin gtO (dVar 3) (dK (.int 1)))) (dEx (dBM isLst appendO (dVar 11) (dCons (dBin addF (dSlF (dVar 4) (dNoPart) (dPart (dVar 10))) (dSlF (dVar 4) (dPart (dBin addF (dVar 10) (dK (.int 1)))) (dNoPart))) (dNil)))) (dSkip) (lawE s0 s2 (some (.fz (.int (n : Int)))) ps a b form s8 ws (some (.fz (.int go))) none) [stm x8, .lst [pws ps, pws (ps.drop (1 : Int).toNat ++ ps.take (1 : Int).toNat)]] = .ok (.nx, lawE s0 s2 (some (.fz (.int (n : Int)))) ps a b form s8 ws (some (.fz (.int go))) none, [stm x8, .lst (rs.map pws)]) := by
    by_cases hn : (1 : Int) < (n : Int)
    · refine ⟨[ps, ps.drop (1 : Int).toNat ++ ps.take (1 : Int).toNat, ps.take go.toNat ++ ps.drop (go + 1).toNat], fun r hr => ?_, by simp, fun s0 s2 s8 => s_ift (t_gt (e_var rfl) e_k (decide_eq_true hn)) (s_ex (e_bm (e_var rfl) rfl (e_cons (e_bin (e_slF (e_var rfl) e_nopart (e_part (e_var rfl)) (take_ps (by omega))) (e_slF (e_var rfl) (e_part (e_bin (e_var rfl) e_k add_intF)) e_nopart (drop_ps (by omega))) (add_ps (by rw [List.length_take, List.length_drop]; omega))) e_nil) (append_at (n := 1) (xs := [pws ps, pws (ps.drop (1 : Int).toNat ++ ps.take (1 : Int).toNat)]) rfl (by simp))))⟩
      simp only [List.mem_cons, List.not_mem_nil, or_false] at hr
      rcases hr with rfl | rfl | rfl
      · exact ord
      · exact ord2
      · exact ord3
    · refine ⟨[ps, ps.drop (1 : Int).toNat ++ ps.take (1 : Int).toNat], fun r hr => ?_, by simp, fun s0 s2 s8 => s_iff (t_gt (e_var rfl) e_k (decide_eq_false hn)) s_skip⟩
      simp only [List.mem_cons, List.not_mem_nil, or_false] at hr
      rcases hr with rfl | rfl
      · exact ord
      · exact ord2
  obtain ⟨rs, hrs, hrl, hc4⟩ := hc4
  obtain ⟨p12, c1, hk⟩ := kind_loop ord hfit hws hrs hrl (some (.fz (.rol (ns.map P.int)))) (some (.fz (.int sty))) (some (.fz (.int (n : Int)))) (some (.fz (.tup (ks.map P.str)))) (some (.fz (.int go))) (stm x8) ks (.lst (rs.map pws)) none hks (.inl rfl)
  have d7 := drawV_bd (xs := x8) (show (0 : Int) < 7 by decide)
  obtain ⟨q, hq, hqi⟩ := pickP badsL d7.1 d7.2
  refine ⟨[], run0e rfl ?_⟩
  apply Exists.intro
  apply Exists.intro
  refine s_seq (s_set (i := 1) (e_call (e_cons (e_var rfl) e_nil) (stream_c hs))) ?_
  refine s_seq (s_set (i := 2) (draw_e (by decide) rfl)) ?_
  rw [hx1, hsty]
  refine s_seq (s_set (i := 3) (e_bin (e_ap (e_cons e_k (e_cons e_k (e_cons e_k (e_cons e_k (e_cons e_k (e_cons e_k (e_cons e_k (e_cons e_k (e_cons e_k (e_cons e_k e_nil)))))))))) (lstf (ps := [1, 2, 2, 3, 3, 3, 4, 4, 5, 12].map P.int) (by simp))) (draw_e (by decide) rfl) (ixl IsL.fz d10.1 hni))) ?_
  rw [hx2]
  refine s_seq (s_set (i := 4) (e_call (e_cons (e_var rfl) (e_cons (e_var rfl) (e_cons (e_var rfl) e_nil))) (c_one (F := F_l_drawn) (as := [.int (n : Int), .int sty]) hdr))) ?_
  refine s_seq (s_set (i := 5) (e_call (e_cons (e_var rfl) (e_cons (e_var rfl) e_nil)) (c_one (F := F_l_around) (as := [.int sty]) hea))) ?_
  refine s_seq (s_set (i := 6) (e_call (e_cons (e_var rfl) (e_cons (e_var rfl) e_nil)) (c_one (F := F_l_around) (as := [.int sty]) heb))) ?_
  refine s_seq (s_set (i := 7) (draw_e (by decide) rfl)) ?_
  rw [hform, hx6]
  refine s_seq (hc1 _ _ _ _ _ _ _) ?_
  refine s_seq (hc2 _ _ _ _ _ _ _) ?_
  refine s_seq (s_set (i := 8) (e_ap (e_cons e_k (e_cons e_k (e_cons e_k (e_cons e_k (e_cons e_k (e_cons e_k (e_cons e_k (e_cons e_k e_nil)))))))) (tupO_fz (ps := kinds.map P.str) (by simp [kinds])))) ?_
  refine s_seq (s_set (i := 9) (e_ap e_nil (lstf (ps := []) (by simp)))) ?_
  refine s_seq (hc3 _ _) ?_
  refine s_seq (s_set (i := 10) (e_call (e_cons (e_var rfl) (e_cons (e_var rfl) e_nil)) (c_draw x7 (by omega)))) ?_
  rw [hgo, hx8]
  refine s_seq (s_set (i := 11) (e_ap (e_cons (e_var rfl) (e_cons (e_bin (e_slF (e_var rfl) (e_part e_k) e_nopart (drop_ps (by decide))) (e_slF (e_var rfl) e_nopart (e_part e_k) (take_ps (by decide))) (add_ps (by rw [List.length_take, List.length_drop]; omega))) e_nil)) (lstO_fz (ps := [pws ps, pws (ps.drop (1 : Int).toNat ++ ps.take (1 : Int).toNat)]) (by simp)))) ?_
  refine s_seq (hc4 _ _ _) ?_
  refine s_seq (s_forL (e_var rfl) rfl rfl hk) ?_
  exact s_ret (e_call (e_cons (e_bin (e_ap (e_cons e_k (e_cons e_k (e_cons e_k (e_cons e_k (e_cons e_k (e_cons e_k (e_cons e_k e_nil))))))) (lstf (ps := badsL) (by simp [badsL]))) (draw_e (by decide) rfl) (ixl IsL.fz d7.1 hqi)) (e_cons (e_var rfl) e_nil)) (callF_fz (F := F_l_refused) (ps := [q, pws ps]) (refused_ok hq ps)))
end G
set_option maxRecDepth 100000 in
set_option maxHeartbeats 0 in
theorem PySem.Challenge.cw_movedstates_k39_free_orders_exactly_holds : PySem.Challenge.rw_movedstates_k39_free_orders_exactly.Holds := by
  exact holds_of G.pure_ok

end

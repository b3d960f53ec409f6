import PyProof.Rows.All
import Wide.All
import OpenK.AllK
import Wide.FinOn
import HandS.ForMost
import HandS.Exc
import HandS.ExcOwn
import HandS.Wide
import PyProof.Rows.SeqMore
import HandS.Walk
import HandS.TryOnly
import HandS.Defaults
import HandS.ExcInit
import HandS.ExcField
import HandS.ExcIs
import HandS.More
import HandS.MakeKw
import HandS.Conv
import HandS.IsInst
import HandS.TupAny
import HandS.Small
import HandS.Text
import HandS.WordsDict
import HandS.OwnEq
import HandS.NamedTupSort
import PyProof.NeKinds
import PyProof.FactsAll.object_2
import HandS.Zip
import KE.GoesMore
import KE.GoesEnum
import KE.GoesZip
import HandS.MakeKwOnly
import HandS.WordsList
import HandS.SetFor
import PyProof.Rows.CountFlat
import KE.KStateDown
import HandS.Head0
import HandS.Head1
import HandS.Head2
import HandS.HeadEnd
import HandS.HeadHook1
import HandS.HeadHook2
import PySem.Challenge.RW_onetrain_k02_trees_refused
set_option Elab.async false
set_option linter.all false
set_option maxRecDepth 100000
set_option maxHeartbeats 0
/-! DL1: data without a heap. D: what a value is, as a tree; Rep: how the heap bears it; judgements over HandS whose readings speak of D alone. -/
namespace DL
open PySem PySem.Spec PyProof.Rows L2

/-- a value as data: immutable things as trees, a mutable object by its cell -/
inductive D where
  | non | bl (b : Bool) | int (i : Int) | str (s : Str)
  | tup (xs : List D) | lst (xs : List D) | ins (c : Nat) (fs : List (Nat × D))
  | dK (kvs : List (Key × D)) | dT (kvs : List (List Key × D))
  | cell (a : Addr) | val (v : V)
  | exn (a : Addr) (dd : Option Addr) (c : Nat) (fs : List (Nat × D))
/-- classes by number, fields by number -/
structure Tab where
  cls : Nat → Addr
  exc : Nat → Addr
  fld : Nat → Str
  inj : ∀ i j, fld i = fld j → i = j

mutual
inductive Rep (T : Tab) (K : PySem.W.Frag) (F : Hp) : V → D → Prop
  | non : Rep T K F .non .non
  | bl (b : Bool) : Rep T K F (.bl b) (.bl b)
  | int (i : Int) : Rep T K F (.int i) (.int i)
  | str (s : Str) : Rep T K F (.str s) (.str s)
  | tup {a : Addr} {vs : List V} {ds : List D} (h : SqT K F a vs) (r : Reps T K F vs ds) : Rep T K F (.ref a) (.tup ds)
  | lst {a : Addr} {vs : List V} {ds : List D} (h : SqL K F a vs) (r : Reps T K F vs ds) : Rep T K F (.ref a) (.lst ds)
  | ins {a dx : Addr} {c : Nat} {vs : List (Str × V)} {ds : List (Nat × D)} (h : F a = some (.ins (T.cls c) dx vs)) (r : RepF T K F vs ds) : Rep T K F (.ref a) (.ins c ds)
  | dK {a : Addr} {vs : List (Key × V)} {ds : List (Key × D)} (h : F a = some (.dK vs)) (r : RepK T K F vs ds) : Rep T K F (.ref a) (.dK ds)
  | dT {a : Addr} {vs : List (List Key × V)} {ds : List (List Key × D)} (h : F a = some (.dT vs)) (r : RepT T K F vs ds) : Rep T K F (.ref a) (.dT ds)
  | cell (a : Addr) : Rep T K F (.ref a) (.cell a)
  | val (v : V) : Rep T K F v (.val v)
  | exn0 (a : Addr) (dd : Option Addr) (c : Nat) : Rep T K F (.ref a) (.exn a dd c [])
  | exn {a d : Addr} {c : Nat} {vs : List (Str × V)} {ds : List (Nat × D)} (h : F d = some (.xd vs)) (r : RepF T K F vs ds) : Rep T K F (.ref a) (.exn a (some d) c ds)
inductive Reps (T : Tab) (K : PySem.W.Frag) (F : Hp) : List V → List D → Prop
  | nil : Reps T K F [] []
  | cons {v : V} {d : D} {vs : List V} {ds : List D} (h : Rep T K F v d) (r : Reps T K F vs ds) : Reps T K F (v :: vs) (d :: ds)
inductive RepF (T : Tab) (K : PySem.W.Frag) (F : Hp) : List (Str × V) → List (Nat × D) → Prop
  | nil : RepF T K F [] []
  | cons {n : Nat} {v : V} {d : D} {vs : List (Str × V)} {ds : List (Nat × D)} (h : Rep T K F v d) (r : RepF T K F vs ds) : RepF T K F ((T.fld n, v) :: vs) ((n, d) :: ds)
inductive RepK (T : Tab) (K : PySem.W.Frag) (F : Hp) : List (Key × V) → List (Key × D) → Prop
  | nil : RepK T K F [] []
  | cons {k : Key} {v : V} {d : D} {vs : List (Key × V)} {ds : List (Key × D)} (h : Rep T K F v d) (r : RepK T K F vs ds) : RepK T K F ((k, v) :: vs) ((k, d) :: ds)
inductive RepT (T : Tab) (K : PySem.W.Frag) (F : Hp) : List (List Key × V) → List (List Key × D) → Prop
  | nil : RepT T K F [] []
  | cons {k : List Key} {v : V} {d : D} {vs : List (List Key × V)} {ds : List (List Key × D)} (h : Rep T K F v d) (r : RepT T K F vs ds) : RepT T K F ((k, v) :: vs) ((k, d) :: ds)
end

/-- what is known stays -/
abbrev Le (F F' : Hp) : Prop := ∀ a o, F a = some o → F' a = some o
theorem Le.refl (F : Hp) : Le F F := fun _ _ h => h
theorem Le.trans {F F1 F2 : Hp} (a : Le F F1) (b : Le F1 F2) : Le F F2 := fun c o h => b c o (a c o h)
theorem Le.rd {F F' : Hp} (e : Le F F') {a : Addr} {u : HO} (h : Rd F a u) : Rd F' a u := h.elim (fun h => .inl (e _ _ h)) fun ⟨o, h⟩ => .inr ⟨o, e _ _ h⟩
theorem Le.sqT {K : PySem.W.Frag} {F F' : Hp} (e : Le F F') {a : Addr} {vs : List V} (h : SqT K F a vs) : SqT K F' a vs := h.elim (fun h => .inl (e.rd h)) .inr
theorem Le.sqL {K : PySem.W.Frag} {F F' : Hp} (e : Le F F') {a : Addr} {vs : List V} (h : SqL K F a vs) : SqL K F' a vs := h.elim (fun h => .inl (e.rd h)) .inr
theorem Le.new {F : Hp} {p : Addr} {o : HO} (h : F p = none) : Le F (upd F p o) := fun b u e => by rw [upd_ne (ne_of_none e h)]; exact e
theorem Le.none {F F' : Hp} (e : Le F F') {a : Addr} (h : F' a = Option.none) : F a = Option.none := by
  cases q : F a with
  | none => rfl
  | some o => rw [e _ _ q] at h; cases h

section
variable {T : Tab} {K : PySem.W.Frag} {F F' : Hp}
mutual
theorem Rep.mono (e : Le F F') : ∀ {v : V} {d : D}, Rep T K F v d → Rep T K F' v d
  | _, _, .non => .non
  | _, _, .bl b => .bl b
  | _, _, .int i => .int i
  | _, _, .str s => .str s
  | _, _, .tup h r => .tup (e.sqT h) (Reps.mono e r)
  | _, _, .lst h r => .lst (e.sqL h) (Reps.mono e r)
  | _, _, .ins h r => .ins (e _ _ h) (RepF.mono e r)
  | _, _, .dK h r => .dK (e _ _ h) (RepK.mono e r)
  | _, _, .dT h r => .dT (e _ _ h) (RepT.mono e r)
  | _, _, .cell a => .cell a
  | _, _, .val v => .val v
  | _, _, .exn0 a dd c => .exn0 a dd c
  | _, _, .exn h r => .exn (e _ _ h) (RepF.mono e r)
theorem Reps.mono (e : Le F F') : ∀ {vs : List V} {ds : List D}, Reps T K F vs ds → Reps T K F' vs ds
  | _, _, .nil => .nil
  | _, _, .cons h r => .cons (Rep.mono e h) (Reps.mono e r)
theorem RepF.mono (e : Le F F') : ∀ {vs : List (Str × V)} {ds : List (Nat × D)}, RepF T K F vs ds → RepF T K F' vs ds
  | _, _, .nil => .nil
  | _, _, .cons h r => .cons (Rep.mono e h) (RepF.mono e r)
theorem RepK.mono (e : Le F F') : ∀ {vs : List (Key × V)} {ds : List (Key × D)}, RepK T K F vs ds → RepK T K F' vs ds
  | _, _, .nil => .nil
  | _, _, .cons h r => .cons (Rep.mono e h) (RepK.mono e r)
theorem RepT.mono (e : Le F F') : ∀ {vs : List (List Key × V)} {ds : List (List Key × D)}, RepT T K F vs ds → RepT T K F' vs ds
  | _, _, .nil => .nil
  | _, _, .cons h r => .cons (Rep.mono e h) (RepT.mono e r)
end
theorem Reps.length : ∀ {vs : List V} {ds : List D}, Reps T K F vs ds → vs.length = ds.length
  | _, _, .nil => rfl
  | _, _, .cons _ r => congrArg Nat.succ r.length
theorem Reps.get : ∀ {vs : List V} {ds : List D} {i : Nat} {d : D}, Reps T K F vs ds → ds[i]? = some d → ∃ v, vs[i]? = some v ∧ Rep T K F v d
  | _, _, _, _, .nil, e => by simp at e
  | _, _, 0, _, .cons h _, e => by simp at e; subst e; exact ⟨_, rfl, h⟩
  | _, _, i + 1, d, .cons _ r, e => by
    obtain ⟨v, h1, h2⟩ := Reps.get (i := i) (d := d) r (by simpa using e)
    exact ⟨v, by simpa using h1, h2⟩
theorem Reps.getV : ∀ {vs : List V} {ds : List D} {i : Nat} {v : V}, Reps T K F vs ds → vs[i]? = some v → ∃ d, ds[i]? = some d ∧ Rep T K F v d
  | _, _, _, _, .nil, e => by simp at e
  | _, _, 0, _, .cons h _, e => by simp at e; subst e; exact ⟨_, rfl, h⟩
  | _, _, i + 1, v, .cons _ r, e => by
    obtain ⟨d, h1, h2⟩ := Reps.getV (i := i) (v := v) r (by simpa using e)
    exact ⟨d, by simpa using h1, h2⟩
theorem Reps.append : ∀ {vs ws : List V} {ds es : List D}, Reps T K F vs ds → Reps T K F ws es → Reps T K F (vs ++ ws) (ds ++ es)
  | _, _, _, _, .nil, s => s
  | _, _, _, _, .cons h r, s => .cons h (r.append s)
theorem Reps.take : ∀ {vs : List V} {ds : List D} (n : Nat), Reps T K F vs ds → Reps T K F (vs.take n) (ds.take n)
  | _, _, 0, _ => by simpa using Reps.nil
  | _, _, _ + 1, .nil => .nil
  | _, _, n + 1, .cons h r => .cons h (Reps.take n r)
theorem Reps.drop : ∀ {vs : List V} {ds : List D} (n : Nat), Reps T K F vs ds → Reps T K F (vs.drop n) (ds.drop n)
  | _, _, 0, r => by simpa using r
  | _, _, _ + 1, .nil => by simpa using Reps.nil
  | _, _, n + 1, .cons _ r => Reps.drop n r
theorem Reps.set {v : V} {d : D} (h : Rep T K F v d) : ∀ {vs : List V} {ds : List D} (i : Nat), Reps T K F vs ds → Reps T K F (vs.set i v) (ds.set i d)
  | _, _, _, .nil => .nil
  | _, _, 0, .cons _ r => .cons h r
  | _, _, i + 1, .cons q r => .cons q (Reps.set h i r)
theorem Reps.eraseIdx : ∀ {vs : List V} {ds : List D} (i : Nat), Reps T K F vs ds → Reps T K F (vs.eraseIdx i) (ds.eraseIdx i)
  | _, _, _, .nil => by simpa using Reps.nil
  | _, _, 0, .cons _ r => r
  | _, _, i + 1, .cons q r => .cons q (Reps.eraseIdx i r)
theorem Reps.dropLast {vs : List V} {ds : List D} (h : Reps T K F vs ds) : Reps T K F vs.dropLast ds.dropLast := by
  rw [List.dropLast_eq_take, List.dropLast_eq_take, h.length]; exact h.take _
theorem Reps.one {v : V} {d : D} (h : Rep T K F v d) : Reps T K F [v] [d] := .cons h .nil
theorem Reps.reverse : ∀ {vs : List V} {ds : List D}, Reps T K F vs ds → Reps T K F vs.reverse ds.reverse
  | _, _, .nil => .nil
  | _, _, .cons h r => by rw [List.reverse_cons, List.reverse_cons]; exact r.reverse.append (.one h)
end

/-! ### fields -/
def lk : List (Nat × D) → Nat → Option D
  | [], _ => none
  | (m, d) :: r, n => match Nat.beq m n with
    | true => some d
    | false => lk r n
def put : List (Nat × D) → Nat → D → List (Nat × D)
  | [], n, d => [(n, d)]
  | (m, e) :: r, n, d => match Nat.beq m n with
    | true => (m, d) :: r
    | false => (m, e) :: put r n d
section
variable {T : Tab} {K : PySem.W.Frag} {F : Hp}
theorem RepF.lk : ∀ {vs : List (Str × V)} {ds : List (Nat × D)} {n : Nat} {d : D}, RepF T K F vs ds → DL.lk ds n = some d → ∃ v, vs.lookup (T.fld n) = some v ∧ Rep T K F v d
  | _, _, _, _, .nil, e => by cases e
  | _, _, n, d, .cons (n := m) (v := v) (vs := vs) (ds := ds) h r, e => by
    unfold DL.lk at e
    cases q : Nat.beq m n with
    | true =>
      rw [q] at e
      have em : m = n := Nat.eq_of_beq_eq_true q
      subst em
      cases e
      exact ⟨v, by simp [List.lookup], h⟩
    | false =>
      rw [q] at e
      obtain ⟨v', h1, h2⟩ := RepF.lk r e
      refine ⟨v', ?_, h2⟩
      have ne : ¬ T.fld n = T.fld m := fun z => by
        have := T.inj n m z
        subst this
        rw [Nat.beq_refl] at q
        cases q
      rw [List.lookup_cons]
      have : (T.fld n == T.fld m) = false := by simpa using ne
      rw [this]
      exact h1
theorem RepF.noLk : ∀ {vs : List (Str × V)} {ds : List (Nat × D)} {x : Str}, (∀ i, T.fld i ≠ x) → RepF T K F vs ds → vs.lookup x = none
  | _, _, _, _, .nil => rfl
  | _, _, x, hx, .cons (n := m) (v := v) (vs := vs) (ds := ds) h r => by
    rw [List.lookup_cons]
    have : (x == T.fld m) = false := by simpa using Ne.symm (hx m)
    rw [this]
    exact RepF.noLk hx r
theorem RepF.put : ∀ {vs : List (Str × V)} {ds : List (Nat × D)} {n : Nat} {v : V} {d : D}, RepF T K F vs ds → Rep T K F v d → RepF T K F (putF (T.fld n) v vs) (DL.put ds n d)
  | _, _, n, v, d, .nil, h => .cons h .nil
  | _, _, n, v, d, .cons (n := m) (v := v0) (d := d0) (vs := vs) (ds := ds) h0 r, h => by
    unfold putF DL.put
    cases q : Nat.beq m n with
    | true =>
      have em : m = n := Nat.eq_of_beq_eq_true q
      subst em
      rw [if_pos rfl]
      exact .cons h r
    | false =>
      have ne : ¬ T.fld m = T.fld n := fun z => by
        have := T.inj m n z
        subst this
        rw [Nat.beq_refl] at q
        cases q
      rw [if_neg ne]
      exact .cons h0 (RepF.put r h)
theorem RepF.length : ∀ {vs : List (Str × V)} {ds : List (Nat × D)}, RepF T K F vs ds → vs.length = ds.length
  | _, _, .nil => rfl
  | _, _, .cons _ r => congrArg Nat.succ r.length
end

/-! ### cells, states -/
/-- what a mutable object holds -/
inductive MC where
  | lst (xs : List D) | dK (kvs : List (Key × D)) | dT (kvs : List (List Key × D)) | ins (c : Nat) (fs : List (Nat × D))
abbrev Sto := Addr → Option MC
abbrev Env' := List (Option D)
abbrev Exn := Nat × List (Nat × D)
def upm (μ : Sto) (a : Addr) (c : MC) : Sto := fun b => if b = a then some c else μ b
theorem upm_same {μ : Sto} {a : Addr} {c : MC} : upm μ a c a = some c := by unfold upm; rw [if_pos rfl]
theorem upm_ne {μ : Sto} {a b : Addr} {c : MC} (h : b ≠ a) : upm μ a c b = μ b := by unfold upm; rw [if_neg h]
/-- fewer cells -/
def Sub (μ μ' : Sto) : Prop := ∀ a c, μ a = some c → μ' a = some c
theorem Sub.refl (μ : Sto) : Sub μ μ := fun _ _ h => h
theorem Sub.trans {a b c : Sto} (h : Sub a b) (k : Sub b c) : Sub a c := fun x m e => k x m (h x m e)
theorem Sub.new {μ μ' : Sto} {a : Addr} {c : MC} (s : Sub μ μ') (h : μ a = none) : Sub μ (upm μ' a c) := fun b m e => by
  rw [upm_ne (fun z => by subst z; rw [h] at e; cases e)]; exact s b m e
theorem Sub.new0 {μ : Sto} {a : Addr} {c : MC} (h : μ a = none) : Sub μ (upm μ a c) := (Sub.refl μ).new h
def CellR (T : Tab) (K : PySem.W.Frag) (F : Hp) : HO → MC → Prop
  | .lst vs, .lst ds => Reps T K F vs ds
  | .dK vs, .dK ds => RepK T K F vs ds
  | .dT vs, .dT ds => RepT T K F vs ds
  | .ins C _ vs, .ins c ds => C = T.cls c ∧ RepF T K F vs ds
  | _, _ => False
structure StR (T : Tab) (K : PySem.W.Frag) (G F H : Hp) (μ : Sto) : Prop where
  sub : Le F H
  cell : ∀ a c, μ a = some c → F a = none ∧ ∃ o, H a = some o ∧ CellR T K F o c
  fr : ∀ a o, G a = some o → H a = some o ∧ F a = none ∧ μ a = none
structure EnvR (T : Tab) (K : PySem.W.Frag) (F : Hp) (σ : L2.St) (env : Env') : Prop where
  len : σ.length = env.length
  at_ : ∀ (i : Nat) (d : D), env[i]? = some (some d) → ∃ v : V, σ[i]? = some (some v) ∧ Rep T K F v d
/-- an exception: its class, its own dict -/
structure ExR (T : Tab) (K : PySem.W.Frag) (F : Hp) (cls : Value) (dd : Option Addr) (x : Exn) : Prop where
  cls : cls = .ref (T.exc x.1)
  fs : x.2 = [] ∨ ∃ d vs, dd = some d ∧ F d = some (.xd vs) ∧ RepF T K F vs x.2
section
variable {T : Tab} {K : PySem.W.Frag} {G F F' H H' : Hp} {μ : Sto} {σ : L2.St} {env : Env'}
theorem CellR.mono (e : Le F F') {o : HO} {c : MC} (h : CellR T K F o c) : CellR T K F' o c := by
  cases o <;> cases c <;> first | exact False.elim h | exact Reps.mono e h | exact RepK.mono e h | exact RepT.mono e h | exact ⟨h.1, h.2.mono e⟩
theorem EnvR.mono (e : Le F F') (h : EnvR T K F σ env) : EnvR T K F' σ env := ⟨h.len, fun i d q => let ⟨v, a, b⟩ := h.at_ i d q; ⟨v, a, b.mono e⟩⟩
theorem EnvR.set {i : Nat} {v : V} {d : D} (h : EnvR T K F σ env) (r : Rep T K F v d) : EnvR T K F (σ.set i (some v)) (env.set i (some d)) := by
  refine ⟨by simp [h.len], fun j e q => ?_⟩
  by_cases hj : i = j
  · subst hj
    rw [List.getElem?_set] at q
    rw [List.getElem?_set]
    rw [if_pos rfl] at q ⊢
    by_cases hi : i < env.length
    · rw [if_pos hi] at q
      rw [if_pos (by rw [h.len]; exact hi)]
      cases q
      exact ⟨v, rfl, r⟩
    · rw [if_neg hi] at q; cases q
  · rw [List.getElem?_set_ne hj] at q ⊢
    exact h.at_ j e q
theorem EnvR.unset {i : Nat} {o : Option V} (h : EnvR T K F σ env) : EnvR T K F (σ.set i o) (env.set i none) := by
  refine ⟨by simp [h.len], fun j e q => ?_⟩
  by_cases hj : i = j
  · subst hj
    rw [List.getElem?_set, if_pos rfl] at q
    split at q <;> cases q
  · rw [List.getElem?_set_ne hj] at q ⊢
    exact h.at_ j e q
theorem StR.sto {μ' : Sto} (h : StR T K G F H μ) (s : Sub μ' μ) : StR T K G F H μ' := ⟨h.sub, fun a c e => h.cell a c (s a c e), fun a o e => by
  obtain ⟨h1, h2, h3⟩ := h.fr a o e
  refine ⟨h1, h2, ?_⟩
  cases q : μ' a with
  | none => rfl
  | some c => rw [s a c q] at h3; cases h3⟩
theorem StR.noCell (h : StR T K G F H μ) {p : Addr} (n : H p = none) : μ p = none := by
  cases q : μ p with
  | none => rfl
  | some c =>
    obtain ⟨_, o, e, _⟩ := h.cell p c q
    rw [n] at e; cases e
theorem StR.fresh (h : StR T K G F H μ) {p : Addr} (n : H p = none) : F p = none := h.sub.none n
theorem StR.frNe (h : StR T K G F H μ) {p a : Addr} {o : HO} (n : H p = none) (e : G a = some o) : a ≠ p := ne_of_none (h.fr a o e).1 n
/-- a new frozen object -/
theorem StR.new {p : Addr} {o : HO} (h : StR T K G F H μ) (n : H p = none) : StR T K G (upd F p o) (upd H p o) μ := by
  refine ⟨fun a u e => ?_, fun a c e => ?_, fun a u e => ?_⟩
  · by_cases ha : a = p
    · subst ha; rw [upd_same] at e ⊢; exact e
    · rw [upd_ne ha] at e ⊢; exact h.sub _ _ e
  · obtain ⟨h1, u, h2, h3⟩ := h.cell a c e
    have ha : a ≠ p := ne_of_none h2 n
    exact ⟨by rw [upd_ne ha]; exact h1, u, by rw [upd_ne ha]; exact h2, h3.mono (Le.new (h.fresh n))⟩
  · have ha := h.frNe n e
    rw [upd_ne ha, upd_ne ha]
    exact h.fr a u e
/-- a new object that is not told -/
theorem StR.skip {p : Addr} {o : HO} (h : StR T K G F H μ) (n : H p = none) : StR T K G F (upd H p o) μ := by
  refine ⟨fun a u e => ?_, fun a c e => ?_, fun a u e => ?_⟩
  · rw [upd_ne (ne_of_none (h.sub _ _ e) n)]; exact h.sub _ _ e
  · obtain ⟨h1, u, h2, h3⟩ := h.cell a c e
    exact ⟨h1, u, by rw [upd_ne (ne_of_none h2 n)]; exact h2, h3⟩
  · rw [upd_ne (h.frNe n e)]
    exact h.fr a u e
/-- a new cell -/
theorem StR.newCell {p : Addr} {o : HO} {c : MC} (h : StR T K G F H μ) (n : H p = none) (r : CellR T K F o c) : StR T K G F (upd H p o) (upm μ p c) := by
  refine ⟨(h.skip (o := o) n).sub, fun a m e => ?_, fun a u e => ?_⟩
  · by_cases ha : a = p
    · subst ha; rw [upm_same] at e; cases e
      exact ⟨h.fresh n, o, upd_same, r⟩
    · rw [upm_ne ha] at e
      obtain ⟨h1, u, h2, h3⟩ := h.cell a m e
      exact ⟨h1, u, by rw [upd_ne ha]; exact h2, h3⟩
  · have ha := h.frNe n e
    rw [upd_ne ha, upm_ne ha]
    exact h.fr a u e
theorem StR.frCell (h : StR T K G F H μ) {p a : Addr} {o : HO} {c : MC} (e0 : μ p = some c) (e : G a = some o) : a ≠ p := fun z => by
  subst z
  rw [(h.fr _ _ e).2.2] at e0; cases e0
/-- a cell written -/
theorem StR.write {p : Addr} {o : HO} {c c0 : MC} (h : StR T K G F H μ) (e0 : μ p = some c0) (r : CellR T K F o c) : StR T K G F (upd H p o) (upm μ p c) := by
  obtain ⟨hF, _⟩ := h.cell p c0 e0
  refine ⟨fun a u e => ?_, fun a m e => ?_, fun a u e => ?_⟩
  · rw [upd_ne (ne_of_none e hF)]; exact h.sub _ _ e
  · by_cases ha : a = p
    · subst ha; rw [upm_same] at e; cases e
      exact ⟨hF, o, upd_same, r⟩
    · rw [upm_ne ha] at e
      obtain ⟨h1, u, h2, h3⟩ := h.cell a m e
      exact ⟨h1, u, by rw [upd_ne ha]; exact h2, h3⟩
  · have ha := h.frCell e0 e
    rw [upd_ne ha, upm_ne ha]
    exact h.fr a u e
/-- a cell frozen: it is known from here on -/
def delm (μ : Sto) (a : Addr) : Sto := fun b => if b = a then none else μ b
theorem delm_ne {μ : Sto} {a b : Addr} (h : b ≠ a) : delm μ a b = μ b := by unfold delm; rw [if_neg h]
theorem Sub.del {μ μ' : Sto} {a : Addr} (s : Sub μ μ') (h : μ a = none) : Sub μ (delm μ' a) := fun b m e => by
  rw [delm_ne (fun z => by subst z; rw [h] at e; cases e)]; exact s b m e
theorem StR.freeze {p : Addr} {o : HO} {c : MC} (h : StR T K G F H μ) (e0 : μ p = some c) (eo : H p = some o) : StR T K G (upd F p o) H (delm μ p) := by
  obtain ⟨hF, _⟩ := h.cell p c e0
  refine ⟨fun a u e => ?_, fun a m e => ?_, fun a u e => ?_⟩
  · by_cases ha : a = p
    · subst ha; rw [upd_same] at e; cases e; exact eo
    · rw [upd_ne ha] at e; exact h.sub _ _ e
  · by_cases ha : a = p
    · subst ha; unfold delm at e; rw [if_pos rfl] at e; cases e
    · rw [delm_ne ha] at e
      obtain ⟨h1, u, h2, h3⟩ := h.cell a m e
      exact ⟨by rw [upd_ne ha]; exact h1, u, h2, h3.mono (Le.new hF)⟩
  · have ha := h.frCell e0 e
    rw [upd_ne ha, delm_ne ha]
    exact h.fr a u e
/-- one more object is kept aside -/
theorem StR.aside {p : Addr} {o : HO} (h : StR T K G F H μ) (e : H p = some o) (nF : F p = none) (nM : μ p = none) : StR T K (upd G p o) F H μ := by
  refine ⟨h.sub, h.cell, fun a u q => ?_⟩
  by_cases ha : a = p
  · subst ha; rw [upd_same] at q; cases q; exact ⟨e, nF, nM⟩
  · rw [upd_ne ha] at q; exact h.fr a u q
/-- it is taken back, as it was, or changed -/
theorem StR.back {p : Addr} {o : HO} (h : StR T K (upd G p o) F H μ) (n : G p = none) : StR T K G F H μ := by
  refine ⟨h.sub, h.cell, fun a u q => h.fr a u ?_⟩
  rw [upd_ne (ne_of_none q n)]; exact q
theorem StR.setAside {p : Addr} {o o' : HO} (h : StR T K (upd G p o) F H μ) : StR T K (upd G p o') F (upd H p o') μ := by
  obtain ⟨hp, nF, nM⟩ := h.fr p o upd_same
  refine ⟨fun a u e => ?_, fun a c e => ?_, fun a u q => ?_⟩
  · rw [upd_ne (ne_of_none e nF)]; exact h.sub _ _ e
  · obtain ⟨h1, u, h2, h3⟩ := h.cell a c e
    have ha : a ≠ p := fun z => by subst z; rw [nM] at e; cases e
    exact ⟨h1, u, by rw [upd_ne ha]; exact h2, h3⟩
  · by_cases ha : a = p
    · subst ha; rw [upd_same] at q; cases q; exact ⟨upd_same, nF, nM⟩
    · rw [upd_ne ha] at q ⊢
      exact h.fr a u (by rw [upd_ne ha]; exact q)
end
end DL

/-! DL2: the judgements over data, and their first rules. -/
namespace DL
open PySem PySem.Spec PyProof.Rows L2

abbrev DQ := D → Sto → Prop
abbrev DX := Exn → Sto → Prop
abbrev DM := Env' → Sto → DQ → DX → Prop
abbrev DT := Env' → Sto → (Bool → Sto → Prop) → DX → Prop
abbrev DA := Env' → Sto → (List D → Sto → Prop) → DX → Prop
structure DEnds where
  nx : Env' → Sto → Prop
  rt : D → Sto → Prop
  bk : Env' → Sto → Prop
  ct : Env' → Sto → Prop
  ex : Exn → Env' → Sto → Prop
abbrev DS := Env' → Sto → DEnds → Prop

/-- what is wished of exceptions; what is kept aside -/
structure WG where
  W : WX
  G : Hp
def Kon {α β : Type} (T : Tab) (K : PySem.W.Frag) (G F : Hp) (R : Hp → β → α → Prop) (Q0 : α → Sto → Prop) (Q : β → Hp → Prop) : Prop :=
  ∀ d μ, Q0 d μ → ∀ F' H' v, Le F F' → StR T K G F' H' μ → R F' v d → Q v H'
def KonX (T : Tab) (K : PySem.W.Frag) (W : WG) (F : Hp) (σ : L2.St) (E0 : DX) : Prop :=
  ∀ x μ, E0 x μ → ∀ F' H' cls dd, Le F F' → StR T K W.G F' H' μ → ExR T K F' cls dd x → W.W cls dd σ H'
def tG {α β : Type} (T : Tab) (K : PySem.W.Frag) (R : Hp → β → α → Prop) (W : WG) (m : Env' → Sto → (α → Sto → Prop) → DX → Prop) : L2.St → Hp → (β → Hp → Prop) → Prop := fun σ H Q =>
  ∃ F env μ Q0 E0, EnvR T K F σ env ∧ StR T K W.G F H μ ∧ m env μ Q0 E0 ∧ Kon T K W.G F R Q0 Q ∧ KonX T K W F σ E0
abbrev tE (T : Tab) (K : PySem.W.Frag) (W : WG) (m : DM) : TE := tG T K (Rep T K) W m
abbrev tT (T : Tab) (K : PySem.W.Frag) (W : WG) (m : DT) : TT := tG T K (fun _ b c => b = c) W m
abbrev tA (T : Tab) (K : PySem.W.Frag) (W : WG) (m : DA) : TA := tG T K (Reps T K) W m
structure EndsR (T : Tab) (K : PySem.W.Frag) (W : WG) (F : Hp) (k : DEnds) (D : Ends) : Prop where
  nx : ∀ env μ F' H' σ', k.nx env μ → Le F F' → EnvR T K F' σ' env → StR T K W.G F' H' μ → D.nx σ' H'
  rt : ∀ d μ F' H' v, k.rt d μ → Le F F' → StR T K W.G F' H' μ → Rep T K F' v d → D.rt v H'
  bk : ∀ env μ F' H' σ', k.bk env μ → Le F F' → EnvR T K F' σ' env → StR T K W.G F' H' μ → D.bk σ' H'
  ct : ∀ env μ F' H' σ', k.ct env μ → Le F F' → EnvR T K F' σ' env → StR T K W.G F' H' μ → D.ct σ' H'
  ex : ∀ x env μ F' H' σ' cls dd, k.ex x env μ → Le F F' → EnvR T K F' σ' env → StR T K W.G F' H' μ → ExR T K F' cls dd x → W.W cls dd σ' H'
def tS (T : Tab) (K : PySem.W.Frag) (W : WG) (m : DS) : TS := fun D σ H =>
  ∃ F env μ k, EnvR T K F σ env ∧ StR T K W.G F H μ ∧ m env μ k ∧ EndsR T K W F k D
section
variable {T : Tab} {K : PySem.W.Frag} {G F F' : Hp} {W : WG} {σ : L2.St} {E0 : DX}
theorem KonX.mono (h : KonX T K W F σ E0) (e : Le F F') : KonX T K W F' σ E0 := fun x μ q F2 H2 c d l => h x μ q F2 H2 c d (e.trans l)
theorem Kon.mono {α β : Type} {R : Hp → β → α → Prop} {Q0 : α → Sto → Prop} {Q : β → Hp → Prop} (h : Kon T K G F R Q0 Q) (e : Le F F') : Kon T K G F' R Q0 Q := fun d μ q F2 H2 v l => h d μ q F2 H2 v (e.trans l)
theorem EndsR.mono {k : DEnds} {D : Ends} (h : EndsR T K W F k D) (e : Le F F') : EndsR T K W F' k D :=
  ⟨fun a b c d f q l => h.nx a b c d f q (e.trans l), fun a b c d f q l => h.rt a b c d f q (e.trans l), fun a b c d f q l => h.bk a b c d f q (e.trans l), fun a b c d f q l => h.ct a b c d f q (e.trans l), fun x a b c d f g i q l => h.ex x a b c d f g i q (e.trans l)⟩
end

/-! ### the judgements -/
structure TK (X : Cx) (W : WG) : Prop where
  tk : Takes X W.W
  po : PassesOwn (model X.prog X.w) X.A X.env X.xe
structure SE (T : Tab) (X : Cx) (e : Expr) (m : DM) : Prop where
  run : ∀ W, TK X W → PE X e (tE T X.K W m)
structure ST (T : Tab) (X : Cx) (e : Expr) (m : DT) : Prop where
  run : ∀ W, TK X W → PT X e (tT T X.K W m)
structure SW (T : Tab) (X : Cx) (e : Expr) (m : DT) : Prop where
  run : ∀ W, TK X W → PW X e (tT T X.K W m)
structure SA (T : Tab) (X : Cx) (es : List Expr) (m : DA) : Prop where
  run : ∀ W, TK X W → PA X es (tA T X.K W m)
structure SS (T : Tab) (X : Cx) (s : Stmt) (m : DS) : Prop where
  run : ∀ W, TK X W → PS X s (tS T X.K W m)
structure SB (T : Tab) (X : Cx) (b : List Stmt) (m : DS) : Prop where
  run : ∀ W, TK X W → PSs X b (tS T X.K W m)
theorem PE.imp {X : Cx} {e : Expr} {t t' : TE} (h : PE X e t) (k : ∀ σ H Q, t' σ H Q → t σ H Q) : PE X e t' := ⟨fun pins s σ H Q I q => h.run pins s σ H Q I (k _ _ _ q)⟩
theorem PT.imp {X : Cx} {e : Expr} {t t' : TT} (h : PT X e t) (k : ∀ σ H Q, t' σ H Q → t σ H Q) : PT X e t' := ⟨fun pins s σ H Q I q => h.run pins s σ H Q I (k _ _ _ q)⟩
theorem PW.imp {X : Cx} {e : Expr} {t t' : TT} (h : PW X e t) (k : ∀ σ H Q, t' σ H Q → t σ H Q) : PW X e t' := ⟨fun wh pins s σ H Q I q => h.run wh pins s σ H Q I (k _ _ _ q)⟩
theorem PA.imp {X : Cx} {e : List Expr} {t t' : TA} (h : PA X e t) (k : ∀ σ H Q, t' σ H Q → t σ H Q) : PA X e t' := ⟨fun p pins s σ H Q I q => h.run p pins s σ H Q I (k _ _ _ q)⟩
theorem PS.imp {X : Cx} {e : Stmt} {t t' : TS} (h : PS X e t) (k : ∀ D σ H, t' D σ H → t D σ H) : PS X e t' := ⟨fun pins s σ H D I q => h.run pins s σ H D I (k _ _ _ q)⟩
theorem PSs.imp {X : Cx} {e : List Stmt} {t t' : TS} (h : PSs X e t) (k : ∀ D σ H, t' D σ H → t D σ H) : PSs X e t' := ⟨fun pins s σ H D I q => h.run pins s σ H D I (k _ _ _ q)⟩

/-! ### names, constants -/
def dVar (i : Nat) : DM := fun env μ Q _ => match env[i]? with
  | some (some d) => Q d μ
  | _ => False
def dC (d : D) : DM := fun _ μ Q _ => Q d μ
section
variable {T : Tab} {X : Cx} {x : Str} {pos : Pos} {i : Nat}
theorem dVar_of {env : Env'} {μ : Sto} {Q : DQ} {E : DX} (h : dVar i env μ Q E) : ∃ d, env[i]? = some (some d) ∧ Q d μ := by
  unfold dVar at h
  split at h
  · exact ⟨_, by assumption, h⟩
  · exact h.elim
theorem se_var (i : Nat) {x : Str} {pos : Pos} (hN : X.N[i]? = some x := by rfl) (hv : Vis X.env.scope x := by first | exact Or.inl rfl | exact Or.inr (Or.inl rfl) | exact Or.inr (Or.inr rfl)) (hd : (x == ("__debug__" : Str)) = false := by decide)
    (hcd : (x == ("__classdict__" : Str)) = false := by decide) : SE T X (.Name x pos) (dVar i) := ⟨fun W _ => PE.imp (pe_var hN hv hd hcd) fun σ H Q ⟨F, env, μ, Q0, E0, hE, hS, hm, hQ, _⟩ => by
  obtain ⟨d, e, q⟩ := dVar_of hm
  obtain ⟨v, e1, r⟩ := hE.at_ _ _ e
  exact ⟨v, e1, hQ d μ q F H v (Le.refl F) hS r⟩⟩
theorem se_c {e : Expr} {v : V} {d : D} (h : PE X e (tC v)) (r : ∀ F, Rep T X.K F v d) : SE T X e (dC d) := ⟨fun W _ => PE.imp h fun σ H Q ⟨F, env, μ, Q0, E0, hE, hS, hm, hQ, _⟩ => hQ d μ hm F H v (Le.refl F) hS (r F)⟩
theorem se_int {i : Int} {j pos} : SE T X (.Constant (.int i) j pos) (dC (.int i)) := se_c pe_int fun _ => .int i
theorem se_bl {b : Bool} {j pos} : SE T X (.Constant (.bool b) j pos) (dC (.bl b)) := se_c pe_bl fun _ => .bl b
theorem se_non {j pos} : SE T X (.Constant .none j pos) (dC .non) := se_c pe_non fun _ => .non
theorem se_str {s : Str} {j pos} : SE T X (.Constant (.str s) j pos) (dC (.str s)) := se_c pe_str fun _ => .str s
/-- a module's int -/
theorem se_gint {x : Str} {i : Int} {t : Tok} {pos : Pos} (hg : Gl X x) (hm : X.mg x = some (.int i t)) (hd : (x == ("__debug__" : Str)) = false := by decide) : SE T X (.Name x pos) (dC (.int i)) := se_c (pe_glob (v := .int i) hg hm ⟨t, rfl⟩ hd) fun _ => .int i
theorem se_gstr {x : Str} {i : Str} {t : Tok} {pos : Pos} (hg : Gl X x) (hm : X.mg x = some (.str i t)) (hd : (x == ("__debug__" : Str)) = false := by decide) : SE T X (.Name x pos) (dC (.str i)) := se_c (pe_glob (v := .str i) hg hm ⟨t, rfl⟩ hd) fun _ => .str i

/-! ### operators on values -/
abbrev DR2 := D → D → Sto → DQ → Prop
def rD (T : Tab) (K : PySem.W.Frag) (g : DR2) : R2 := fun x y H Q => ∃ G F μ dx dy Q0, StR T K G F H μ ∧ Rep T K F x dx ∧ Rep T K F y dy ∧ g dx dy μ Q0 ∧ Kon T K G F (Rep T K) Q0 Q
def OpD (T : Tab) (X : Cx) (f : Value → Value → Sem Value) (g : DR2) : Prop := OpR X f (rD T X.K g)
theorem OpR.imp {f : Value → Value → Sem Value} {r r' : R2} (h : OpR X f r) (k : ∀ x y H Q, r' x y H Q → r x y H Q) : OpR X f r' := fun pins s σ H x y v u Q I rx ry q => h pins s σ H x y v u Q I rx ry (k _ _ _ _ q)
def dOp (g : DR2) (ma mb : DM) : DM := fun env μ Q E => ma env μ (fun x μ1 => mb env μ1 (fun y μ2 => g x y μ2 Q) E) E
variable {a b c : Expr} {ma mb mc : DM} {g g' : DR2}
/-- two in a row -/
theorem tE_bin {W : WG} {K : PySem.W.Frag} {r : R2} {σ : L2.St} {H : Hp} {Q : VK} (hr : ∀ x y H Q, rD T K g x y H Q → r x y H Q) (h : tE T K W (dOp g ma mb) σ H Q) : tOp r (tE T K W ma) (tE T K W mb) σ H Q := by
  obtain ⟨F, env, μ, Q0, E0, hE, hS, hm, hQ, hX⟩ := h
  refine ⟨F, env, μ, _, E0, hE, hS, hm, fun x μ1 q F1 H1 v l hS1 rv => ?_, hX⟩
  refine ⟨F1, env, μ1, _, E0, hE.mono l, hS1, q, fun y μ2 q2 F2 H2 w l2 hS2 rw => ?_, hX.mono l⟩
  exact hr _ _ _ _ ⟨W.G, F2, μ2, x, y, Q0, hS2, rv.mono l2, rw, q2, hQ.mono (l.trans l2)⟩
theorem se_op {op : Operator} (ho : OpD T X (binaryOp op) g) (ha : SE T X a ma) (hb : SE T X b mb) : SE T X (.BinOp a op b pos) (dOp g ma mb) :=
  ⟨fun W tk => PE.imp (pe_op ho (ha.run W tk) (hb.run W tk)) fun _ _ _ h => tE_bin (fun _ _ _ _ q => q) h⟩
theorem se_cmp {op : CmpOp} (ho : OpD T X (compareOp op) g) (ha : SE T X a ma) (hb : SE T X b mb) (hm : behindInMarks op b = false) : SE T X (.Compare a [op] [b] pos) (dOp g ma mb) :=
  ⟨fun W tk => PE.imp (pe_cmpR ho (ha.run W tk) (hb.run W tk) hm) fun _ _ _ h => tE_bin (fun _ _ _ _ q => q) h⟩
/-- a value that is True or False, as a test -/
def dTst (m : DM) : DT := fun env μ Q E => m env μ (fun d μ1 => match d with
  | .bl b => Q b μ1
  | _ => False) E
theorem tst_of {d : D} {μ : Sto} {Q : Bool → Sto → Prop} (h : match d with
  | .bl b => Q b μ
  | _ => False) : ∃ b, d = .bl b ∧ Q b μ := by
  cases d <;> first | exact h.elim | exact ⟨_, rfl, h⟩
theorem tE_tst {W : WG} {K : PySem.W.Frag} {m : DM} {σ : L2.St} {H : Hp} {Q : Bool → Hp → Prop} (h : tT T K W (dTst m) σ H Q) : tTest (tE T K W m) σ H Q := by
  obtain ⟨F, env, μ, Q0, E0, hE, hS, hm, hQ, hX⟩ := h
  refine ⟨F, env, μ, _, E0, hE, hS, hm, fun d μ1 q F1 H1 v l hS1 rv => ?_, hX⟩
  obtain ⟨k, e, q⟩ := tst_of q
  subst e
  cases rv
  exact ⟨k, rfl, hQ k μ1 q F1 H1 k l hS1 rfl⟩
theorem st_cmp {op : CmpOp} (ho : OpD T X (compareOp op) g) (ha : SE T X a ma) (hb : SE T X b mb) (hm : behindInMarks op b = false) : ST T X (.Compare a [op] [b] pos) (dTst (dOp g ma mb)) := by
  refine ⟨fun W tk => PT.imp (pt_cmpR ho (ha.run W tk) (hb.run W tk) hm) fun σ H Q h => ?_⟩
  obtain ⟨F, env, μ, Q0, E0, hE, hS, hm, hQ, hX⟩ := tE_tst h
  exact tE_bin (r := rD T X.K g) (fun _ _ _ _ q => q) ⟨F, env, μ, Q0, E0, hE, hS, hm, hQ, hX⟩
/-- an expression whose value is a bool, as a test -/
theorem st_val {e : Expr} {m : DM} (h : SE T X e m) (he : ∀ whole, isTrue e X.env whole = (do let v ← whole; standAt e.pos; holding [v] (truthy v)) := by intro _; rfl) : ST T X e (dTst m) :=
  ⟨fun W tk => PT.imp (pt_val (h.run W tk) he) fun σ H Q h => tE_tst h⟩
/-- a < b < c -/
def dChain (g g' : DR2) (ma mb mc : DM) : DM := fun env μ Q E => ma env μ (fun x μ1 => mb env μ1 (fun y μ2 => g x y μ2 fun z μ3 => match z with
  | .bl k => (k = true → mc env μ3 (fun u μ4 => g' y u μ4 Q) E) ∧ (k = false → Q (.bl false) μ3)
  | _ => False) E) E
theorem chain_of {z : D} {P : Bool → Prop} (h : match z with
  | .bl k => P k
  | _ => False) : ∃ k, z = .bl k ∧ P k := by
  cases z <;> first | exact h.elim | exact ⟨_, rfl, h⟩
theorem tE_chain {W : WG} {K : PySem.W.Frag} {σ : L2.St} {H : Hp} {Q : VK} (h : tE T K W (dChain g g' ma mb mc) σ H Q) : tChain (rD T K g) (rD T K g') (tE T K W ma) (tE T K W mb) (tE T K W mc) σ H Q := by
  obtain ⟨F, env, μ, Q0, E0, hE, hS, hm, hQ, hX⟩ := h
  refine ⟨F, env, μ, _, E0, hE, hS, hm, fun x μ1 q F1 H1 v l hS1 rv => ?_, hX⟩
  refine ⟨F1, env, μ1, _, E0, hE.mono l, hS1, q, fun y μ2 q2 F2 H2 w l2 hS2 rw => ?_, hX.mono l⟩
  refine ⟨W.G, F2, μ2, x, y, _, hS2, rv.mono l2, rw, q2, fun z μ3 q3 F3 H3 u l3 hS3 ru => ?_⟩
  obtain ⟨k, e, q4, q5⟩ := chain_of q3
  subst e
  cases ru
  refine ⟨k, rfl, ?_⟩
  cases k with
  | true =>
    rw [if_pos rfl]
    refine ⟨F3, env, μ3, _, E0, hE.mono (l.trans (l2.trans l3)), hS3, q4 rfl, fun c μ4 q6 F4 H4 w4 l4 hS4 rw4 => ?_, hX.mono (l.trans (l2.trans l3))⟩
    exact ⟨W.G, F4, μ4, y, c, Q0, hS4, rw.mono (l3.trans l4), rw4, q6, hQ.mono (l.trans (l2.trans (l3.trans l4)))⟩
  | false =>
    rw [if_neg Bool.false_ne_true]
    exact hQ _ μ3 (q5 rfl) F3 H3 _ (l.trans (l2.trans l3)) hS3 (.bl false)
end
end DL

/-! DL3: operators on data, tests, displays, small statements. -/
namespace DL
open PySem PySem.Spec PyProof.Rows L2

/-! ### reading lists -/
def getL (μ : Sto) : D → Option (List D)
  | .lst xs => some xs
  | .cell a => match μ a with
    | some (.lst xs) => some xs
    | _ => none
  | _ => none
/-- a new list: frozen, or a cell -/
def newL (m : Bool) (xs : List D) (μ : Sto) (Q : DQ) : Prop := match m with
  | false => Q (.lst xs) μ
  | true => ∀ a, μ a = none → Q (.cell a) (upm μ a (.lst xs))
section
variable {T : Tab} {K : PySem.W.Frag} {G F H : Hp} {μ : Sto} {v : V} {d : D} {xs : List D}
theorem StR.sqL (h : StR T K G F H μ) {a : Addr} {vs : List V} (q : SqL K F a vs) : SqL K H a vs := Le.sqL h.sub q
theorem StR.sqT (h : StR T K G F H μ) {a : Addr} {vs : List V} (q : SqT K F a vs) : SqT K H a vs := Le.sqT h.sub q
theorem StR.cellL (h : StR T K G F H μ) {a : Addr} (e : μ a = some (.lst xs)) : ∃ vs, H a = some (.lst vs) ∧ Reps T K F vs xs := by
  obtain ⟨_, o, h2, h3⟩ := h.cell a _ e
  cases o <;> first | exact False.elim h3 | exact ⟨_, h2, h3⟩
theorem getL_ok (h : StR T K G F H μ) (r : Rep T K F v d) (e : getL μ d = some xs) : ∃ a vs, v = .ref a ∧ SqL K H a vs ∧ Reps T K F vs xs := by
  cases d with
  | lst ys =>
    cases e
    cases r with
    | lst h1 r1 => exact ⟨_, _, rfl, h.sqL h1, r1⟩
  | cell a =>
    have e : (match μ a with
      | some (.lst xs) => some xs
      | _ => none) = some xs := e
    cases r
    cases q : μ a with
    | none => rw [q] at e; cases e
    | some c =>
      rw [q] at e
      cases c with
      | lst ys =>
        cases e
        obtain ⟨vs, h1, r1⟩ := h.cellL q
        exact ⟨a, vs, rfl, SqL.of h1, r1⟩
      | _ => cases e
  | _ => cases e
theorem newL_ok {m : Bool} {Q0 : DQ} {Q : VK} {vs : List V} {F0 : Hp} (h : StR T K G F H μ) (r : Reps T K F vs xs) (k : newL m xs μ Q0) (hQ : Kon T K G F0 (Rep T K) Q0 Q) (l : Le F0 F) {p : Addr} (n : H p = none) : Q (.ref p) (upd H p (.lst vs)) := by
  cases m with
  | false =>
    have e := Le.new (o := .lst vs) (h.fresh n)
    exact hQ _ _ k _ _ _ (l.trans e) (h.new n) (.lst (SqL.of upd_same) (r.mono e))
  | true =>
    exact hQ _ _ (k p (h.noCell n)) _ _ _ l (h.newCell (c := .lst xs) n r) (.cell p)
end

/-! ### arithmetic -/
/-- list + list whatever they are -/
def rCatL (K : PySem.W.Frag) : R2 := fun x y H Q => ∃ l b xs zs, x = .ref l ∧ y = .ref b ∧ SqL K H l xs ∧ SqL K H b zs ∧ xs.length + zs.length ≤ sizeLine ∧ ∀ p, H p = none → Q (.ref p) (upd H p (.lst (xs ++ zs)))
theorem op_catL {X : Cx} : OpR X (binaryOp .Add) (rCatL X.K) := by
  intro pins s σ H x y v u Q I rx ry h
  obtain ⟨l, b, xs, zs, rfl, rfl, hH, hB, hz, q⟩ := h
  cases rx
  cases ry
  obtain ⟨its, r, p1, z1⟩ := I.list hH
  obtain ⟨its2, r2, p2, z2⟩ := I.list hB
  obtain ⟨⟨cls, dd, data, sl⟩, ho, hc, n, hd⟩ := p1.isList
  obtain ⟨⟨cls2, dd2, data2, sl2⟩, ho2, hc2, n2, hd2⟩ := p2.isList
  simp only at hc hd hc2 hd2
  subst hc hd hc2 hd2
  have e : its.toArray ++ its2.toArray = (its ++ its2).toArray := by simp
  have hl := r.length
  have hl2 := r2.length
  refine concat_meets ⟨_, ho, rfl⟩ ⟨_, ho2, rfl⟩ noFill_list_add seq_list_add PySem.F.slot_list_add PySem.F.entry_list_add (PySem.F.args_list_add_2 _ _) (list_addW l b its.toArray its2.toArray n n2 dd dd2 sl sl2 (by rw [List.size_toArray, List.size_toArray]; omega)) ⟨ho, ho2, ?_⟩
  rw [e]
  exact ⟨.ref _, _, I.lnew (t' := s.toks) (r.append r2) (by rw [List.length_append]; omega), rfl, q _ I.fresh⟩
def gCatL (m : Bool) (x y : D) (μ : Sto) (Q : DQ) : Prop := ∃ xs ys, getL μ x = some xs ∧ getL μ y = some ys ∧ xs.length + ys.length ≤ sizeLine ∧ newL m (xs ++ ys) μ Q
def gAdd (m : Bool) : DR2 := fun x y μ Q => match x with
  | .int i => (match y with
    | .int j => Q (.int (i + j)) μ
    | _ => False)
  | .str s => (match y with
    | .str t => s.length + t.length ≤ sizeLine ∧ Q (.str (s ++ t)) μ
    | _ => False)
  | .tup xs => (match y with
    | .tup ys => xs ≠ [] ∧ xs.length + ys.length ≤ sizeLine ∧ Q (.tup (xs ++ ys)) μ
    | _ => False)
  | .lst xs => gCatL m (.lst xs) y μ Q
  | .cell a => gCatL m (.cell a) y μ Q
  | _ => False
section
variable {T : Tab} {X : Cx}
theorem catL_ok {m : Bool} {G F H : Hp} {μ : Sto} {x y : V} {dx dy : D} {Q0 : DQ} {Q : VK} (hS : StR T X.K G F H μ) (rx : Rep T X.K F x dx) (ry : Rep T X.K F y dy) (g : gCatL m dx dy μ Q0) (hQ : Kon T X.K G F (Rep T X.K) Q0 Q) : rCatL X.K x y H Q := by
  obtain ⟨xs, ys, e1, e2, z, q⟩ := g
  obtain ⟨a, vs, rfl, h1, r1⟩ := getL_ok hS rx e1
  obtain ⟨b, ws, rfl, h2, r2⟩ := getL_ok hS ry e2
  exact ⟨a, b, vs, ws, rfl, rfl, h1, h2, by rw [r1.length, r2.length]; exact z, fun p n => newL_ok hS (r1.append r2) q hQ (Le.refl F) n⟩
theorem opd_add (m : Bool) : OpD T X (binaryOp .Add) (gAdd m) := OpR.imp (((op_add.or op_add_str).or op_catT).or op_catL) fun x y H Q h => by
  obtain ⟨G, F, μ, dx, dy, Q0, hS, rx, ry, g, hQ⟩ := h
  cases dx with
  | int i =>
    cases dy with
    | int j =>
      cases rx; cases ry
      exact .inl (.inl (.inl ⟨i, j, rfl, rfl, hQ _ μ g F H _ (Le.refl F) hS (.int _)⟩))
    | _ => exact False.elim g
  | str s =>
    cases dy with
    | str t =>
      cases rx; cases ry
      exact .inl (.inl (.inr ⟨s, t, rfl, rfl, g.1, hQ _ μ g.2 F H _ (Le.refl F) hS (.str _)⟩))
    | _ => exact False.elim g
  | tup xs =>
    cases dy with
    | tup ys =>
      cases rx with
      | tup h1 r1 =>
      cases ry with
      | tup h2 r2 =>
        rename_i a vs b ws
        obtain ⟨g1, g2, g3⟩ := g
        refine .inl (.inr ⟨a, b, vs, ws, rfl, rfl, hS.sqT h1, hS.sqT h2, fun z => ?_, by rw [r1.length, r2.length]; exact g2, fun z => ?_, fun z p n => ?_⟩)
        · subst z; cases r1; exact g1 rfl
        · subst z; cases r2
          rw [List.append_nil] at g3
          exact hQ _ μ g3 F H _ (Le.refl F) hS (.tup h1 r1)
        · have e := Le.new (o := .tup (vs ++ ws)) (hS.fresh n)
          exact hQ _ μ g3 _ _ _ e (hS.new n) (.tup (SqT.of upd_same) ((r1.append r2).mono e))
    | _ => exact False.elim g
  | lst xs => exact .inr (catL_ok hS rx ry g hQ)
  | cell a => exact .inr (catL_ok hS rx ry g hQ)
  | _ => exact False.elim g
/-- two ints -/
def gI (C : Int → Int → Prop) (f : Int → Int → D) : DR2 := fun x y μ Q => match x with
  | .int i => (match y with
    | .int j => C i j ∧ Q (f i j) μ
    | _ => False)
  | _ => False
def gI0 (f : Int → Int → D) : DR2 := fun x y μ Q => match x with
  | .int i => (match y with
    | .int j => Q (f i j) μ
    | _ => False)
  | _ => False
theorem opd_I {f : Value → Value → Sem Value} {C : Int → Int → Prop} {g : Int → Int → V} {gd : Int → Int → D} (h : OpR X f (rI C g)) (e : ∀ i j F, Rep T X.K F (g i j) (gd i j)) : OpD T X f (gI C gd) := OpR.imp h fun x y H Q h => by
  obtain ⟨G, F, μ, dx, dy, Q0, hS, rx, ry, g, hQ⟩ := h
  cases dx with
  | int i =>
    cases dy with
    | int j =>
      cases rx; cases ry
      exact ⟨i, j, rfl, rfl, g.1, hQ _ μ g.2 F H _ (Le.refl F) hS (e i j F)⟩
    | _ => exact False.elim g
  | _ => exact False.elim g
theorem opd_I0 {f : Value → Value → Sem Value} {g : Int → Int → V} {gd : Int → Int → D} (h : OpR X f (rI0 g)) (e : ∀ i j F, Rep T X.K F (g i j) (gd i j)) : OpD T X f (gI0 gd) := OpR.imp h fun x y H Q h => by
  obtain ⟨G, F, μ, dx, dy, Q0, hS, rx, ry, g, hQ⟩ := h
  cases dx with
  | int i =>
    cases dy with
    | int j =>
      cases rx; cases ry
      exact ⟨i, j, rfl, rfl, hQ _ μ g F H _ (Le.refl F) hS (e i j F)⟩
    | _ => exact False.elim g
  | _ => exact False.elim g
def CMulA (i j : Int) : Prop := CMul i j ∨ CMulW i j
abbrev gSub : DR2 := gI0 fun i j => .int (i - j)
abbrev gMulI : DR2 := gI CMulA fun i j => .int (i * j)
abbrev gDiv : DR2 := gI CDivW fun i j => .int (i / j)
abbrev gMod : DR2 := gI (fun _ j => 0 < j) fun i j => .int (i % j)
abbrev gPow : DR2 := gI CPow fun i j => .int (i ^ j.toNat)
abbrev gLt : DR2 := gI0 fun i j => .bl (decide (i < j))
abbrev gLe : DR2 := gI0 fun i j => .bl (decide (i ≤ j))
abbrev gGt : DR2 := gI0 fun i j => .bl (decide (j < i))
abbrev gGe : DR2 := gI0 fun i j => .bl (decide (j ≤ i))
theorem opd_sub : OpD T X (binaryOp .Sub) gSub := opd_I0 op_sub fun _ _ _ => .int _
theorem op_mulA : OpR X (binaryOp .Mult) (rI CMulA fun i j => .int (i * j)) := opI fun _ _ _ _ _ _ _ hc q => mul_int q (hc.elim (·.ok) (·.ok))
theorem opd_mulI : OpD T X (binaryOp .Mult) gMulI := opd_I op_mulA fun _ _ _ => .int _
theorem opd_div : OpD T X (binaryOp .FloorDiv) gDiv := opd_I op_fdivW fun _ _ _ => .int _
theorem opd_mod : OpD T X (binaryOp .Mod) gMod := opd_I op_mod fun _ _ _ => .int _
theorem opd_pow : OpD T X (binaryOp .Pow) gPow := opd_I op_pow fun _ _ _ => .int _
theorem opd_lt : OpD T X (compareOp .Lt) gLt := opd_I0 op_lt fun _ _ _ => .bl _
theorem opd_le : OpD T X (compareOp .LtE) gLe := opd_I0 op_le fun _ _ _ => .bl _
theorem opd_gt : OpD T X (compareOp .Gt) gGt := opd_I0 op_gt fun _ _ _ => .bl _
theorem opd_ge : OpD T X (compareOp .GtE) gGe := opd_I0 op_ge fun _ _ _ => .bl _
/-- -a -/
def dNeg (ma : DM) : DM := fun env μ Q E => ma env μ (fun x μ1 => match x with
  | .int i => Q (.int (-i)) μ1
  | _ => False) E
variable {a b c : Expr} {ma mb mc : DM} {pos : Pos}
theorem se_neg (ha : SE T X a ma) : SE T X (.UnaryOp .USub a pos) (dNeg ma) := by
  refine ⟨fun W tk => PE.imp (pe_un un_neg (ha.run W tk)) fun σ H Q h => ?_⟩
  obtain ⟨F, env, μ, Q0, E0, hE, hS, hm, hQ, hX⟩ := h
  refine ⟨F, env, μ, _, E0, hE, hS, hm, fun d μ1 q F1 H1 v l hS1 rv => ?_, hX⟩
  cases d with
  | int i =>
    cases rv
    exact ⟨i, rfl, hQ _ μ1 q F1 H1 _ l hS1 (.int _)⟩
  | _ => exact False.elim q
/-- is None -/
def isND : D → Option Bool
  | .non => some true
  | .val _ => none
  | _ => some false
def dIsN (f : Bool → Bool) (ma : DM) : DM := fun env μ Q E => ma env μ (fun x μ1 => ∃ b, isND x = some b ∧ Q (.bl (f b)) μ1) E
theorem isND_ok {F : Hp} {v : V} {d : D} {b : Bool} (r : Rep T X.K F v d) (h : isND d = some b) : decide (v = .non) = b := by
  cases r <;> first | (cases h; rfl) | (cases h; simp) | cases h
theorem se_isN {j p} (ha : SE T X a ma) : SE T X (.Compare a [.Is] [.Constant .none j p] pos) (dIsN id ma) := by
  refine ⟨fun W tk => PE.imp (pe_cmp (pc_isN (ha.run W tk)) rfl) fun σ H Q h => ?_⟩
  obtain ⟨F, env, μ, Q0, E0, hE, hS, hm, hQ, hX⟩ := h
  refine ⟨F, env, μ, _, E0, hE, hS, hm, fun d μ1 q F1 H1 v l hS1 rv => ?_, hX⟩
  obtain ⟨b, e, q⟩ := q
  rw [isND_ok rv e]
  exact hQ _ μ1 q F1 H1 _ l hS1 (.bl _)
theorem se_notN {j p} (ha : SE T X a ma) : SE T X (.Compare a [.IsNot] [.Constant .none j p] pos) (dIsN not ma) := by
  refine ⟨fun W tk => PE.imp (pe_cmp (pc_notN (ha.run W tk)) rfl) fun σ H Q h => ?_⟩
  obtain ⟨F, env, μ, Q0, E0, hE, hS, hm, hQ, hX⟩ := h
  refine ⟨F, env, μ, _, E0, hE, hS, hm, fun d μ1 q F1 H1 v l hS1 rv => ?_, hX⟩
  obtain ⟨b, e, q⟩ := q
  rw [isND_ok rv e]
  exact hQ _ μ1 q F1 H1 _ l hS1 (.bl _)
theorem st_isN {j p} (ha : SE T X a ma) : ST T X (.Compare a [.Is] [.Constant .none j p] pos) (dTst (dIsN id ma)) := by
  refine ⟨fun W tk => PT.imp (pt_cmp (pc_isN (ha.run W tk)) rfl) fun σ H Q h => ?_⟩
  obtain ⟨F, env, μ, Q0, E0, hE, hS, hm, hQ, hX⟩ := h
  refine ⟨F, env, μ, _, E0, hE, hS, hm, fun d μ1 q F1 H1 v l hS1 rv => ?_, hX⟩
  obtain ⟨b, e, q⟩ := q
  rw [isND_ok rv e]
  exact ⟨b, rfl, hQ _ μ1 q F1 H1 _ l hS1 rfl⟩
theorem st_notN {j p} (ha : SE T X a ma) : ST T X (.Compare a [.IsNot] [.Constant .none j p] pos) (dTst (dIsN not ma)) := by
  refine ⟨fun W tk => PT.imp (pt_cmp (pc_notN (ha.run W tk)) rfl) fun σ H Q h => ?_⟩
  obtain ⟨F, env, μ, Q0, E0, hE, hS, hm, hQ, hX⟩ := h
  refine ⟨F, env, μ, _, E0, hE, hS, hm, fun d μ1 q F1 H1 v l hS1 rv => ?_, hX⟩
  obtain ⟨b, e, q⟩ := q
  rw [isND_ok rv e]
  exact ⟨!b, rfl, hQ _ μ1 q F1 H1 _ l hS1 rfl⟩

/-! ### and, or, not, if -/
/-- one of two ways -/
def br (b : Bool) (A B : Prop) : Prop := (b = true → A) ∧ (b = false → B)
theorem br_ite {b : Bool} {A B : Prop} (h : br b A B) : if b = true then A else B := by
  cases b with
  | true => exact iteT (h.1 rfl)
  | false => exact iteF (h.2 rfl)
def dAnd (t u : DT) : DT := fun env μ Q E => t env μ (fun b μ1 => br b (u env μ1 Q E) (Q false μ1)) E
def dOr (t u : DT) : DT := fun env μ Q E => t env μ (fun b μ1 => br b (Q true μ1) (u env μ1 Q E)) E
def dNot (t : DT) : DT := fun env μ Q E => t env μ (fun b μ1 => Q (!b) μ1) E
variable {t u : DT} {rest : List Expr}
theorem tT_and {W : WG} {K : PySem.W.Frag} {σ : L2.St} {H : Hp} {Q : Bool → Hp → Prop} (h : tT T K W (dAnd t u) σ H Q) : tAnd (tT T K W t) (tT T K W u) σ H Q := by
  obtain ⟨F, env, μ, Q0, E0, hE, hS, hm, hQ, hX⟩ := h
  refine ⟨F, env, μ, _, E0, hE, hS, hm, fun d μ1 q F1 H1 v l hS1 rv => ?_, hX⟩
  have e : v = d := rv
  subst e
  refine br_ite ⟨fun hv => ?_, fun hv => ?_⟩
  · exact ⟨F1, env, μ1, Q0, E0, hE.mono l, hS1, q.1 hv, hQ.mono l, hX.mono l⟩
  · exact hQ false μ1 (q.2 hv) F1 H1 false l hS1 rfl
theorem tT_or {W : WG} {K : PySem.W.Frag} {σ : L2.St} {H : Hp} {Q : Bool → Hp → Prop} (h : tT T K W (dOr t u) σ H Q) : tOr (tT T K W t) (tT T K W u) σ H Q := by
  obtain ⟨F, env, μ, Q0, E0, hE, hS, hm, hQ, hX⟩ := h
  refine ⟨F, env, μ, _, E0, hE, hS, hm, fun d μ1 q F1 H1 v l hS1 rv => ?_, hX⟩
  have e : v = d := rv
  subst e
  refine br_ite ⟨fun hv => ?_, fun hv => ?_⟩
  · exact hQ true μ1 (q.1 hv) F1 H1 true l hS1 rfl
  · exact ⟨F1, env, μ1, Q0, E0, hE.mono l, hS1, q.2 hv, hQ.mono l, hX.mono l⟩
theorem sw_and1 (h : ST T X a t) : SW T X (.BoolOp .And [a] pos) t := ⟨fun W tk => pw_and1 (h.run W tk)⟩
theorem sw_or1 (h : ST T X a t) : SW T X (.BoolOp .Or [a] pos) t := ⟨fun W tk => pw_or1 (h.run W tk)⟩
theorem sw_and (h : ST T X a t) (k : SW T X (.BoolOp .And (b :: rest) pos) u) : SW T X (.BoolOp .And (a :: b :: rest) pos) (dAnd t u) := ⟨fun W tk => PW.imp (pw_and (h.run W tk) (k.run W tk)) fun _ _ _ q => tT_and q⟩
theorem sw_or (h : ST T X a t) (k : SW T X (.BoolOp .Or (b :: rest) pos) u) : SW T X (.BoolOp .Or (a :: b :: rest) pos) (dOr t u) := ⟨fun W tk => PW.imp (pw_or (h.run W tk) (k.run W tk)) fun _ _ _ q => tT_or q⟩
theorem SW.st {e : Expr} (h : SW T X e t) : ST T X e t := ⟨fun W tk => (h.run W tk).pt⟩
theorem st_not (h : ST T X a t) : ST T X (.UnaryOp .Not a pos) (dNot t) := by
  refine ⟨fun W tk => PT.imp (pt_not (h.run W tk)) fun σ H Q q => ?_⟩
  obtain ⟨F, env, μ, Q0, E0, hE, hS, hm, hQ, hX⟩ := q
  refine ⟨F, env, μ, _, E0, hE, hS, hm, fun d μ1 q F1 H1 v l hS1 rv => ?_, hX⟩
  have e : v = d := rv
  subst e
  exact hQ _ μ1 q F1 H1 _ l hS1 rfl
/-- the same as values, bools -/
def dAndV (ma mb : DM) : DM := fun env μ Q E => ma env μ (fun x μ1 => match x with
  | .bl b => br b (mb env μ1 Q E) (Q (.bl false) μ1)
  | _ => False) E
def dOrV (ma mb : DM) : DM := fun env μ Q E => ma env μ (fun x μ1 => match x with
  | .bl b => br b (Q (.bl true) μ1) (mb env μ1 Q E)
  | _ => False) E
def dNotV (ma : DM) : DM := fun env μ Q E => ma env μ (fun x μ1 => match x with
  | .bl b => Q (.bl (!b)) μ1
  | _ => False) E
theorem se_one {op} (h : SE T X a ma) : SE T X (.BoolOp op [a] pos) ma := ⟨fun W tk => pe_one (h.run W tk)⟩
theorem se_and (h : SE T X a ma) (k : SE T X (.BoolOp .And (b :: rest) pos) mb) : SE T X (.BoolOp .And (a :: b :: rest) pos) (dAndV ma mb) := by
  refine ⟨fun W tk => PE.imp (pe_and (h.run W tk) (k.run W tk)) fun σ H Q q => ?_⟩
  obtain ⟨F, env, μ, Q0, E0, hE, hS, hm, hQ, hX⟩ := q
  refine ⟨F, env, μ, _, E0, hE, hS, hm, fun d μ1 q F1 H1 v l hS1 rv => ?_, hX⟩
  obtain ⟨k, e, q⟩ := chain_of (P := fun k => br k _ _) q
  subst e
  cases rv
  refine ⟨k, rfl, br_ite ⟨fun hv => ?_, fun hv => ?_⟩⟩
  · exact ⟨F1, env, μ1, Q0, E0, hE.mono l, hS1, q.1 hv, hQ.mono l, hX.mono l⟩
  · exact hQ _ μ1 (q.2 hv) F1 H1 _ l hS1 (.bl false)
theorem se_or (h : SE T X a ma) (k : SE T X (.BoolOp .Or (b :: rest) pos) mb) : SE T X (.BoolOp .Or (a :: b :: rest) pos) (dOrV ma mb) := by
  refine ⟨fun W tk => PE.imp (pe_or (h.run W tk) (k.run W tk)) fun σ H Q q => ?_⟩
  obtain ⟨F, env, μ, Q0, E0, hE, hS, hm, hQ, hX⟩ := q
  refine ⟨F, env, μ, _, E0, hE, hS, hm, fun d μ1 q F1 H1 v l hS1 rv => ?_, hX⟩
  obtain ⟨k, e, q⟩ := chain_of (P := fun k => br k _ _) q
  subst e
  cases rv
  refine ⟨k, rfl, br_ite ⟨fun hv => ?_, fun hv => ?_⟩⟩
  · exact hQ _ μ1 (q.1 hv) F1 H1 _ l hS1 (.bl true)
  · exact ⟨F1, env, μ1, Q0, E0, hE.mono l, hS1, q.2 hv, hQ.mono l, hX.mono l⟩
theorem se_not (h : SE T X a ma) : SE T X (.UnaryOp .Not a pos) (dNotV ma) := by
  refine ⟨fun W tk => PE.imp (pe_not (h.run W tk)) fun σ H Q q => ?_⟩
  obtain ⟨F, env, μ, Q0, E0, hE, hS, hm, hQ, hX⟩ := q
  refine ⟨F, env, μ, _, E0, hE, hS, hm, fun d μ1 q F1 H1 v l hS1 rv => ?_, hX⟩
  obtain ⟨k, e, q⟩ := chain_of (P := fun k => Q0 (.bl (!k)) μ1) q
  subst e
  cases rv
  exact ⟨k, rfl, hQ _ μ1 q F1 H1 _ l hS1 (.bl _)⟩
def dIf (t : DT) (ma mb : DM) : DM := fun env μ Q E => t env μ (fun b μ1 => br b (ma env μ1 Q E) (mb env μ1 Q E)) E
theorem se_if (h : ST T X c t) (ha : SE T X a ma) (hb : SE T X b mb) : SE T X (.IfExp c a b pos) (dIf t ma mb) := by
  refine ⟨fun W tk => PE.imp (pe_ifExp (h.run W tk) (ha.run W tk) (hb.run W tk)) fun σ H Q q => ?_⟩
  obtain ⟨F, env, μ, Q0, E0, hE, hS, hm, hQ, hX⟩ := q
  refine ⟨F, env, μ, _, E0, hE, hS, hm, fun d μ1 q F1 H1 v l hS1 rv => ?_, hX⟩
  have e : v = d := rv
  subst e
  refine br_ite ⟨fun hv => ?_, fun hv => ?_⟩
  · exact ⟨F1, env, μ1, Q0, E0, hE.mono l, hS1, q.1 hv, hQ.mono l, hX.mono l⟩
  · exact ⟨F1, env, μ1, Q0, E0, hE.mono l, hS1, q.2 hv, hQ.mono l, hX.mono l⟩
end
end DL

/-! DL4: displays, statements, targets, loops, comprehensions. -/
namespace DL
open PySem PySem.Spec PyProof.Rows L2

/-! ### argument lists, displays -/
def dNil : DA := fun _ μ Q _ => Q [] μ
def dCons (ma : DM) (mt : DA) : DA := fun env μ Q E => ma env μ (fun x μ1 => mt env μ1 (fun xs μ2 => Q (x :: xs) μ2) E) E
def dTup (mt : DA) : DM := fun env μ Q E => mt env μ (fun xs μ1 => Nat.ble xs.length 1000 = true ∧ Q (.tup xs) μ1) E
def dLst (m : Bool) (mt : DA) : DM := fun env μ Q E => mt env μ (fun xs μ1 => Nat.ble xs.length 1000 = true ∧ newL m xs μ1 Q) E
theorem small_line {n : Nat} (h : Nat.ble n 1000 = true) : n ≤ sizeLine := Nat.le_trans (Nat.le_of_ble_eq_true h) (by decide)
section
variable {T : Tab} {X : Cx} {e : Expr} {es : List Expr} {ma : DM} {mt : DA} {pos : Pos}
theorem sa_nil : SA T X [] dNil := ⟨fun W _ => PA.imp pa_nil fun σ H Q ⟨F, env, μ, Q0, E0, hE, hS, hm, hQ, _⟩ => hQ [] μ hm F H [] (Le.refl F) hS .nil⟩
theorem sa_cons (ha : SE T X e ma) (hr : SA T X es mt) (hs : starEach (e :: es) X.env = (false, eval e X.env) :: starEach es X.env := by rfl) : SA T X (e :: es) (dCons ma mt) := by
  refine ⟨fun W tk => PA.imp (pa_cons (ha.run W tk) (hr.run W tk) hs) fun σ H Q h => ?_⟩
  obtain ⟨F, env, μ, Q0, E0, hE, hS, hm, hQ, hX⟩ := h
  refine ⟨F, env, μ, _, E0, hE, hS, hm, fun d μ1 q F1 H1 v l hS1 rv => ?_, hX⟩
  refine ⟨F1, env, μ1, _, E0, hE.mono l, hS1, q, fun xs μ2 q2 F2 H2 vs l2 hS2 rs => ?_, hX.mono l⟩
  exact hQ _ μ2 q2 F2 H2 _ (l.trans l2) hS2 (.cons (rv.mono l2) rs)
theorem se_tup {x1} (h : SA T X es mt) : SE T X (.Tuple es x1 pos) (dTup mt) := by
  refine ⟨fun W tk => PE.imp (pe_tup (h.run W tk)) fun σ H Q h => ?_⟩
  obtain ⟨F, env, μ, Q0, E0, hE, hS, hm, hQ, hX⟩ := h
  refine ⟨F, env, μ, _, E0, hE, hS, hm, fun xs μ1 q F1 H1 vs l hS1 rs => ⟨by rw [rs.length]; exact small_line q.1, fun p n => ?_⟩, hX⟩
  have e := Le.new (o := .tup vs) (hS1.fresh n)
  exact hQ _ μ1 q.2 _ _ _ (l.trans e) (hS1.new n) (.tup (SqT.of upd_same) (rs.mono e))
theorem se_lst (m : Bool) (h : SA T X es mt) : SE T X (.List es pos) (dLst m mt) := by
  refine ⟨fun W tk => PE.imp (pe_lst (h.run W tk)) fun σ H Q h => ?_⟩
  obtain ⟨F, env, μ, Q0, E0, hE, hS, hm, hQ, hX⟩ := h
  refine ⟨F, env, μ, _, E0, hE, hS, hm, fun xs μ1 q F1 H1 vs l hS1 rs => ⟨by rw [rs.length]; exact small_line q.1, fun p n => ?_⟩, hX⟩
  exact newL_ok hS1 rs q.2 hQ l n
end

/-! ### blocks and small statements -/
def dSeq (a b : DS) : DS := fun env μ K => a env μ { K with nx := fun e m => b e m K }
def dNext : DS := fun env μ K => K.nx env μ
def dBreak : DS := fun env μ K => K.bk env μ
def dCont : DS := fun env μ K => K.ct env μ
def dDrop (m : DM) : DS := fun env μ K => m env μ (fun _ μ1 => K.nx env μ1) (fun x μ1 => K.ex x env μ1)
def dRet (m : DM) : DS := fun env μ K => m env μ K.rt (fun x μ1 => K.ex x env μ1)
def dRetN : DS := fun _ μ K => K.rt .non μ
def dIfS (t : DT) (a b : DS) : DS := fun env μ K => t env μ (fun c μ1 => br c (a env μ1 K) (b env μ1 K)) (fun x μ1 => K.ex x env μ1)
def dNever : DS := fun _ _ _ => False
section
variable {T : Tab} {X : Cx} {st : Stmt} {rest : List Stmt} {e c : Expr} {m : DM} {a b : DS} {t : DT} {pos : Pos}
theorem EndsR.kx {K : PySem.W.Frag} {W : WG} {F : Hp} {k : DEnds} {D : Ends} {σ : L2.St} {env : Env'} (h : EndsR T K W F k D) (hE : EnvR T K F σ env) : KonX T K W F σ (fun x μ => k.ex x env μ) :=
  fun x μ q F' H' cls dd l hS hx => h.ex x env μ F' H' σ cls dd q l (hE.mono l) hS hx
theorem sb_nil : SB T X [] dNext := ⟨fun W _ => PSs.imp pss_nil fun D σ H ⟨F, env, μ, k, hE, hS, hm, hK⟩ => hK.nx env μ F H σ hm (Le.refl F) hE hS⟩
theorem tS_seq {K : PySem.W.Frag} {W : WG} {D : Ends} {σ : L2.St} {H : Hp} (h : tS T K W (dSeq a b) D σ H) : tSeq (tS T K W a) (tS T K W b) D σ H := by
  obtain ⟨F, env, μ, k, hE, hS, hm, hK⟩ := h
  refine ⟨F, env, μ, _, hE, hS, hm, ⟨fun env' μ' F' H' σ' q l hE' hS' => ⟨F', env', μ', k, hE', hS', q, hK.mono l⟩, hK.rt, hK.bk, hK.ct, hK.ex⟩⟩
theorem sb_cons (h1 : SS T X st a) (h2 : SB T X rest b) : SB T X (st :: rest) (dSeq a b) := ⟨fun W tk => PSs.imp (pss_cons (h1.run W tk) (h2.run W tk)) fun _ _ _ h => tS_seq h⟩
theorem sb_one (h1 : SS T X st a) : SB T X [st] a := ⟨fun W tk => pss_one (h1.run W tk)⟩
theorem ss_pass : SS T X (.Pass pos) dNext := ⟨fun W _ => PS.imp ps_pass fun D σ H ⟨F, env, μ, k, hE, hS, hm, hK⟩ => hK.nx env μ F H σ hm (Le.refl F) hE hS⟩
theorem ss_break : SS T X (.Break pos) dBreak := ⟨fun W _ => PS.imp ps_break fun D σ H ⟨F, env, μ, k, hE, hS, hm, hK⟩ => hK.bk env μ F H σ hm (Le.refl F) hE hS⟩
theorem ss_cont : SS T X (.Continue pos) dCont := ⟨fun W _ => PS.imp ps_continue fun D σ H ⟨F, env, μ, k, hE, hS, hm, hK⟩ => hK.ct env μ F H σ hm (Le.refl F) hE hS⟩
theorem ss_expr (h : SE T X e m) (hs : swapsWith e none pos.line X.env = pure false := by rfl) : SS T X (.Expr e pos) (dDrop m) := by
  refine ⟨fun W tk => PS.imp (ps_expr (h.run W tk) hs) fun D σ H h => ?_⟩
  obtain ⟨F, env, μ, k, hE, hS, hm, hK⟩ := h
  exact ⟨F, env, μ, _, _, hE, hS, hm, fun d μ1 q F1 H1 v l hS1 rv => hK.nx env μ1 F1 H1 σ q l (hE.mono l) hS1, hK.kx hE⟩
theorem ss_ret (h : SE T X e m) : SS T X (.Return (some e) pos) (dRet m) := by
  refine ⟨fun W tk => PS.imp (ps_ret (h.run W tk)) fun D σ H h => ?_⟩
  obtain ⟨F, env, μ, k, hE, hS, hm, hK⟩ := h
  exact ⟨F, env, μ, _, _, hE, hS, hm, fun d μ1 q F1 H1 v l hS1 rv => hK.rt d μ1 F1 H1 v q l hS1 rv, hK.kx hE⟩
theorem ss_retN : SS T X (.Return none pos) dRetN := ⟨fun W _ => PS.imp ps_retN fun D σ H ⟨F, env, μ, k, hE, hS, hm, hK⟩ => hK.rt .non μ F H .non hm (Le.refl F) hS .non⟩
theorem ss_if {sa sb : List Stmt} (h : ST T X c t) (ha : SB T X sa a) (hb : SB T X sb b) : SS T X (.If c sa sb pos) (dIfS t a b) := by
  refine ⟨fun W tk => PS.imp (ps_if (h.run W tk) (ha.run W tk) (hb.run W tk)) fun D σ H h => ?_⟩
  obtain ⟨F, env, μ, k, hE, hS, hm, hK⟩ := h
  refine ⟨F, env, μ, _, _, hE, hS, hm, fun d μ1 q F1 H1 v l hS1 rv => ?_, hK.kx hE⟩
  have e : v = d := rv
  subst e
  exact br_ite ⟨fun hv => ⟨F1, env, μ1, k, hE.mono l, hS1, q.1 hv, hK.mono l⟩, fun hv => ⟨F1, env, μ1, k, hE.mono l, hS1, q.2 hv, hK.mono l⟩⟩
theorem ss_never : SS T X st dNever := ⟨fun _ _ => PS.imp ps_never fun _ _ _ ⟨_, _, _, _, _, _, h, _⟩ => h⟩
theorem sb_never {sts : List Stmt} : SB T X sts dNever := ⟨fun _ _ => PSs.imp pss_never fun _ _ _ ⟨_, _, _, _, _, _, h, _⟩ => h⟩
end

/-! ### targets -/
/-- only the slots vs differ -/
def Wp (vs : List Nat) (σ σ' : L2.St) : Prop := ∀ us : List Nat, (∀ i ∈ vs, i ∈ us) → wipe σ' us = wipe σ us
theorem Wp.refl (σ : L2.St) : Wp [] σ σ := fun _ _ => rfl
theorem wipe_set {σ : L2.St} {i : Nat} {x : Option V} : ∀ {us : List Nat}, i ∈ us → wipe (σ.set i x) us = wipe σ us
  | [], h => nomatch h
  | u :: us, h => by
    unfold wipe
    by_cases hu : i ∈ us
    · rw [wipe_set hu]
    · rcases List.mem_cons.mp h with e | e
      · subst e
        have c : ∀ (vs : List Nat), i ∉ vs → wipe (σ.set i x) vs = (wipe σ vs).set i x := fun vs => by
          induction vs with
          | nil => intro _; rfl
          | cons v vs ih =>
            intro hn
            have h1 : i ≠ v := fun z => hn (z ▸ List.mem_cons_self)
            have h2 : i ∉ vs := fun z => hn (List.mem_cons_of_mem _ z)
            unfold wipe
            rw [ih h2, List.set_comm _ _ h1]
        rw [c us hu, List.set_set]
      · exact absurd e hu
theorem Wp.set (σ : L2.St) (i : Nat) (x : Option V) : Wp [i] σ (σ.set i x) := fun us h => wipe_set (h i (by simp))
theorem Wp.trans {vs ws : List Nat} {a b c : L2.St} (h : Wp vs a b) (k : Wp ws b c) : Wp (vs ++ ws) a c := fun us hu =>
  (k us fun i hi => hu i (List.mem_append_right _ hi)).trans (h us fun i hi => hu i (List.mem_append_left _ hi))
abbrev DG := D → Env' → Sto → (Env' → Sto → Prop) → Prop
abbrev DGs := List D → Env' → Sto → (Env' → Sto → Prop) → Prop
def KonG (T : Tab) (K : PySem.W.Frag) (G F : Hp) (vs : List Nat) (σ : L2.St) (Q0 : Env' → Sto → Prop) (Q : L2.St → Hp → Prop) : Prop :=
  ∀ env' μ', Q0 env' μ' → ∀ F' H' σ', Le F F' → EnvR T K F' σ' env' → StR T K G F' H' μ' → Wp vs σ σ' → Q σ' H'
def tGd (T : Tab) (K : PySem.W.Frag) (vs : List Nat) (g : DG) : TG := fun v σ H Q => ∃ G F env μ d Q0, EnvR T K F σ env ∧ StR T K G F H μ ∧ Rep T K F v d ∧ g d env μ Q0 ∧ KonG T K G F vs σ Q0 Q
def tGds (T : Tab) (K : PySem.W.Frag) (vs : List Nat) (g : DGs) : TGs := fun xs σ H Q => ∃ G F env μ ds Q0, EnvR T K F σ env ∧ StR T K G F H μ ∧ Reps T K F xs ds ∧ g ds env μ Q0 ∧ KonG T K G F vs σ Q0 Q
def SG (T : Tab) (X : Cx) (tg : Expr) (vs : List Nat) (g : DG) : Prop := PG X tg (tGd T X.K vs g)
def SGs (T : Tab) (X : Cx) (tgs : List Expr) (vs : List Nat) (g : DGs) : Prop := PGs X tgs (tGds T X.K vs g)
theorem PG.imp {X : Cx} {e : Expr} {t t' : TG} (h : PG X e t) (k : ∀ v σ H Q, t' v σ H Q → t v σ H Q) : PG X e t' := ⟨fun pins s σ H v u Q I r q => h.run pins s σ H v u Q I r (k _ _ _ _ q)⟩
theorem PGs.imp {X : Cx} {e : List Expr} {t t' : TGs} (h : PGs X e t) (k : ∀ v σ H Q, t' v σ H Q → t v σ H Q) : PGs X e t' := ⟨fun pins s σ H v u Q I r q => h.run pins s σ H v u Q I r (k _ _ _ _ q)⟩
theorem PG.or {X : Cx} {e : Expr} {t t' : TG} (h : PG X e t) (k : PG X e t') : PG X e (fun v σ H Q => t v σ H Q ∨ t' v σ H Q) := ⟨fun pins s σ H v u Q I r q => q.elim (h.run pins s σ H v u Q I r) (k.run pins s σ H v u Q I r)⟩
def gdName (i : Nat) : DG := fun d env μ Q => Q (env.set i (some d)) μ
def gdNil : DGs := fun ds env μ Q => match ds with
  | [] => Q env μ
  | _ => False
def gdCons (g : DG) (gs : DGs) : DGs := fun ds env μ Q => match ds with
  | d :: r => g d env μ fun env' μ' => gs r env' μ' Q
  | [] => False
/-- the items of a tuple, a list -/
def getS (μ : Sto) : D → Option (List D)
  | .tup xs => some xs
  | d => getL μ d
def gdTup (n : Nat) (gs : DGs) : DG := fun d env μ Q => ∃ xs, getS μ d = some xs ∧ xs.length = n ∧ gs xs env μ Q
section
variable {T : Tab} {X : Cx} {pos : Pos} {vs ws : List Nat} {g : DG} {gs : DGs}
theorem getS_ok {K : PySem.W.Frag} {G F H : Hp} {μ : Sto} {v : V} {d : D} {xs : List D} (h : StR T K G F H μ) (r : Rep T K F v d) (e : getS μ d = some xs) : ∃ a vs, v = .ref a ∧ (SqT K H a vs ∨ SqL K H a vs) ∧ Reps T K F vs xs := by
  cases d with
  | tup ys =>
    cases e
    cases r with
    | tup h1 r1 => exact ⟨_, _, rfl, .inl (h.sqT h1), r1⟩
  | lst ys => obtain ⟨a, vs, h1, h2, h3⟩ := getL_ok h r e; exact ⟨a, vs, h1, .inr h2, h3⟩
  | cell a => obtain ⟨a, vs, h1, h2, h3⟩ := getL_ok h r e; exact ⟨a, vs, h1, .inr h2, h3⟩
  | _ => cases e
theorem sg_name (i : Nat) {x : Str} (hN : X.N.Nodup) (hi : X.N[i]? = some x := by rfl) (hx : Loc X.env.scope x := by first | exact Or.inl rfl | exact Or.inr rfl) (hf : X.fn x = true ∨ X.env.scope.names.lookup x = some .local := by first | exact .inl rfl | exact .inr rfl | assumption) : SG T X (.Name x pos) [i] (gdName i) :=
  PG.imp (pg_name hN hi hx hf) fun v σ H Q ⟨G, F, env, μ, d, Q0, hE, hS, rv, q, hQ⟩ => hQ _ μ q F H _ (Le.refl F) (hE.set rv) hS (Wp.set σ i _)
theorem sgs_nil : SGs T X [] [] gdNil := PGs.imp pgs_nil fun v σ H Q ⟨G, F, env, μ, ds, Q0, hE, hS, rv, q, hQ⟩ => by
  cases rv with
  | nil => exact ⟨rfl, hQ env μ q F H σ (Le.refl F) hE hS (Wp.refl σ)⟩
  | cons _ _ => exact q.elim
theorem sgs_cons {e : Expr} {es : List Expr} (h1 : SG T X e vs g) (h2 : SGs T X es ws gs)
    (hs : (assignEach (e :: es) X.env).map (·.2) = assign e X.env :: (assignEach es X.env).map (·.2) := by rfl) : SGs T X (e :: es) (vs ++ ws) (gdCons g gs) :=
  PGs.imp (pgs_cons h1 h2 hs) fun v σ H Q ⟨G, F, env, μ, ds, Q0, hE, hS, rv, q, hQ⟩ => by
    cases rv with
    | nil => exact q.elim
    | cons r rr =>
      refine ⟨_, _, rfl, G, F, env, μ, _, _, hE, hS, r, q, fun env' μ' q' F' H' σ' l hE' hS' wp => ?_⟩
      exact ⟨G, F', env', μ', _, _, hE', hS', rr.mono l, q', fun env2 μ2 q2 F2 H2 σ2 l2 hE2 hS2 wp2 => hQ env2 μ2 q2 F2 H2 σ2 (l.trans l2) hE2 hS2 (wp.trans wp2)⟩
theorem sg_tup {es : List Expr} {k : Nat} {n : Nat} (hc : X.calm = true) (h : SGs T X es vs gs)
    (hn : (assignEach es X.env).length = n := by rfl) (hst : (assignEach es X.env).findIdx? (·.1) = none := by rfl) : SG T X (.Tuple es k pos) vs (gdTup n gs) :=
  PG.imp (PG.or (pg_tup hc h hn hst) (pg_lst hc h hn hst)) fun v σ H Q ⟨G, F, env, μ, d, Q0, hE, hS, rv, q, hQ⟩ => by
    obtain ⟨xs, e1, e2, q⟩ := q
    obtain ⟨a, us, e3, h4, h5⟩ := getS_ok hS rv e1
    have hl : us.length = n := h5.length.trans e2
    rcases h4 with h4 | h4
    · exact .inl ⟨a, us, e3, h4, hl, G, F, env, μ, xs, Q0, hE, hS, h5, q, hQ⟩
    · exact .inr ⟨a, us, e3, h4, hl, G, F, env, μ, xs, Q0, hE, hS, h5, q, hQ⟩
/-- target = value -/
def dAsg (m : DM) (g : DG) : DS := fun env μ K => m env μ (fun d μ1 => g d env μ1 K.nx) (fun x μ1 => K.ex x env μ1)
theorem tS_asg {K : PySem.W.Frag} {W : WG} {m : DM} {te : TE} {tg : TG} {D : Ends} {σ : L2.St} {H : Hp} (he : ∀ σ H Q, tE T K W m σ H Q → te σ H Q) (hg : ∀ v σ H Q, tGd T K vs g v σ H Q → tg v σ H Q) (h : tS T K W (dAsg m g) D σ H) : tAsg te tg D σ H := by
  obtain ⟨F, env, μ, k, hE, hS, hm, hK⟩ := h
  refine he _ _ _ ⟨F, env, μ, _, _, hE, hS, hm, fun d μ1 q F1 H1 v l hS1 rv => hg _ _ _ _ ?_, hK.kx hE⟩
  exact ⟨W.G, F1, env, μ1, d, k.nx, hE.mono l, hS1, rv, q, fun env' μ' q' F' H' σ' l' hE' hS' _ => hK.nx env' μ' F' H' σ' q' (l.trans l') hE' hS'⟩
theorem ss_asg {tg e : Expr} {m : DM} (he : SE T X e m) (hg : SG T X tg vs g) (hs : swapsWithSole [tg] e pos.line X.env = pure false := by rfl) (hw : swappedStores [tg] e X.env = pure none := by rfl)
    (h1 : (assignEach [tg] X.env).map (·.2) = [assign tg X.env] := by rfl) : SS T X (.Assign [tg] e pos) (dAsg m g) :=
  ⟨fun W tk => PS.imp (ps_asg (he.run W tk) hg hs hw h1) fun _ _ _ h => tS_asg (fun _ _ _ h => h) (fun _ _ _ _ h => h) h⟩
theorem ss_set (i : Nat) {x : Str} {e : Expr} {m : DM} {pos' : Pos} (hN : X.N.Nodup) (he : SE T X e m) (hi : X.N[i]? = some x := by rfl) (hx : Loc X.env.scope x := by first | exact Or.inl rfl | exact Or.inr rfl) (hs : swapsWith e (some (.Name x pos')) pos.line X.env = pure false := by rfl)
    (hf : X.fn x = true ∨ X.env.scope.names.lookup x = some .local := by first | exact .inl rfl | exact .inr rfl | assumption) : SS T X (.Assign [.Name x pos'] e pos) (dAsg m (gdName i)) :=
  ⟨fun W tk => PS.imp (ps_set hN hi hx (he.run W tk) hs hf) fun _ _ _ h => tS_asg (vs := [i]) (fun _ _ _ h => h) (fun v σ H Q ⟨G, F, env, μ, d, Q0, hE, hS, rv, q, hQ⟩ => hQ _ μ q F H _ (Le.refl F) (hE.set rv) hS (Wp.set σ i _)) h⟩
/-- a, b = x, y, two plain names -/
def dPar (i j : Nat) (mt : DA) : DS := fun env μ K => mt env μ (fun ds μ1 => match ds with
  | [d, e] => K.nx ((env.set i (some d)).set j (some e)) μ1
  | _ => False) (fun x μ1 => K.ex x env μ1)
theorem ss_par (i j : Nat) {x y : Str} {a b : Expr} {mt : DA} {px py pt : Pos} {kt k2 pt2} (hc : X.calm = true) (hN : X.N.Nodup) (ha : SA T X [a, b] mt) (hij : i ≠ j := by decide)
    (hi : X.N[i]? = some x := by rfl) (hj : X.N[j]? = some y := by rfl) (hx : X.env.scope.names.lookup x = some .local := by rfl) (hy : X.env.scope.names.lookup y = some .local := by rfl)
    (hw : swappedStores [.Tuple [.Name x px, .Name y py] kt pt] (.Tuple [a, b] k2 pt2) X.env = pure (some [x, y]) := by rfl)
    (hs : swapsWithSole [.Tuple [.Name x px, .Name y py] kt pt] (.Tuple [a, b] k2 pt2) pos.line X.env = pure false := by rfl) :
    SS T X (.Assign [.Tuple [.Name x px, .Name y py] kt pt] (.Tuple [a, b] k2 pt2) pos) (dPar i j mt) := by
  refine ⟨fun W tk => PS.imp (ps_par hc hN hi hj hij hx hy (ha.run W tk) hw hs) fun D σ H h => ?_⟩
  obtain ⟨F, env, μ, k, hE, hS, hm, hK⟩ := h
  refine ⟨F, env, μ, _, _, hE, hS, hm, fun ds μ1 q F1 H1 us l hS1 rs => ?_, hK.kx hE⟩
  cases rs with
  | nil => exact q.elim
  | cons r1 rr =>
    cases rr with
    | nil => exact q.elim
    | cons r2 rr =>
      cases rr with
      | cons _ _ => exact q.elim
      | nil => exact ⟨_, _, rfl, hK.nx _ μ1 F1 H1 _ q l (((hE.mono l).set r1).set r2) hS1⟩
end

/-! ### walks -/
/-- what is walked: its items; what must stay at each turn -/
structure DIt where
  xs : List D
  keep : Sto → Prop
abbrev DI := Env' → Sto → (DIt → Sto → Prop) → DX → Prop
/-- the iterator gives the items -/
def ItR (T : Tab) (K : PySem.W.Frag) (F : Hp) (J : It) (d : DIt) : Prop :=
  Walk J d.xs.length (fun H => ∃ G F' μ, Le F F' ∧ StR T K G F' H μ ∧ d.keep μ) (fun i H v H' => ∀ G F' μ, Le F F' → StR T K G F' H μ → d.keep μ → ∃ F'', Le F' F'' ∧ StR T K G F'' H' μ ∧ ∃ e, d.xs[i]? = some e ∧ Rep T K F'' v e)
abbrev tI (T : Tab) (K : PySem.W.Frag) (W : WG) (m : DI) : TI := tG T K (fun F J d => ItR T K F J d) W m
structure SI (T : Tab) (X : Cx) (tg e : Expr) (m : DI) : Prop where
  run : ∀ W, TK X W → PI X tg e (tI T X.K W m)
theorem PI.imp {X : Cx} {tg e : Expr} {t t' : TI} (h : PI X tg e t) (k : ∀ σ H Q, t' σ H Q → t σ H Q) : PI X tg e t' := ⟨fun pins s σ H Q I q => h.run pins s σ H Q I (k _ _ _ q)⟩
theorem PI.or {X : Cx} {tg e : Expr} {t t' : TI} (h : PI X tg e t) (k : PI X tg e t') : PI X tg e (fun σ H Q => t σ H Q ∨ t' σ H Q) := ⟨fun pins s σ H Q I q => q.elim (h.run pins s σ H Q I) (k.run pins s σ H Q I)⟩
theorem ItR.mono {T : Tab} {K : PySem.W.Frag} {F F' : Hp} {J : It} {d : DIt} (h : ItR T K F J d) (e : Le F F') : ItR T K F' J d :=
  Walk.mono h (fun H ⟨G, F1, μ, l, s, k⟩ => ⟨G, F1, μ, e.trans l, s, k⟩) fun i H x H' _ _ y G F1 μ l s k => y G F1 μ (e.trans l) s k
def forD (keep : Sto → Prop) (g : DG) (body : DS) : List D → DS
  | [] => fun env μ K => K.nx env μ
  | x :: r => fun env μ K => g x env μ fun e1 m1 => body e1 m1 { K with nx := fun e m => keep m ∧ forD keep g body r e m K, ct := fun e m => keep m ∧ forD keep g body r e m K, bk := K.nx }
def dFor (mi : DI) (g : DG) (body : DS) : DS := fun env μ K => mi env μ (fun d μ1 => d.keep μ1 ∧ forD d.keep g body d.xs env μ1 K) (fun x μ1 => K.ex x env μ1)
section
variable {T : Tab} {X : Cx} {pos : Pos} {vs : List Nat} {g : DG}
theorem ss_for {tg iter : Expr} {body : List Stmt} {mi : DI} {mb : DS} (hc : X.calm = true) (hi : SI T X tg iter mi) (hg : SG T X tg vs g) (hb : SB T X body mb)
    (hs : ∀ x, foldedSetIterable iter X.env x = pure x := by intro _; rfl) : SS T X (.For tg iter body [] pos) (dFor mi g mb) := by
  refine ⟨fun W tk => PS.imp (ps_for tk.po hc (hi.run W tk) hg (hb.run W tk) hs) fun D σ H h => ?_⟩
  obtain ⟨F, env, μ, k, hE, hS, hm, hK⟩ := h
  refine ⟨F, env, μ, _, _, hE, hS, hm, fun d μ1 q F1 H1 J l hS1 hJ => ?_, hK.kx hE⟩
  refine for_it hJ (fun i σ' H' => ∃ F' env' μ', Le F1 F' ∧ EnvR T X.K F' σ' env' ∧ StR T X.K W.G F' H' μ' ∧ d.keep μ' ∧ forD d.keep g mb (d.xs.drop i) env' μ' k)
    ⟨F1, env, μ1, Le.refl _, hE.mono l, hS1, q.1, by simpa using q.2⟩ (fun i σ' H' _ ⟨F', env', μ', l', _, hS', kp, _⟩ => ⟨W.G, F', μ', l', hS', kp⟩) ?_ ?_
  · rintro i x σ' H' H'' hi ⟨F', env', μ', l', hE', hS', kp, hf⟩ y
    obtain ⟨F2, l2, hS2, e, he, re⟩ := y W.G F' μ' l' hS' kp
    have hlt : i < d.xs.length := hi
    rw [List.drop_eq_getElem_cons hlt] at hf
    have ee : d.xs[i] = e := by
      rw [List.getElem?_eq_getElem hlt] at he
      exact Option.some.inj he
    rw [ee] at hf
    have again : ∀ env3 μ3 F3 H3 σ3, (d.keep μ3 ∧ forD d.keep g mb (d.xs.drop (i + 1)) env3 μ3 k) → Le F2 F3 → EnvR T X.K F3 σ3 env3 → StR T X.K W.G F3 H3 μ3 →
        ∃ F' env' μ', Le F1 F' ∧ EnvR T X.K F' σ3 env' ∧ StR T X.K W.G F' H3 μ' ∧ d.keep μ' ∧ forD d.keep g mb (d.xs.drop (i + 1)) env' μ' k :=
      fun env3 μ3 F3 H3 σ3 q3 l3 hE3 hS3 => ⟨F3, env3, μ3, l'.trans (l2.trans l3), hE3, hS3, q3.1, q3.2⟩
    refine ⟨W.G, F2, env', μ', e, _, hE'.mono l2, hS2, re, hf, fun env3 μ3 q3 F3 H3 σ3 l3 hE3 hS3 _ => ?_⟩
    have lk := l.trans (l'.trans (l2.trans l3))
    refine ⟨F3, env3, μ3, _, hE3, hS3, q3, ⟨fun env4 μ4 F4 H4 σ4 q4 l4 hE4 hS4 => again env4 μ4 F4 H4 σ4 q4 (l3.trans l4) hE4 hS4, (hK.mono lk).rt, (hK.mono lk).nx, fun env4 μ4 F4 H4 σ4 q4 l4 hE4 hS4 => again env4 μ4 F4 H4 σ4 q4 (l3.trans l4) hE4 hS4, (hK.mono lk).ex⟩⟩
  · rintro σ' H' ⟨F', env', μ', l', hE', hS', kp, hf⟩
    rw [List.drop_length] at hf
    exact hK.nx env' μ' F' H' σ' hf (l.trans l') hE' hS'
/-- while, so many turns at most -/
def whileD (t : DT) (b : DS) : Nat → DS
  | 0 => fun _ _ _ => False
  | n + 1 => fun env μ K => t env μ (fun c μ1 => br c (b env μ1 { K with nx := fun e m => whileD t b n e m K, ct := fun e m => whileD t b n e m K, bk := K.nx }) (K.nx env μ1)) (fun x μ1 => K.ex x env μ1)
def dWhile (t : DT) (b : DS) : DS := fun env μ K => ∃ n, whileD t b n env μ K
theorem ss_while {c : Expr} {body : List Stmt} {t : DT} {mb : DS} (ht : ST T X c t) (hb : SB T X body mb) : SS T X (.While c body [] pos) (dWhile t mb) := by
  refine ⟨fun W tk => PS.imp (ps_while tk.po (ht.run W tk) (hb.run W tk)) fun D σ H h => ?_⟩
  obtain ⟨F, env, μ, k, hE, hS, ⟨n0, hm⟩, hK⟩ := h
  refine ⟨fun m σ' H' => ∃ F' env' μ', Le F F' ∧ EnvR T X.K F' σ' env' ∧ StR T X.K W.G F' H' μ' ∧ whileD t mb m env' μ' k, ⟨n0, F, env, μ, Le.refl _, hE, hS, hm⟩, ?_⟩
  rintro m σ' H' ⟨F', env', μ', l', hE', hS', hw⟩
  cases m with
  | zero => exact hw.elim
  | succ m =>
    have hK' := hK.mono l'
    refine ⟨F', env', μ', _, _, hE', hS', hw, fun d μ1 q F1 H1 v l hS1 rv => ?_, hK'.kx hE'⟩
    have e : v = d := rv
    subst e
    refine br_ite ⟨fun hv => ?_, fun hv => ?_⟩
    · refine ⟨fun σ2 H2 => ∃ F' env' μ', Le F F' ∧ EnvR T X.K F' σ2 env' ∧ StR T X.K W.G F' H2 μ' ∧ whileD t mb m env' μ' k, fun σ2 H2 z => ⟨m, Nat.lt_succ_self _, z⟩, F1, env', μ1, _, hE'.mono l, hS1, q.1 hv, ?_⟩
      have hK1 := hK'.mono l
      exact ⟨fun env4 μ4 F4 H4 σ4 q4 l4 hE4 hS4 => ⟨F4, env4, μ4, l'.trans (l.trans l4), hE4, hS4, q4⟩, hK1.rt, hK1.nx, fun env4 μ4 F4 H4 σ4 q4 l4 hE4 hS4 => ⟨F4, env4, μ4, l'.trans (l.trans l4), hE4, hS4, q4⟩, hK1.ex⟩
    · exact hK'.nx env' μ1 F1 H1 σ' (q.2 hv) l (hE'.mono l) hS1
/-- over a list or a tuple -/
def iSeq (K : PySem.W.Frag) (tl : TE) : TI := fun σ H R => tl σ H fun x H1 => ∃ a, x = .ref a ∧ (((∃ xs, SqL K H1 a xs) ∧ R (Itl K a) H1) ∨ ((∃ xs, SqT K H1 a xs) ∧ R (Itt K a) H1))
theorem pi_seq {tg l : Expr} {tl : TE} (hl : PE X l tl) : PI X tg l (iSeq X.K tl) := by
  refine ⟨fun pins s σ H R I h => ?_⟩
  refine thn (hl.run pins s σ H _ I h) fun v s1 ⟨x, H1, I1, r1, q1⟩ => ?_
  obtain ⟨a, e, q⟩ := q1
  subst e
  cases r1
  rcases q with ⟨⟨xs, hq⟩, q⟩ | ⟨⟨xs, hq⟩, q⟩
  · obtain ⟨its, rv, p, hz⟩ := I1.list hq
    refine wpAny_pyIter_list p.isList ?_
    refine ⟨s1.heap.objs.size, [s1.heap.objs.size], _, _, H1, rfl, I1.kept (t' := s1.toks) fun b o e => Heap.get?_push_of_some _ e, turn_list a _, ⟨_, Heap.get?_push_size _ rfl, rfl, rfl⟩, fun b hb => ?_, q⟩
    have e : b = s1.heap.objs.size := by simpa using hb
    subst e
    exact I1.fpOk (Nat.le_refl _) (I1.hok.fresh (Nat.le_refl _))
  · obtain ⟨its, rv, p, hz⟩ := I1.tuple hq
    refine wpAny_pyIter_tuple (show s1.heap.IsTuple a its.toArray from p) ?_
    refine ⟨s1.heap.objs.size, [s1.heap.objs.size], _, _, H1, rfl, I1.kept (t' := s1.toks) fun b o e => Heap.get?_push_of_some _ e, turn_tuple a _, ⟨_, Heap.get?_push_size _ rfl, rfl, rfl⟩, fun b hb => ?_, q⟩
    have e : b = s1.heap.objs.size := by simpa using hb
    subst e
    exact I1.fpOk (Nat.le_refl _) (I1.hok.fresh (Nat.le_refl _))
/-- over a list or a tuple, as it stands now -/
def dSeqI (m : DM) : DI := fun env μ Q E => m env μ (fun d μ1 => ∃ xs, getS μ1 d = some xs ∧ Q ⟨xs, fun μ2 => getS μ2 d = some xs⟩ μ1) E
theorem itR_lst {K : PySem.W.Frag} {F : Hp} {a : Addr} {d : D} {xs : List D} (rv : Rep T K F (.ref a) d) (h : ∀ μ, getS μ d = getL μ d) : ItR T K F (Itl K a) ⟨xs, fun μ2 => getS μ2 d = some xs⟩ := by
  have hd : ∀ G F' H' μ2, Le F F' → StR T K G F' H' μ2 → getS μ2 d = some xs → ∃ ws, SqL K H' a ws ∧ Reps T K F' ws xs := fun G F' H' μ2 l s q => by
    rw [h] at q
    obtain ⟨a', ws, e', h', r'⟩ := getL_ok s (rv.mono l) q
    cases e'
    exact ⟨ws, h', r'⟩
  refine ⟨fun i H hi ⟨G, F', μ, l, s, k⟩ => ?_, fun H ⟨G, F', μ, l, s, k⟩ => ?_, fun i H v H' hi _ y G2 F2 μ2 l2 s2 k2 => ?_⟩
  · obtain ⟨ws, h1, r1⟩ := hd G F' H μ l s k
    have : i < ws.length := by rw [r1.length]; exact hi
    exact ⟨ws, ws[i], h1, by simp [this]⟩
  · obtain ⟨ws, h1, r1⟩ := hd G F' H μ l s k
    exact ⟨ws, h1, Nat.le_of_eq r1.length⟩
  · obtain ⟨ws, h1, r1⟩ := hd G2 F2 H μ2 l2 s2 k2
    obtain ⟨e, y⟩ := y
    subst e
    obtain ⟨e, h2, r2⟩ := r1.getV (y ws h1)
    exact ⟨F2, Le.refl _, s2, e, h2, r2⟩
theorem itR_tup {K : PySem.W.Frag} {F : Hp} {a : Addr} {xs : List D} {keep : Sto → Prop} (rv : Rep T K F (.ref a) (.tup xs)) : ItR T K F (Itt K a) ⟨xs, keep⟩ := by
  have hd : ∀ G F' H' μ2, Le F F' → StR T K G F' H' μ2 → ∃ ws, SqT K H' a ws ∧ Reps T K F' ws xs := fun G F' H' μ2 l s => by
    cases rv with
    | tup h1 r1 => exact ⟨_, s.sqT (l.sqT h1), r1.mono l⟩
  refine ⟨fun i H hi ⟨G, F', μ, l, s, k⟩ => ?_, fun H ⟨G, F', μ, l, s, k⟩ => ?_, fun i H v H' hi _ y G2 F2 μ2 l2 s2 k2 => ?_⟩
  · obtain ⟨ws, h1, r1⟩ := hd G F' H μ l s
    have : i < ws.length := by rw [r1.length]; exact hi
    exact ⟨ws, ws[i], h1, by simp [this]⟩
  · obtain ⟨ws, h1, r1⟩ := hd G F' H μ l s
    exact ⟨ws, h1, Nat.le_of_eq r1.length⟩
  · obtain ⟨ws, h1, r1⟩ := hd G2 F2 H μ2 l2 s2
    obtain ⟨e, y⟩ := y
    subst e
    obtain ⟨e, h2, r2⟩ := r1.getV (y ws h1)
    exact ⟨F2, Le.refl _, s2, e, h2, r2⟩
theorem si_seq {tg e : Expr} {m : DM} (h : SE T X e m) : SI T X tg e (dSeqI m) := by
  refine ⟨fun W tk => PI.imp (pi_seq (h.run W tk)) fun σ H R h => ?_⟩
  obtain ⟨F, env, μ, Q0, E0, hE, hS, hm, hQ, hX⟩ := h
  refine ⟨F, env, μ, _, E0, hE, hS, hm, fun d μ1 q F1 H1 v l hS1 rv => ?_, hX⟩
  obtain ⟨xs, e1, q⟩ := q
  obtain ⟨a, us, e3, h4, h5⟩ := getS_ok hS1 rv e1
  subst e3
  refine ⟨a, rfl, ?_⟩
  cases d with
  | tup ys =>
    cases e1
    have hI := itR_tup (keep := fun μ2 => getS μ2 (.tup xs) = some xs) rv
    cases rv with
    | tup h1 r1 => exact .inr ⟨⟨_, hS1.sqT h1⟩, hQ _ μ1 q F1 H1 _ l hS1 hI⟩
  | lst ys =>
    obtain ⟨a', us', e', h', _⟩ := getL_ok hS1 rv e1
    cases e'
    exact .inl ⟨⟨_, h'⟩, hQ _ μ1 q F1 H1 _ l hS1 (itR_lst rv fun _ => rfl)⟩
  | cell b =>
    obtain ⟨a', us', e', h', _⟩ := getL_ok hS1 rv e1
    cases e'
    exact .inl ⟨⟨_, h'⟩, hQ _ μ1 q F1 H1 _ l hS1 (itR_lst rv fun _ => rfl)⟩
  | _ => cases e1
/-- range(n), range(a, b) -/
def rangeD (lo : Int) (n : Nat) : List D := (List.range n).map fun (i : Nat) => D.int (lo + (i : Int))
def dRange1 (mt : DA) : DI := fun env μ Q E => mt env μ (fun ds μ1 => match ds with
  | [.int j] => (-(2 ^ 62) ≤ j ∧ j < 2 ^ 62) ∧ Q ⟨rangeD 0 j.toNat, fun _ => True⟩ μ1
  | _ => False) E
def dRange2 (mt : DA) : DI := fun env μ Q E => mt env μ (fun ds μ1 => match ds with
  | [.int i, .int j] => (-(2 ^ 62) ≤ i ∧ i < 2 ^ 62 ∧ -(2 ^ 62) ≤ j ∧ j < 2 ^ 62) ∧ Q ⟨rangeD i (j - i).toNat, fun _ => True⟩ μ1
  | _ => False) E
theorem range1_of {ds : List D} {P : Int → Prop} (h : match ds with
  | [.int j] => P j
  | _ => False) : ∃ j, ds = [.int j] ∧ P j := by
  split at h
  · exact ⟨_, rfl, h⟩
  · exact h.elim
theorem range2_of {ds : List D} {P : Int → Int → Prop} (h : match ds with
  | [.int i, .int j] => P i j
  | _ => False) : ∃ i j, ds = [.int i, .int j] ∧ P i j := by
  split at h
  · exact ⟨_, _, rfl, h⟩
  · exact h.elim
theorem itR_range {K : PySem.W.Frag} {F : Hp} {lo : Int} {n : Nat} : ItR T K F (Itr lo n) ⟨rangeD lo n, fun _ => True⟩ := by
  have hl : (rangeD lo n).length = n := by simp [rangeD]
  refine ⟨fun i H hi _ => by rw [hl] at hi; exact hi, fun H _ => Nat.le_of_eq hl.symm, fun i H v H' hi _ y G2 F2 μ2 l2 s2 k2 => ?_⟩
  obtain ⟨e1, e2⟩ := y
  subst e1; subst e2
  have hi' : i < n := by rw [hl] at hi; exact hi
  exact ⟨F2, Le.refl _, s2, .int (lo + i), by simp [rangeD, hi'], .int _⟩
theorem si_range1 {tg a : Expr} {mt : DA} {p pos : Pos} (hg : Gl X "range") (hm : X.mg "range" = none) (h : SA T X [a] mt) (hs : starEach [a] X.env = [(false, eval a X.env)] := by rfl) : SI T X tg (.Call (.Name "range" p) [a] [] pos) (dRange1 mt) := by
  refine ⟨fun W tk => PI.imp (pi_range1 hg hm (h.run W tk) hs) fun σ H R h => ?_⟩
  obtain ⟨F, env, μ, Q0, E0, hE, hS, hm, hQ, hX⟩ := h
  refine ⟨F, env, μ, _, E0, hE, hS, hm, fun ds μ1 q F1 H1 vs l hS1 rs => ?_, hX⟩
  obtain ⟨j, e, q1, q2⟩ := range1_of (P := fun j => (-(2 ^ 62) ≤ j ∧ j < 2 ^ 62) ∧ Q0 ⟨rangeD 0 j.toNat, fun _ => True⟩ μ1) q
  subst e
  cases rs with
  | cons r rr =>
    cases r; cases rr
    exact ⟨j, rfl, q1.1, q1.2, hQ _ μ1 q2 F1 H1 _ l hS1 itR_range⟩
theorem si_range2 {tg a b : Expr} {mt : DA} {p pos : Pos} (hg : Gl X "range") (hm : X.mg "range" = none) (h : SA T X [a, b] mt) (hs : starEach [a, b] X.env = [(false, eval a X.env), (false, eval b X.env)] := by rfl)
    (hs2 : starEach [b] X.env = [(false, eval b X.env)] := by rfl) : SI T X tg (.Call (.Name "range" p) [a, b] [] pos) (dRange2 mt) := by
  refine ⟨fun W tk => PI.imp (pi_range2 hg hm (h.run W tk) hs hs2) fun σ H R h => ?_⟩
  obtain ⟨F, env, μ, Q0, E0, hE, hS, hm, hQ, hX⟩ := h
  refine ⟨F, env, μ, _, E0, hE, hS, hm, fun ds μ1 q F1 H1 vs l hS1 rs => ?_, hX⟩
  obtain ⟨i, j, e, q1, q2⟩ := range2_of (P := fun i j => (-(2 ^ 62) ≤ i ∧ i < 2 ^ 62 ∧ -(2 ^ 62) ≤ j ∧ j < 2 ^ 62) ∧ Q0 ⟨rangeD i (j - i).toNat, fun _ => True⟩ μ1) q
  subst e
  cases rs with
  | cons r rr =>
    cases rr with
    | cons r2 rr =>
      cases r; cases r2; cases rr
      exact ⟨i, j, rfl, q1, hQ _ μ1 q2 F1 H1 _ l hS1 itR_range⟩
/-- over a text -/
def dStrI (m : DM) : DI := fun env μ Q E => m env μ (fun d μ1 => match d with
  | .str z => Q ⟨z.cps.toList.map fun c => .str ⟨#[c]⟩, fun _ => True⟩ μ1
  | _ => False) E
theorem si_str {tg e : Expr} {m : DM} (h : SE T X e m) : SI T X tg e (dStrI m) := by
  refine ⟨fun W tk => PI.imp (pi_str (h.run W tk)) fun σ H R h => ?_⟩
  obtain ⟨F, env, μ, Q0, E0, hE, hS, hm, hQ, hX⟩ := h
  refine ⟨F, env, μ, _, E0, hE, hS, hm, fun d μ1 q F1 H1 v l hS1 rv => ?_, hX⟩
  cases d with
  | str z =>
    cases rv
    refine ⟨z, rfl, hQ _ μ1 q F1 H1 _ l hS1 ?_⟩
    have hl : (z.cps.toList.map fun c => D.str ⟨#[c]⟩).length = z.cps.size := by simp
    refine ⟨fun i H hi _ => by rw [hl] at hi; exact hi, fun H _ => Nat.le_of_eq hl.symm, fun i H v H' hi _ y G2 F2 μ2 l2 s2 k2 => ?_⟩
    obtain ⟨e1, c, e2, e3⟩ := y
    subst e1; subst e3
    exact ⟨F2, Le.refl _, s2, .str ⟨#[c]⟩, by simp [e2], .str _⟩
  | _ => exact q.elim
end

/-! ### comprehensions -/
def wipeD (env : Env') : List Nat → Env'
  | [] => env
  | v :: vs => (wipeD env vs).set v none
theorem EnvR.wipe {T : Tab} {K : PySem.W.Frag} {F : Hp} {σ : L2.St} {env : Env'} (h : EnvR T K F σ env) : ∀ vs : List Nat, EnvR T K F (wipe σ vs) (wipeD env vs)
  | [] => h
  | _ :: vs => (EnvR.wipe h vs).unset
def dYes : DT := fun _ μ Q _ => Q true μ
def lcD (m : Bool) (keep : Sto → Prop) (g : DG) (t : DT) (e : DM) (wenv : Env') (Q : DQ) : List D → List D → Sto → Prop
  | [], acc => fun μ => newL m acc μ Q
  | x :: r, acc => fun μ => g x wenv μ fun env2 μ2 => t env2 μ2 (fun b μ3 => br b (e env2 μ3 (fun y μ4 => keep μ4 ∧ lcD m keep g t e wenv Q r (acc ++ [y]) μ4) fun _ _ => False) (keep μ3 ∧ lcD m keep g t e wenv Q r acc μ3)) fun _ _ => False
def dLc (m : Bool) (mi : DI) (g : DG) (t : DT) (e : DM) (vs : List Nat) : DM := fun env μ Q E => mi env μ (fun d μ1 => d.xs.length ≤ 1000000 ∧ d.keep μ1 ∧ lcD m d.keep g t e (wipeD env vs) Q d.xs [] μ1) E
theorem takesF {X : Cx} : Takes X (fun _ _ _ _ => False) := fun _ _ ⟨_, _, _, _, _, _, _, _, _, _, _, _, _, _, _, _, w⟩ => w.elim
abbrev WF (G : Hp) : WG := ⟨fun _ _ _ _ => False, G⟩
theorem tk_blk {X : Cx} {s : Shared} {H G : Hp} {scope : Scope} {cenv : Env} {fp : List Addr} : TK (X.blk s H scope cenv fp) (WF G) := ⟨takesF, PassesOwn.never⟩
theorem PE.ex {ι : Type} {X : Cx} {e : Expr} {t : ι → TE} (h : ∀ i, PE X e (t i)) : PE X e (fun σ H Q => ∃ i, t i σ H Q) := ⟨fun pins s σ H Q I ⟨i, q⟩ => (h i).run pins s σ H Q I q⟩
theorem PT.ex {ι : Type} {X : Cx} {e : Expr} {t : ι → TT} (h : ∀ i, PT X e (t i)) : PT X e (fun σ H Q => ∃ i, t i σ H Q) := ⟨fun pins s σ H Q I ⟨i, q⟩ => (h i).run pins s σ H Q I q⟩
theorem PTs.ex {ι : Type} {X : Cx} {e : List Expr} {t : ι → TT} (h : ∀ i, PTs X e (t i)) : PTs X e (fun σ H Q => ∃ i, t i σ H Q) := ⟨fun pins s σ H Q I ⟨i, q⟩ => (h i).run pins s σ H Q I q⟩
structure STs (T : Tab) (X : Cx) (ifs : List Expr) (m : DT) : Prop where
  run : ∀ W, TK X W → PTs X ifs (tT T X.K W m)
def tTx (T : Tab) (K : PySem.W.Frag) (t : DT) : TT := fun σ H Q => ∃ G, tT T K (WF G) t σ H Q
def tEx (T : Tab) (K : PySem.W.Frag) (t : DM) : TE := fun σ H Q => ∃ G, tE T K (WF G) t σ H Q
section
variable {T : Tab} {X : Cx} {g : DG} {t : DT} {me : DM} {ws : List Nat}
theorem PTs.imp {e : List Expr} {t t' : TT} (h : PTs X e t) (k : ∀ σ H Q, t' σ H Q → t σ H Q) : PTs X e t' := ⟨fun pins s σ H Q I q => h.run pins s σ H Q I (k _ _ _ q)⟩
theorem sts_nil : STs T X [] dYes := ⟨fun W _ => PTs.imp pts_nil fun σ H Q ⟨F, env, μ, Q0, E0, hE, hS, hm, hQ, _⟩ => hQ true μ hm F H true (Le.refl F) hS rfl⟩
theorem sts_one {c : Expr} (h : ST T X c t) : STs T X [c] t := ⟨fun W tk => pts_one (h.run W tk)⟩
theorem tE_lc {K : PySem.W.Frag} {W : WG} {m : Bool} {mi : DI} {σ : L2.St} {H : Hp} {Q : VK} {vs : List Nat} (hsub : ∀ i ∈ ws, i ∈ vs) (h : tE T K W (dLc m mi g t me vs) σ H Q) :
    tLc (tI T K W mi) (tGd T K ws g) (tTx T K t) (tEx T K me) vs σ H Q := by
  obtain ⟨F, env, μ, Q0, E0, hE, hS, hm, hQ, hX⟩ := h
  refine ⟨F, env, μ, _, E0, hE, hS, hm, fun d μ1 q F1 H1 J l hS1 hJ => ?_, hX⟩
  obtain ⟨q1, q2, q3⟩ := q
  intro A hA
  have nG : W.G A = none := by
    cases z : W.G A with
    | none => rfl
    | some o => rw [(hS1.fr A o z).1] at hA; cases hA
  have nox : ∀ {G F' : Hp} {σ' : L2.St}, KonX T K (WF G) F' σ' (fun _ _ => False) := fun _ _ z => z.elim
  -- between the turns: the new list at A holds what is made so far; it is kept aside
  refine lc_it (g := tGd T K ws g) (tt := tTx T K t) (te := tEx T K me) (vs := vs) (σ := σ) hJ (fun i H' => ∃ F' μ' acc vacc, Le F1 F' ∧ StR T K (upd W.G A (.lst vacc)) F' H' μ' ∧ Reps T K F' vacc acc ∧ acc.length ≤ i ∧ d.keep μ' ∧ lcD m d.keep g t me (wipeD env vs) Q0 (d.xs.drop i) acc μ')
    ⟨F1, μ1, [], [], Le.refl _, (hS1.skip hA).aside upd_same (hS1.fresh hA) (hS1.noCell hA), .nil, Nat.le_refl _, q2, by simpa using q3⟩
    (fun i H' _ ⟨F', μ', _, _, l', hS', _, _, kp, _⟩ => ⟨_, F', μ', l', hS', kp⟩) ?_ ?_
  · rintro i x H' H'' hi ⟨F', μ', acc, vacc, l', hS', rA, hlen, kp, hf⟩ y
    obtain ⟨F2, l2, hS2, e, he, re⟩ := y _ F' μ' l' hS' kp
    have hlt : i < d.xs.length := hi
    rw [List.drop_eq_getElem_cons hlt] at hf
    have ee : d.xs[i] = e := by
      rw [List.getElem?_eq_getElem hlt] at he
      exact Option.some.inj he
    rw [ee] at hf
    refine ⟨_, F2, wipeD env vs, μ', e, _, (hE.mono (l.trans (l'.trans l2))).wipe vs, hS2, re, hf, fun env3 μ3 q3 F3 H3 σ3 l3 hE3 hS3 wp => ?_⟩
    have hw : wipe σ3 vs = wipe σ vs := by
      have z := wp vs hsub
      have idem : ∀ us : List Nat, (∀ i ∈ us, i ∈ vs) → wipe (wipe σ us) vs = wipe σ vs := fun us => by
        induction us with
        | nil => intro _; rfl
        | cons u us ih =>
          intro hu
          show wipe ((wipe σ us).set u none) vs = _
          rw [wipe_set (hu u List.mem_cons_self)]
          exact ih fun i hi => hu i (List.mem_cons_of_mem _ hi)
      rw [z]; exact idem vs fun i hi => hi
    refine ⟨hw, _, F3, env3, μ3, _, _, hE3, hS3, q3, fun b μ4 q4 F4 H4 b' l4 hS4 eb => ?_, nox⟩
    have e : b' = b := eb
    subst e
    refine br_ite ⟨fun hb => ?_, fun hb => ?_⟩
    · refine ⟨_, F4, env3, μ4, _, _, hE3.mono l4, hS4, q4.1 hb, fun z μ5 q5 F5 H5 v5 l5 hS5 r5 => ?_, nox⟩
      have hacc : vacc.length < sizeLine := by
        rw [rA.length]
        have : (1000000 : Nat) ≤ sizeLine := by decide
        omega
      have ll : Le F' F5 := l2.trans (l3.trans (l4.trans l5))
      exact ⟨vacc, (hS5.fr A _ upd_same).1, hacc, F5, μ5, acc ++ [z], vacc ++ [v5], l'.trans ll, hS5.setAside, (rA.mono ll).append (.one r5), by rw [List.length_append, List.length_singleton]; omega, q5.1, q5.2⟩
    · have ll : Le F' F4 := l2.trans (l3.trans l4)
      exact ⟨F4, μ4, acc, vacc, l'.trans ll, hS4, rA.mono ll, by omega, (q4.2 hb).1, (q4.2 hb).2⟩
  · rintro H' ⟨F', μ', acc, vacc, l', hS', rA, hlen, kp, hf⟩
    rw [List.drop_length] at hf
    obtain ⟨hp, nF, nM⟩ := hS'.fr A _ upd_same
    have hb := hS'.back nG
    have hf : newL m acc μ' Q0 := hf
    -- the list is told: frozen, or a cell
    cases m with
    | false =>
      have e := Le.new (o := .lst vacc) nF
      refine hQ _ _ hf (upd F' A (.lst vacc)) H' _ (l.trans (l'.trans e)) ?_ (.lst (SqL.of upd_same) (rA.mono e))
      refine ⟨fun a u z => ?_, fun a c z => ?_, fun a u z => ?_⟩
      · by_cases ha : a = A
        · subst ha; rw [upd_same] at z; cases z; exact hp
        · rw [upd_ne ha] at z; exact hb.sub _ _ z
      · obtain ⟨h1, u, h2, h3⟩ := hb.cell a c z
        have ha : a ≠ A := fun y => by subst y; rw [nM] at z; cases z
        exact ⟨by rw [upd_ne ha]; exact h1, u, h2, h3.mono e⟩
      · have ha : a ≠ A := ne_of_none z nG
        rw [upd_ne ha]; exact hb.fr a u z
    | true =>
      refine hQ _ _ (hf A nM) F' H' _ (l.trans l') ?_ (.cell A)
      refine ⟨hb.sub, fun a c z => ?_, fun a u z => ?_⟩
      · by_cases ha : a = A
        · subst ha; rw [upm_same] at z; cases z; exact ⟨nF, _, hp, rA⟩
        · rw [upm_ne ha] at z; exact hb.cell a c z
      · have ha : a ≠ A := ne_of_none z nG
        rw [upm_ne ha]; exact hb.fr a u z
theorem se_lc (m : Bool) {tg iter elt : Expr} {ifs : List Expr} {scope : Scope} {own : List (Str × Nat)} {pos : Pos} {mi : DI} (hc : X.calm = true) (hN : X.N.Nodup) (hi : SI T X tg iter mi) (ok : BlkOk X.N X.env.scope scope own)
    (hg : ∀ s H C cl fp, SG T (X.blk s H scope (compEnvC scope cl C X.env) fp) tg ws g) (ht : ∀ s H C cl fp, STs T (X.blk s H scope (compEnvC scope cl C X.env) fp) ifs t)
    (he : ∀ s H C cl fp, SE T (X.blk s H scope (compEnvC scope cl C X.env) fp) elt me) (hsub : ∀ i ∈ ws, i ∈ own.map (·.2) := by decide) (hs : ∀ x, foldedSetIterable iter X.env x = pure x := by intro _; rfl) :
    SE T X (.ListComp elt [⟨tg, iter, ifs, 0⟩] scope pos) (dLc m mi g t me (own.map (·.2))) :=
  ⟨fun W tk => PE.imp (pe_lc hc hN (hi.run W tk) ok (fun s H C cl fp => show PG _ _ (tGd T X.K ws g) from hg s H C cl fp) (fun s H C cl fp => PTs.ex fun G => (ht s H C cl fp).run (WF G) tk_blk) (fun s H C cl fp => PE.ex fun G => (he s H C cl fp).run (WF G) tk_blk) hs) fun _ _ _ h => tE_lc hsub h⟩
theorem ss_setLc (m : Bool) (i : Nat) {y : Str} {py : Pos} {tg iter elt : Expr} {ifs : List Expr} {scope : Scope} {own : List (Str × Nat)} {pos spos : Pos} {mi : DI} (hc : X.calm = true) (hN : X.N.Nodup) (hi : SI T X tg iter mi) (ok : BlkOk X.N X.env.scope scope own)
    (hg : ∀ s H C cl fp, SG T (X.blk s H scope (compEnvC scope cl C X.env) fp) tg ws g) (ht : ∀ s H C cl fp, STs T (X.blk s H scope (compEnvC scope cl C X.env) fp) ifs t)
    (he : ∀ s H C cl fp, SE T (X.blk s H scope (compEnvC scope cl C X.env) fp) elt me)
    (hsw : swapsWith (.ListComp elt [⟨tg, iter, ifs, 0⟩] scope pos) (some (.Name y py)) spos.line X.env = pure true) (hy : X.N[i]? = some y := by rfl) (hyl : X.env.scope.names.lookup y = some .local := by rfl)
    (hsub : ∀ i ∈ ws, i ∈ own.map (·.2) := by decide) (hs : ∀ x, foldedSetIterable iter X.env x = pure x := by intro _; rfl) :
    SS T X (.Assign [.Name y py] (.ListComp elt [⟨tg, iter, ifs, 0⟩] scope pos) spos) (dAsg (dLc m mi g t me (own.map (·.2))) (gdName i)) :=
  ⟨fun W tk => PS.imp (ps_setLc hc hN hy hyl hsw (hi.run W tk) ok (fun s H C cl fp => show PG _ _ (tGd T X.K ws g) from hg s H C cl fp) (fun s H C cl fp => PTs.ex fun G => (ht s H C cl fp).run (WF G) tk_blk) (fun s H C cl fp => PE.ex fun G => (he s H C cl fp).run (WF G) tk_blk) hs)
    fun _ _ _ h => tS_asg (vs := [i]) (fun _ _ _ h => tE_lc hsub h) (fun v σ H Q ⟨G, F, env, μ, d, Q0, hE, hS, rv, q, hQ⟩ => hQ _ μ q F H _ (Le.refl F) (hE.set rv) hS (Wp.set σ i _)) h⟩
end
end DL

/-! DL5: fields, defs, calls, instances. -/
namespace DL
open PySem PySem.Spec PyProof.Rows L2

/-- what the classes must have -/
structure TabOk (T : Tab) (K : PySem.W.Frag) (nF : Nat) : Prop where
  cls : ∀ c, Cls K (T.cls c)
  noat : ∀ c n, n < nF → NoAttr K (T.cls c) (T.fld n)
def onS (o : Option D) (P : D → Prop) : Prop := match o with
  | some d => P d
  | none => False
theorem onS_of {o : Option D} {P : D → Prop} (h : onS o P) : ∃ d, o = some d ∧ P d := by
  cases o with
  | none => exact h.elim
  | some d => exact ⟨d, rfl, h⟩
/-- e.f -/
def dFld (n : Nat) (ma : DM) : DM := fun env μ Q E => ma env μ (fun x μ1 => match x with
  | .ins _ fs => onS (lk fs n) fun d => Q d μ1
  | .cell a => ∃ c fs, μ1 a = some (.ins c fs) ∧ onS (lk fs n) fun d => Q d μ1
  | _ => False) E
/-- o.f = e -/
def dSetF (n : Nat) (mo mv : DM) : DS := fun env μ K => mv env μ (fun y μ1 => mo env μ1 (fun x μ2 => match x with
  | .cell a => ∃ c fs, μ2 a = some (.ins c fs) ∧ Nat.ble fs.length 900 = true ∧ K.nx env (upm μ2 a (.ins c (put fs n y)))
  | _ => False) (fun x μ1 => K.ex x env μ1)) (fun x μ1 => K.ex x env μ1)
section
variable {T : Tab} {X : Cx} {e o v : Expr} {ma mo mv : DM} {pos pos' : Pos} {nF : Nat}
theorem StR.cellI {K : PySem.W.Frag} {G F H : Hp} {μ : Sto} {a : Addr} {c : Nat} {fs : List (Nat × D)} (h : StR T K G F H μ) (e : μ a = some (.ins c fs)) : ∃ dx vs, H a = some (.ins (T.cls c) dx vs) ∧ RepF T K F vs fs := by
  obtain ⟨_, o, h2, h3⟩ := h.cell a _ e
  cases o with
  | ins C dx vs =>
    obtain ⟨h4, h5⟩ := h3
    subst h4
    exact ⟨dx, vs, h2, h5⟩
  | _ => exact False.elim h3
theorem se_fld (n : Nat) {f : Str} (ok : TabOk T X.K nF) (hn : n < nF) (he : SE T X e ma) (hf : f = T.fld n := by rfl) (hb : attributeBase e f X.env (eval e X.env) = eval e X.env := by rfl) : SE T X (.Attribute e f pos) (dFld n ma) := by
  subst hf
  refine ⟨fun W tk => PE.imp (pe_fld (he.run W tk) hb) fun σ H Q h => ?_⟩
  obtain ⟨F, env, μ, Q0, E0, hE, hS, hm, hQ, hX⟩ := h
  refine ⟨F, env, μ, _, E0, hE, hS, hm, fun x μ1 q F1 H1 v l hS1 rv => ?_, hX⟩
  cases x with
  | ins c fs =>
    obtain ⟨d, e1, q⟩ := onS_of q
    cases rv with
    | ins h r =>
      obtain ⟨w, e2, r2⟩ := r.lk e1
      exact ⟨_, _, _, _, w, rfl, hS1.sub _ _ h, ok.cls c, ok.noat c n hn, e2, hQ d μ1 q F1 H1 w l hS1 r2⟩
  | cell a =>
    obtain ⟨c, fs, e0, q⟩ := q
    obtain ⟨d, e1, q⟩ := onS_of q
    cases rv
    obtain ⟨dx, vs, h1, r⟩ := hS1.cellI e0
    obtain ⟨w, e2, r2⟩ := r.lk e1
    exact ⟨a, _, dx, vs, w, rfl, h1, ok.cls c, ok.noat c n hn, e2, hQ d μ1 q F1 H1 w l hS1 r2⟩
  | _ => exact q.elim
theorem ss_fld (n : Nat) {f : Str} (ok : TabOk T X.K nF) (hn : n < nF) (ho : SE T X o mo) (hv : SE T X v mv) (hf : f = T.fld n := by rfl) (hs : swapsWith v (some (.Attribute o f pos')) pos.line X.env = pure false := by rfl) : SS T X (.Assign [.Attribute o f pos'] v pos) (dSetF n mo mv) := by
  subst hf
  refine ⟨fun W tk => PS.imp (ps_fld (ho.run W tk) (hv.run W tk) hs) fun D σ H h => ?_⟩
  obtain ⟨F, env, μ, k, hE, hS, hm, hK⟩ := h
  refine ⟨F, env, μ, _, _, hE, hS, hm, fun y μ1 q F1 H1 w l hS1 rw => ?_, hK.kx hE⟩
  refine ⟨F1, env, μ1, _, _, hE.mono l, hS1, q, fun x μ2 q2 F2 H2 v l2 hS2 rv => ?_, (hK.mono l).kx (hE.mono l)⟩
  cases x with
  | cell a =>
    obtain ⟨c, fs, e0, hl, q⟩ := q2
    cases rv
    obtain ⟨dx, vs, h1, r⟩ := hS2.cellI e0
    refine ⟨a, _, dx, vs, rfl, h1, ok.cls c, ok.noat c n hn, by rw [r.length]; have := Nat.le_of_ble_eq_true hl; omega, ?_⟩
    exact hK.nx env _ F2 _ σ q (l.trans l2) (hE.mono (l.trans l2)) (hS2.write e0 ⟨rfl, r.put (rw.mono l2)⟩)
  | _ => exact q2.elim
end

/-! ### defs -/
abbrev DF := List D → Sto → DQ → DX → Prop
def spD (T : Tab) (K : PySem.W.Frag) (fm : DF) : Sp := fun vs H Q E => ∃ G F μ ds Q0 E0, Reps T K F vs ds ∧ StR T K G F H μ ∧ fm ds μ Q0 E0 ∧ Kon T K G F (Rep T K) Q0 Q ∧
  ∀ x μ', E0 x μ' → ∀ F' H' cls dd, Le F F' → StR T K G F' H' μ' → ExR T K F' cls dd x → E cls dd H'
def stE (N : Nat) (ds : List D) : Env' := ds.map some ++ List.replicate (N - ds.length) none
/-- behind a def fewer cells may be told -/
def fin (Q : D → Sto → Prop) : D → Sto → Prop := fun d μ' => ∃ μ'', Sub μ'' μ' ∧ Q d μ''
def finX (E : DX) : DX := fun x μ' => ∃ μ'', Sub μ'' μ' ∧ E x μ''
def dDef (n N : Nat) (body : DS) : DF := fun ds μ Q E => ds.length = n ∧ body (stE N ds) μ ⟨fun _ μ' => fin Q .non μ', fun d μ' => fin Q d μ', fun _ _ => False, fun _ _ => False, fun x _ μ' => finX E x μ'⟩
theorem start_env {T : Tab} {K : PySem.W.Frag} {F : Hp} {N : List Str} {vs : List V} {ds : List D} (r : Reps T K F vs ds) : EnvR T K F (L2.start N vs) (stE N.length ds) := by
  refine ⟨?_, fun i d e => ?_⟩
  · unfold L2.start stE
    rw [List.length_append, List.length_append, List.length_map, List.length_map, List.length_replicate, List.length_replicate, r.length]
  · unfold stE at e
    unfold L2.start
    have hl := r.length
    by_cases hi : i < ds.length
    · rw [List.getElem?_append_left (by simpa using hi), List.getElem?_map] at e
      rw [List.getElem?_append_left (by rw [List.length_map, hl]; exact hi), List.getElem?_map]
      cases q : ds[i]? with
      | none => rw [q] at e; cases e
      | some d' =>
        rw [q] at e
        cases e
        obtain ⟨v, e1, r1⟩ := r.get q
        exact ⟨v, by rw [e1]; rfl, r1⟩
    · rw [List.getElem?_append_right (by simpa using hi), List.getElem?_replicate] at e
      split at e <;> cases e
theorem StR.sub' {T : Tab} {K : PySem.W.Frag} {G F H : Hp} {μ μ' : Sto} (h : StR T K G F H μ) (s : Sub μ' μ) : StR T K G F H μ' := h.sto s
section
variable {T : Tab} {P : Program} {w : World} {K : PySem.W.Frag} {mg : Str → Option Value} {base : Heap} {x qual : Str} {params : Arguments} {body : List Stmt} {scope : Scope} {dvs : List V} {kws : List (Str × V)} {f : Addr} {fd : FuncData} {N ps : List Str} {k : Nat} {mb : DS}
theorem fnD_of (F : FunD K x qual params body scope dvs kws f fd) (S : FnScope N ps scope)
    (hb : ∀ (cdv : Value) (A : Around) (outer : List Env) (s : Shared) (H : Hp) (E : XK), Room k (A.deeper (envOfC qual scope s.heap.objs.size f cdv)) → SB T (cxOf (L2.CX P w) P w K mg base N qual scope f cdv A outer s H E) body mb) :
    FnOk P w K mg base (L2.CX P w) (k + 1) f fd ps (spD T K (dDef ps.length N.length mb)) := by
  refine FunD.ok F S (fun vs H Q E h => ?_) fun cdv A outer s H vs Q E hr h => ?_
  · obtain ⟨G, F, μ, ds, Q0, E0, rs, _, hm, _⟩ := h
    exact rs.length.trans hm.1
  · obtain ⟨G, F, μ, ds, Q0, E0, rs, hS, hm, hQ, hX⟩ := h
    refine ⟨_, (hb cdv A outer s H E hr).run ⟨fun cls d _ H => E cls d H, G⟩ ⟨takes_of rfl rfl rfl rfl, passes_of rfl⟩, ?_⟩
    refine ⟨F, stE N.length ds, μ, _, start_env rs, hS, hm.2, ?_⟩
    refine ⟨fun env μ' F' H' σ' q l _ hS' => ?_, fun d μ' F' H' v q l hS' rv => ?_, fun _ _ _ _ _ q => q.elim, fun _ _ _ _ _ q => q.elim, fun x env μ' F' H' σ' cls dd q l _ hS' hx => ?_⟩
    · obtain ⟨μ2, s2, q⟩ := q
      exact hQ _ _ q F' H' _ l (hS'.sto s2) .non
    · obtain ⟨μ2, s2, q⟩ := q
      exact hQ _ _ q F' H' _ l (hS'.sto s2) rv
    · obtain ⟨μ2, s2, q⟩ := q
      exact hX _ _ q F' H' _ _ l (hS'.sto s2) hx
end
/-- a def of the module, for its callers -/
structure Fn (T : Tab) (P : Program) (w : World) (K : PySem.W.Frag) (mg : Str → Option Value) (base : Heap) (x : Str) (k : Nat) (ps : List Str) (fm : DF) : Prop where
  ex : ∃ f fd, mg x = some (.ref f) ∧ PySem.W.keepIn K (.ref f) = true ∧ Binds K fd ps [] ∧ FnOk P w K mg base (L2.CX P w) k f fd ps (spD T K fm)
/-- a method of a class -/
structure Mth (T : Tab) (P : Program) (w : World) (K : PySem.W.Frag) (mg : Str → Option Value) (base : Heap) (c : Nat) (m : Str) (k : Nat) (ps : List Str) (fm : DF) : Prop where
  ex : ∃ f fd, Meth K (T.cls c) m f ∧ Binds K fd ps [] ∧ FnOk P w K mg base (L2.CX P w) k f fd ps (spD T K fm)
  no : ∀ i, T.fld i ≠ m
/-- a class with its __init__ -/
structure Mkr (T : Tab) (P : Program) (w : World) (K : PySem.W.Frag) (mg : Str → Option Value) (base : Heap) (x : Str) (c : Nat) (k : Nat) (ps : List Str) (fm : DF) : Prop where
  ex : ∃ f fd, mg x = some (.ref (T.cls c)) ∧ Mk K (T.cls c) f ∧ Binds K fd ps [] ∧ FnOk P w K mg base (L2.CX P w) k f fd ps (spD T K fm)

/-! ### calls -/
section
variable {X : Cx} {CX : CXT} {k : Nat} {f C : Addr} {fd : FuncData} {ps : List Str} {sp : Sp} {E : L2.St → XK} {x m : Str} {p pos apos : Pos} {e o : Expr} {es : List Expr} {ta : TE} {t : TA}
theorem run_makeS {pins : List (Addr × Obj)} {σ : L2.St} {H : Hp} {s : Shared} {Q : VK} {us : List Value} {vs : List V} {E : XK} (M : Mk X.K C f) (F : FnOk X.prog X.w X.K X.mg X.base CX k f fd ps sp) (hr : Room (k + 1) X.A) (hb : Binds X.K fd ps [])
    (hx : PassesAt CX X σ E) (I : Inv X pins σ H s) (r : Vals vs us)
    (h : ∀ x dx, H x = none → H dx = none → dx ≠ x → sp (.ref x :: vs) (upd (upd H dx (.own x)) x (.ins C dx [])) (fun v H2 => v = .non ∧ Q (.ref x) H2) E) :
    wpAny (model X.prog X.w) X.A (call (.ref C) us) (EP X pins σ Q) X.xe s := by
  have hq := h (s.heap.objs.size + 1) s.heap.objs.size (I.hok.fresh (Nat.le_succ _)) (I.hok.fresh (Nat.le_refl _)) (Nat.ne_of_lt (Nat.lt_succ_self _))
  have I2 := Inv.made (C := C) I
  have r2 : Vals (V.ref (s.heap.objs.size + 1) :: vs) (Value.ref (s.heap.objs.size + 1) :: us) := .cons rfl r
  have hl : (Value.ref (s.heap.objs.size + 1) :: us).length = ps.length := by
    have e := r2.length
    rw [F.len _ _ _ _ hq] at e
    exact e.symm
  have b := hb _ (Value.ref (s.heap.objs.size + 1) :: us) I2.kIn (by rw [List.append_nil]; exact hl)
  rw [List.append_nil] at b
  refine wpAny_call (make_map (f := f) I.kIn M.makes M.init (beq_iff_eq.mp M.fn) (codeAny_mono (F.run _ X.stack _ _ ⟨Value.ref (s.heap.objs.size + 1) :: us, []⟩ (Value.ref (s.heap.objs.size + 1) :: us) _ _ E (hr.make C us [])
    (I2.env0.make C us []) b r2 hq) fun r s' hq' => ?_))
  cases r with
  | error e => exact hx pins _ _ e s' I2 hq'
  | ok fl =>
    cases fl with
    | ret u =>
      obtain ⟨v, H', I3, rv, ev, q3⟩ := I2.after hq'
      subst ev
      exact ⟨rv, ⟨V.ref (s.heap.objs.size + 1), H', I3, rfl, q3⟩⟩
    | next => exact False.elim hq'
    | brk => exact False.elim hq'
    | cont => exact False.elim hq'
def tMakeS (C : Addr) (sp : Sp) (E : L2.St → XK) (t : TA) : TE := fun σ H Q => t σ H fun vs H1 => ∀ x dx, H1 x = none → H1 dx = none → dx ≠ x →
  sp (.ref x :: vs) (upd (upd H1 dx (.own x)) x (.ins C dx [])) (fun v H2 => v = .non ∧ Q (.ref x) H2) (E σ)
theorem pe_makeS (M : Mk X.K C f) (F : FnOk X.prog X.w X.K X.mg X.base CX k f fd ps sp) (hr : Room (k + 1) X.A) (hg : Gl X x) (hm : X.mg x = some (.ref C)) (hb : Binds X.K fd ps []) (hx : ∀ σ, PassesAt CX X σ (E σ))
    (ha : PA X (e :: es) t) (hdb : (x == ("__debug__" : Str)) = false := by decide) (he : starEach (e :: es) X.env = (false, eval e X.env) :: starEach es X.env := by rfl) (hpl : (backTo pos (starEach es X.env)).any (·.1) = false := by rfl) :
    PE X (.Call (.Name x p) (e :: es) [] pos) (tMakeS C sp E t) := by
  refine ⟨fun pins s σ H Q I h => ?_⟩
  refine wpAny_Call_Name_kw (ld_glob I hg hm ?_ hdb)
  refine PySem.W.callWith_K (h₀ := X.base) I.ok.mod.kin M.kp (thn (ha.run pos pins s σ H _ I h) fun us s1 ⟨vs, H1, I1, r, q⟩ => ⟨I1.kIn, ?_⟩) he hpl
  exact run_makeS M F hr hb (hx σ) I1 r q
theorem pe_makeS0 (M : Mk X.K C f) (F : FnOk X.prog X.w X.K X.mg X.base CX k f fd ps sp) (hr : Room (k + 1) X.A) (hg : Gl X x) (hm : X.mg x = some (.ref C)) (hb : Binds X.K fd ps []) (hx : ∀ σ, PassesAt CX X σ (E σ))
    (hdb : (x == ("__debug__" : Str)) = false := by decide) : PE X (.Call (.Name x p) [] [] pos) (tMakeS C sp E tNil) := by
  refine ⟨fun pins s σ H Q I h => ?_⟩
  refine wpAny_Call_Name_kw (ld_glob I hg hm ?_ hdb)
  exact PySem.W.callWith_K0 I.kIn M.kp (run_makeS (us := []) M F hr hb (hx σ) I .nil h)
def tMethS (C : Addr) (m : Str) (sp : Sp) (E : L2.St → XK) (ta : TE) (t : TA) : TE := fun σ H Q => ta σ H fun x H1 => ∃ a dx fs, x = .ref a ∧ H1 a = some (.ins C dx fs) ∧ fs.lookup m = none ∧
  t σ H1 fun vs H2 => sp (x :: vs) H2 Q (E σ)
theorem pe_methS {pl : Sem Bool} (he : PE X o ta) (c : Cls X.K C) (hm : Meth X.K C m f) (F : FnOk X.prog X.w X.K X.mg X.base CX k f fd ps sp) (hr : Room k X.A) (hb : Binds X.K fd ps []) (hx : ∀ σ, PassesAt CX X σ (E σ)) (ha : PA X (e :: es) t)
    (hst : starEach (e :: es) X.env = (false, eval e X.env) :: starEach es X.env := by rfl) (hpl : (backTo pos (starEach es X.env)).any (·.1) = false := by rfl)
    (ht : eval (.Call (.Attribute o m apos) (e :: es) [] pos) X.env = (do
      let ov ← eval o X.env
      standAt apos.atName
      let (f, first) ← holding [ov] (getMethod ov m pl)
      callWith pos f first (backTo pos (starEach (e :: es) X.env)) (backToKw pos (keywordEach [] X.env))) := by rfl) :
    PE X (.Call (.Attribute o m apos) (e :: es) [] pos) (tMethS C m sp E ta t) := by
  refine ⟨fun pins s σ H Q I h => ?_⟩
  refine PySem.W.methodCall_KW (pl := pl) (thn (he.run pins s σ H _ I h) fun u s1 ⟨x, H1, I1, rx, a, dx, fs, ex, ea, l, q⟩ => ?_) ht
  subst ex
  obtain rfl : u = Value.ref a := rx
  refine getmeth_ok I1 ea c hm l ?_
  refine PySem.W.callWith_K (first := [.ref a]) (h₀ := X.base) I.ok.mod.kin hm.kp (thn (ha.run pos pins s1 σ H1 _ I1 q) fun us s2 ⟨vs, H2, I2, r, q2⟩ => ⟨I2.kIn, ?_⟩) hst hpl
  exact run_fnS (us := .ref a :: us) (vs := .ref a :: vs) (E := E) F hr hb (hx σ) I2 (.cons rfl r) q2
theorem pe_methS0 {pl : Sem Bool} (he : PE X o ta) (c : Cls X.K C) (hm : Meth X.K C m f) (F : FnOk X.prog X.w X.K X.mg X.base CX k f fd ps sp) (hr : Room k X.A) (hb : Binds X.K fd ps []) (hx : ∀ σ, PassesAt CX X σ (E σ))
    (ht : eval (.Call (.Attribute o m apos) [] [] pos) X.env = (do
      let ov ← eval o X.env
      standAt apos.atName
      let (f, first) ← holding [ov] (getMethod ov m pl)
      callWith pos f first (backTo pos (starEach [] X.env)) (backToKw pos (keywordEach [] X.env))) := by rfl) :
    PE X (.Call (.Attribute o m apos) [] [] pos) (tMethS C m sp E ta tNil) := by
  refine ⟨fun pins s σ H Q I h => ?_⟩
  refine PySem.W.methodCall_KW (pl := pl) (thn (he.run pins s σ H _ I h) fun u s1 ⟨x, H1, I1, rx, a, dx, fs, ex, ea, l, q⟩ => ?_) ht
  subst ex
  obtain rfl : u = Value.ref a := rx
  refine getmeth_ok I1 ea c hm l ?_
  exact PySem.W.callWith_K0 (first := [.ref a]) I1.kIn hm.kp (run_fnS (us := [.ref a]) (vs := [.ref a]) (E := E) F hr hb (hx σ) I1 (.cons rfl .nil) q)
theorem pe_callS0 (F : FnOk X.prog X.w X.K X.mg X.base CX k f fd ps sp) (hr : Room k X.A) (hg : Gl X x) (hm : X.mg x = some (.ref f)) (hk : PySem.W.keepIn X.K (.ref f) = true) (hb : Binds X.K fd ps []) (hx : ∀ σ, PassesAt CX X σ (E σ))
    (hdb : (x == ("__debug__" : Str)) = false := by decide) : PE X (.Call (.Name x p) [] [] pos) (tCallS sp E tNil) := by
  refine ⟨fun pins s σ H Q I h => ?_⟩
  refine wpAny_Call_Name_kw (ld_glob I hg hm ?_ hdb)
  exact PySem.W.callWith_K0 I.kIn hk (run_fnS (us := []) (E := E) F hr hb (hx σ) I .nil h)
end
theorem tG_imp {α β : Type} {T : Tab} {K : PySem.W.Frag} {R : Hp → β → α → Prop} {W : WG} {m : Env' → Sto → (α → Sto → Prop) → DX → Prop} {σ : L2.St} {H : Hp} {Q Q' : β → Hp → Prop} (h : tG T K R W m σ H Q) (k : ∀ v H, Q v H → Q' v H) : tG T K R W m σ H Q' := by
  obtain ⟨F, env, μ, Q0, E0, hE, hS, hm, hQ, hX⟩ := h
  exact ⟨F, env, μ, Q0, E0, hE, hS, hm, fun d μ1 q F1 H1 v l s r => k _ _ (hQ d μ1 q F1 H1 v l s r), hX⟩
def dCall (fm : DF) (mt : DA) : DM := fun env μ Q E => mt env μ (fun ds μ1 => fm ds μ1 Q E) E
/-- o.m(..), o of the class c -/
def dMeth (c : Nat) (fm : DF) (mo : DM) (mt : DA) : DM := fun env μ Q E => mo env μ (fun x μ1 => match x with
  | .ins c' fs => c' = c ∧ mt env μ1 (fun ds μ2 => fm (.ins c' fs :: ds) μ2 Q E) E
  | .cell a => ∃ fs, μ1 a = some (.ins c fs) ∧ mt env μ1 (fun ds μ2 => fm (.cell a :: ds) μ2 Q E) E
  | _ => False) E
/-- C(..): frozen once it is made, or a cell -/
def dMake (fr : Bool) (c : Nat) (fm : DF) (mt : DA) : DM := fun env μ Q E => mt env μ (fun ds μ1 => ∀ a, μ1 a = none → fm (.cell a :: ds) (upm μ1 a (.ins c [])) (fun r μ2 => r = .non ∧ match fr with
  | true => ∃ fs μ3, μ2 a = some (.ins c fs) ∧ Sub μ3 μ2 ∧ μ3 a = none ∧ Q (.ins c fs) μ3
  | false => Q (.cell a) μ2) E) E
section
variable {T : Tab} {X : Cx} {k : Nat} {ps : List Str} {fm : DF} {x m : Str} {p pos apos : Pos} {e o : Expr} {es : List Expr} {mo : DM} {mt : DA} {nF c : Nat}
theorem sp_of {W : WG} {σ : L2.St} {F F1 H1 : Hp} {μ1 : Sto} {vs : List V} {ds : List D} {Q0 : DQ} {E0 : DX} {Q : VK} (rs : Reps T X.K F1 vs ds) (hS1 : StR T X.K W.G F1 H1 μ1) (q : fm ds μ1 Q0 E0) (hQ : Kon T X.K W.G F (Rep T X.K) Q0 Q) (hX : KonX T X.K W F σ E0) (l : Le F F1) :
    spD T X.K fm vs H1 Q (WE W.W σ) := ⟨W.G, F1, μ1, ds, Q0, E0, rs, hS1, q, hQ.mono l, hX.mono l⟩
theorem tE_call {W : WG} {σ : L2.St} {H : Hp} {Q : VK} (h : tE T X.K W (dCall fm mt) σ H Q) : tCallS (spD T X.K fm) (WE W.W) (tA T X.K W mt) σ H Q := by
  obtain ⟨F, env, μ, Q0, E0, hE, hS, hm, hQ, hX⟩ := h
  exact ⟨F, env, μ, _, E0, hE, hS, hm, fun ds μ1 q F1 H1 vs l hS1 rs => sp_of rs hS1 q hQ hX l, hX⟩
theorem se_call (G : Fn T X.prog X.w X.K X.mg X.base x k ps fm) (hr : Room k X.A) (hg : Gl X x) (ha : SA T X (e :: es) mt) (hdb : (x == ("__debug__" : Str)) = false := by decide)
    (he : starEach (e :: es) X.env = (false, eval e X.env) :: starEach es X.env := by rfl) (hpl : (backTo pos (starEach es X.env)).any (·.1) = false := by rfl) : SE T X (.Call (.Name x p) (e :: es) [] pos) (dCall fm mt) := by
  obtain ⟨f, fd, hm, hk, hb, F⟩ := G.ex
  exact ⟨fun W tk => PE.imp (pe_callS (E := WE W.W) F hr hg hm hk hb (fun σ => passAt tk.tk σ) (ha.run W tk) hdb he hpl) fun σ H Q h => tE_call h⟩
theorem se_call0 (G : Fn T X.prog X.w X.K X.mg X.base x k ps fm) (hr : Room k X.A) (hg : Gl X x) (hdb : (x == ("__debug__" : Str)) = false := by decide) : SE T X (.Call (.Name x p) [] [] pos) (dCall fm dNil) := by
  obtain ⟨f, fd, hm, hk, hb, F⟩ := G.ex
  refine ⟨fun W tk => PE.imp (pe_callS0 (E := WE W.W) F hr hg hm hk hb (fun σ => passAt tk.tk σ) hdb) fun σ H Q h => ?_⟩
  obtain ⟨F, env, μ, Q0, E0, hE, hS, hm, hQ, hX⟩ := h
  exact sp_of .nil hS hm hQ hX (Le.refl F)
theorem tE_meth {W : WG} {σ : L2.St} {H : Hp} {Q : VK} (no : ∀ i, T.fld i ≠ m) (h : tE T X.K W (dMeth c fm mo mt) σ H Q) : tMethS (T.cls c) m (spD T X.K fm) (WE W.W) (tE T X.K W mo) (tA T X.K W mt) σ H Q := by
  obtain ⟨F, env, μ, Q0, E0, hE, hS, hm, hQ, hX⟩ := h
  refine ⟨F, env, μ, _, E0, hE, hS, hm, fun x μ1 q F1 H1 v l hS1 rv => ?_, hX⟩
  cases x with
  | ins c' fs =>
    obtain ⟨ec, q⟩ := q
    subst ec
    have rv' := rv
    cases rv with
    | ins h r => exact ⟨_, _, _, rfl, hS1.sub _ _ h, r.noLk no, F1, env, μ1, _, E0, hE.mono l, hS1, q, fun ds μ2 q2 F2 H2 vs l2 hS2 rs => sp_of (.cons (rv'.mono l2) rs) hS2 q2 hQ hX (l.trans l2), hX.mono l⟩
  | cell a =>
    obtain ⟨fs, e0, q⟩ := q
    cases rv
    obtain ⟨dx, vs, h1, r⟩ := hS1.cellI e0
    exact ⟨a, dx, vs, rfl, h1, r.noLk no, F1, env, μ1, _, E0, hE.mono l, hS1, q, fun ds μ2 q2 F2 H2 vs l2 hS2 rs => sp_of (.cons (.cell a) rs) hS2 q2 hQ hX (l.trans l2), hX.mono l⟩
  | _ => exact q.elim
theorem se_meth {pl : Sem Bool} (G : Mth T X.prog X.w X.K X.mg X.base c m k ps fm) (ok : TabOk T X.K nF) (hr : Room k X.A) (ho : SE T X o mo) (ha : SA T X (e :: es) mt)
    (hst : starEach (e :: es) X.env = (false, eval e X.env) :: starEach es X.env := by rfl) (hpl : (backTo pos (starEach es X.env)).any (·.1) = false := by rfl)
    (ht : eval (.Call (.Attribute o m apos) (e :: es) [] pos) X.env = (do
      let ov ← eval o X.env
      standAt apos.atName
      let (f, first) ← holding [ov] (getMethod ov m pl)
      callWith pos f first (backTo pos (starEach (e :: es) X.env)) (backToKw pos (keywordEach [] X.env))) := by rfl) : SE T X (.Call (.Attribute o m apos) (e :: es) [] pos) (dMeth c fm mo mt) := by
  obtain ⟨f, fd, hm, hb, F⟩ := G.ex
  exact ⟨fun W tk => PE.imp (pe_methS (E := WE W.W) (ho.run W tk) (ok.cls c) hm F hr hb (fun σ => passAt tk.tk σ) (ha.run W tk) hst hpl ht) fun σ H Q h => tE_meth G.no h⟩
theorem se_meth0 {pl : Sem Bool} (G : Mth T X.prog X.w X.K X.mg X.base c m k ps fm) (ok : TabOk T X.K nF) (hr : Room k X.A) (ho : SE T X o mo)
    (ht : eval (.Call (.Attribute o m apos) [] [] pos) X.env = (do
      let ov ← eval o X.env
      standAt apos.atName
      let (f, first) ← holding [ov] (getMethod ov m pl)
      callWith pos f first (backTo pos (starEach [] X.env)) (backToKw pos (keywordEach [] X.env))) := by rfl) : SE T X (.Call (.Attribute o m apos) [] [] pos) (dMeth c fm mo dNil) := by
  obtain ⟨f, fd, hm, hb, F⟩ := G.ex
  refine ⟨fun W tk => PE.imp (pe_methS0 (E := WE W.W) (ho.run W tk) (ok.cls c) hm F hr hb (fun σ => passAt tk.tk σ) ht) fun σ H Q h => ?_⟩
  have z := tE_meth (mt := dNil) G.no h
  refine tG_imp z fun x H1 ⟨a, dx, fs, e1, e2, e3, q⟩ => ⟨a, dx, fs, e1, e2, e3, ?_⟩
  obtain ⟨F, env, μ, Q0, E0, hE, hS, hm, hQ, hX⟩ := q
  exact hQ [] μ hm F H1 [] (Le.refl F) hS .nil
theorem tE_make {W : WG} {fr : Bool} {σ : L2.St} {H : Hp} {Q : VK} (h : tE T X.K W (dMake fr c fm mt) σ H Q) : tMakeS (T.cls c) (spD T X.K fm) (WE W.W) (tA T X.K W mt) σ H Q := by
  obtain ⟨F, env, μ, Q0, E0, hE, hS, hm, hQ, hX⟩ := h
  refine ⟨F, env, μ, _, E0, hE, hS, hm, fun ds μ1 q F1 H1 vs l hS1 rs => ?_, hX⟩
  intro a dx ha hdx ne
  have h1 := hS1.skip (o := .own a) hdx
  have ha' : upd H1 dx (.own a) a = none := by rw [upd_ne (Ne.symm ne)]; exact ha
  have h2 : StR T X.K W.G F1 (upd (upd H1 dx (.own a)) a (.ins (T.cls c) dx [])) (upm μ1 a (.ins c [])) := h1.newCell ha' ⟨rfl, .nil⟩
  refine ⟨W.G, F1, _, _, _, E0, .cons (.cell a) rs, h2, q a (hS1.noCell ha), fun r μ2 q2 F2 H2 v l2 hS2 rv => ?_, hX.mono l⟩
  obtain ⟨er, q2⟩ := q2
  subst er
  cases rv
  refine ⟨rfl, ?_⟩
  cases fr with
  | false => exact hQ _ _ q2 F2 H2 _ (l.trans l2) hS2 (.cell a)
  | true =>
    obtain ⟨fs, μ3, e0, s3, n3, q2⟩ := q2
    obtain ⟨dx', vs', h3, r3⟩ := hS2.cellI e0
    have hf := hS2.freeze e0 h3
    obtain ⟨hF, _⟩ := hS2.cell a _ e0
    have e := Le.new (o := .ins (T.cls c) dx' vs') hF
    refine hQ _ _ q2 _ H2 _ (l.trans (l2.trans e)) (hf.sto fun b m z => ?_) (.ins upd_same (r3.mono e))
    have hb : b ≠ a := fun y => by subst y; rw [n3] at z; cases z
    rw [delm_ne hb]
    exact s3 b m z
theorem se_make (fr : Bool) (G : Mkr T X.prog X.w X.K X.mg X.base x c k ps fm) (hr : Room (k + 1) X.A) (hg : Gl X x) (ha : SA T X (e :: es) mt) (hdb : (x == ("__debug__" : Str)) = false := by decide)
    (he : starEach (e :: es) X.env = (false, eval e X.env) :: starEach es X.env := by rfl) (hpl : (backTo pos (starEach es X.env)).any (·.1) = false := by rfl) : SE T X (.Call (.Name x p) (e :: es) [] pos) (dMake fr c fm mt) := by
  obtain ⟨f, fd, hm, M, hb, F⟩ := G.ex
  exact ⟨fun W tk => PE.imp (pe_makeS (E := WE W.W) M F hr hg hm hb (fun σ => passAt tk.tk σ) (ha.run W tk) hdb he hpl) fun σ H Q h => tE_make h⟩
end
end DL

/-! DL6: methods of lists, subscripts, slices, built-in functions. -/
namespace DL
open PySem PySem.Spec PyProof.Rows L2

/-! ### calls of built-in functions, methods -/
abbrev DR := List D → Sto → DQ → Prop
def rDs (T : Tab) (K : PySem.W.Frag) (r : DR) : List V → Hp → VK → Prop := fun xs H Q => ∃ G F μ ds Q0, StR T K G F H μ ∧ Reps T K F xs ds ∧ r ds μ Q0 ∧ Kon T K G F (Rep T K) Q0 Q
def CallD (T : Tab) (X : Cx) (f : Value) (r : DR) : Prop := CallR X f (rDs T X.K r)
def dB (r : DR) (mt : DA) : DM := fun env μ Q E => mt env μ (fun ds μ1 => r ds μ1 Q) E
/-- a list's method: its items, the arguments, what is told with the items behind it -/
abbrev DMt := List D → List D → Sto → (D → List D → Prop) → Prop
def rDM (T : Tab) (K : PySem.W.Frag) (r : DMt) : V → List V → Hp → VK → Prop := fun x xs H Q => ∃ G F μ a ys ds Q0, StR T K G F H μ ∧ x = .ref a ∧ μ a = some (.lst ys) ∧ Reps T K F xs ds ∧
  r ys ds μ (fun d zs => Q0 d (upm μ a (.lst zs))) ∧ Kon T K G F (Rep T K) Q0 Q
def MtD (T : Tab) (X : Cx) (id : String) (r : DMt) : Prop := MtR X id (rDM T X.K r)
def dLM (r : DMt) (mo : DM) (mt : DA) : DM := fun env μ Q E => mo env μ (fun x μ1 => match x with
  | .cell a => (∃ xs, μ1 a = some (.lst xs)) ∧ mt env μ1 (fun ds μ2 => ∃ xs, μ2 a = some (.lst xs) ∧ r xs ds μ2 (fun d ys => Q d (upm μ2 a (.lst ys)))) E
  | _ => False) E
section
variable {T : Tab} {X : Cx} {x m id : String} {p pos apos : Pos} {e o : Expr} {es : List Expr} {mo : DM} {mt : DA} {r : DR} {rm : DMt} {Ty : String}
theorem tE_B {W : WG} {K : PySem.W.Frag} {σ : L2.St} {H : Hp} {Q : VK} (h : tE T K W (dB r mt) σ H Q) : tCB (rDs T K r) (tA T K W mt) σ H Q := by
  obtain ⟨F, env, μ, Q0, E0, hE, hS, hm, hQ, hX⟩ := h
  exact ⟨F, env, μ, _, E0, hE, hS, hm, fun ds μ1 q F1 H1 vs l hS1 rs => ⟨W.G, F1, μ1, ds, Q0, hS1, rs, q, hQ.mono l⟩, hX⟩
theorem se_callB {x : Str} (hc : CallD T X (.builtin id) r) (hg : Gl X x) (hm : X.mg x = none) (ha : SA T X (e :: es) mt) (hv : bootBuiltins x = some (.builtin id) := by rfl) (hn : x ≠ "__name__" := by decide) (hdb : (x == ("__debug__" : Str)) = false := by decide)
    (he : starEach (e :: es) X.env = (false, eval e X.env) :: starEach es X.env := by rfl) (hpl : (backTo pos (starEach es X.env)).any (·.1) = false := by rfl) : SE T X (.Call (.Name x p) (e :: es) [] pos) (dB r mt) :=
  ⟨fun W tk => PE.imp (pe_callB hc hg hm hv (ha.run W tk) hn hdb he hpl) fun _ _ _ h => tE_B h⟩
theorem se_callTy {x : Str} (hc : CallD T X (.type Ty) r) (hg : Gl X x) (hm : X.mg x = none) (ha : SA T X (e :: es) mt) (hv : bootBuiltins x = some (.type Ty) := by rfl) (hn : x ≠ "__name__" := by decide) (hdb : (x == ("__debug__" : Str)) = false := by decide)
    (he : starEach (e :: es) X.env = (false, eval e X.env) :: starEach es X.env := by rfl) (hpl : (backTo pos (starEach es X.env)).any (·.1) = false := by rfl) : SE T X (.Call (.Name x p) (e :: es) [] pos) (dB r mt) :=
  ⟨fun W tk => PE.imp (pe_callTy hc hg hm hv (ha.run W tk) hn hdb he hpl) fun _ _ _ h => tE_B h⟩
theorem tE_LM {W : WG} {K : PySem.W.Frag} {σ : L2.St} {H : Hp} {Q : VK} (h : tE T K W (dLM rm mo mt) σ H Q) : tBM K "list" (rDM T K rm) (tE T K W mo) (tA T K W mt) σ H Q := by
  obtain ⟨F, env, μ, Q0, E0, hE, hS, hm, hQ, hX⟩ := h
  refine ⟨F, env, μ, _, E0, hE, hS, hm, fun x μ1 q F1 H1 v l hS1 rv => ?_, hX⟩
  cases x with
  | cell a =>
    obtain ⟨⟨xs, e0⟩, q⟩ := q
    cases rv
    obtain ⟨vs, h1, r1⟩ := hS1.cellL e0
    refine ⟨.inl ⟨rfl, vs, SqL.of h1⟩, F1, env, μ1, _, E0, hE.mono l, hS1, q, fun ds μ2 q2 F2 H2 ws l2 hS2 rs => ?_, hX.mono l⟩
    obtain ⟨ys, e2, q2⟩ := q2
    exact ⟨W.G, F2, μ2, a, ys, ds, Q0, hS2, rfl, e2, rs, q2, hQ.mono (l.trans l2)⟩
  | _ => exact q.elim
theorem se_lm {m : Str} (slot : Slot "list" m id) (hm : MtD T X id rm) (ho : SE T X o mo) (ha : SA T X (e :: es) mt) (hty : typeOf (.builtin id) = pure (.type "method_descriptor") := by kernel_rfl)
    (hbase : attributeBase o m X.env (eval o X.env) = eval o X.env := by rfl)
    (hfew : ((backTo pos (starEach (e :: es) X.env)).all (fun x => !x.1) && (backToKw pos (keywordEach [] X.env)).all (fun x => x.1.isSome)
      && decide ((e :: es).length + ([] : List Keyword).length + (if ([] : List Keyword).isEmpty then 0 else 1) < 30)) = true := by rfl)
    (hline : (apos.endLine == pos.line) = true := by rfl) (hs : starEach (e :: es) X.env = (false, eval e X.env) :: starEach es X.env := by rfl) (hplain : (backTo pos (starEach es X.env)).any (·.1) = false := by rfl) :
    SE T X (.Call (.Attribute o m apos) (e :: es) [] pos) (dLM rm mo mt) :=
  ⟨fun W tk => PE.imp (pe_bm PySem.F.plainAttrs_list slot hty hm (ho.run W tk) (ha.run W tk) hbase hfew hline hs hplain) fun _ _ _ h => tE_LM h⟩
theorem se_lm0 {m : Str} (slot : Slot "list" m id) (hm : MtD T X id rm) (ho : SE T X o mo) (hty : typeOf (.builtin id) = pure (.type "method_descriptor") := by kernel_rfl)
    (hbase : attributeBase o m X.env (eval o X.env) = eval o X.env := by rfl) (hline : (apos.endLine == pos.line) = true := by rfl) :
    SE T X (.Call (.Attribute o m apos) [] [] pos) (dLM rm mo dNil) := by
  refine ⟨fun W tk => PE.imp (pe_bm0 PySem.F.plainAttrs_list slot hty hm (ho.run W tk) hbase hline) fun σ H Q h => ?_⟩
  refine tG_imp (tE_LM h) fun x H1 ⟨ty, F, env, μ, Q0, E0, hE, hS, hm, hQ, hX⟩ => ⟨ty, hQ [] μ hm F H1 [] (Le.refl F) hS .nil⟩

/-! ### the methods -/
def lmAppend : DMt := fun xs ds _ k => match ds with
  | [d] => xs.length ≤ 1000000 ∧ k .non (xs ++ [d])
  | _ => False
def lmPop : DMt := fun xs ds _ k => match ds with
  | [] => ∃ d, xs[xs.length - 1]? = some d ∧ k d xs.dropLast
  | [.int i] => ∃ j d, ixN xs.length i = some j ∧ xs[j]? = some d ∧ k d (xs.eraseIdx j)
  | _ => False
def lmReverse : DMt := fun xs ds _ k => match ds with
  | [] => k .non xs.reverse
  | _ => False
def lmClear : DMt := fun _ ds _ k => match ds with
  | [] => k .non []
  | _ => False
def lmExtend : DMt := fun xs ds μ k => match ds with
  | [d] => ∃ ys, getL μ d = some ys ∧ xs.length + ys.length ≤ 1000000 ∧ k .non (xs ++ ys)
  | _ => False
theorem million : (1000000 : Nat) < sizeLine := by decide
theorem one_of {ds : List D} {P : D → Prop} (h : match ds with
  | [d] => P d
  | _ => False) : ∃ d, ds = [d] ∧ P d := by
  split at h
  · exact ⟨_, rfl, h⟩
  · exact h.elim
theorem zero_of {ds : List D} {P : Prop} (h : match ds with
  | [] => P
  | _ => False) : ds = [] ∧ P := by
  split at h
  · exact ⟨rfl, h⟩
  · exact h.elim
theorem mtd_append : MtD T X "list.append" lmAppend := by
  intro pins s σ H x xs v us Q I rx rs h
  obtain ⟨G, F, μ, a, ys, ds, Q0, hS, rfl, e0, r0, q, hQ⟩ := h
  obtain ⟨d, e, q⟩ := one_of (P := fun d => ys.length ≤ 1000000 ∧ Q0 .non (upm μ a (.lst (ys ++ [d])))) q
  subst e
  obtain ⟨vs, h1, r1⟩ := hS.cellL e0
  cases r0 with
  | cons rd rr =>
    cases rr
    refine mt_append pins s σ H _ _ v us Q I rx rs ⟨a, vs, _, rfl, rfl, h1, by rw [r1.length]; exact Nat.lt_of_le_of_lt q.1 million, ?_⟩
    exact hQ _ _ q.2 F _ _ (Le.refl F) (hS.write e0 (r1.append (.one rd))) .non
theorem mtd_pop : MtD T X "list.pop" lmPop := by
  intro pins s σ H x xs v us Q I rx rs h
  obtain ⟨G, F, μ, a, ys, ds, Q0, hS, rfl, e0, r0, q, hQ⟩ := h
  obtain ⟨vs, h1, r1⟩ := hS.cellL e0
  cases r0 with
  | nil =>
    obtain ⟨d, e1, q⟩ := q
    obtain ⟨w, e2, r2⟩ := r1.get e1
    refine mt_pop pins s σ H _ _ v us Q I rx rs ⟨a, vs, w, rfl, rfl, h1, by rw [r1.length]; exact e2, ?_⟩
    exact hQ _ _ q F _ _ (Le.refl F) (hS.write e0 r1.dropLast) r2
  | cons rd rr =>
    cases rr with
    | cons _ _ => unfold lmPop at q; split at q <;> first | exact q.elim | (rename_i z; cases z)
    | nil =>
      cases rd with
      | int i =>
        obtain ⟨j, d, e1, e3, q⟩ := q
        obtain ⟨w, e2, r2⟩ := r1.get e3
        rw [← r1.length] at e1
        obtain ⟨z, its, n, _⟩ := I.lstM h1
        obtain ⟨h2, h3, h4, h5⟩ := ixN_seq e1
        have hl := line63
        refine mt_popAt pins s σ H _ _ v us Q I rx rs ⟨a, vs, i, j, w, rfl, rfl, h1, by omega, by omega, h2, e2, ?_⟩
        exact hQ _ _ q F _ _ (Le.refl F) (hS.write e0 (r1.eraseIdx j)) r2
      | _ => exact q.elim
theorem mtd_reverse : MtD T X "list.reverse" lmReverse := by
  intro pins s σ H x xs v us Q I rx rs h
  obtain ⟨G, F, μ, a, ys, ds, Q0, hS, rfl, e0, r0, q, hQ⟩ := h
  obtain ⟨e, q⟩ := zero_of (P := Q0 .non (upm μ a (.lst ys.reverse))) q
  subst e
  obtain ⟨vs, h1, r1⟩ := hS.cellL e0
  cases r0
  exact mt_reverse pins s σ H _ _ v us Q I rx rs ⟨a, vs, rfl, rfl, h1, hQ _ _ q F _ _ (Le.refl F) (hS.write e0 r1.reverse) .non⟩
theorem mtd_clear : MtD T X "list.clear" lmClear := by
  intro pins s σ H x xs v us Q I rx rs h
  obtain ⟨G, F, μ, a, ys, ds, Q0, hS, rfl, e0, r0, q, hQ⟩ := h
  obtain ⟨e, q⟩ := zero_of (P := Q0 .non (upm μ a (.lst []))) q
  subst e
  obtain ⟨vs, h1, r1⟩ := hS.cellL e0
  cases r0
  exact mt_clear pins s σ H _ _ v us Q I rx rs ⟨a, vs, rfl, rfl, h1, hQ _ _ q F _ _ (Le.refl F) (hS.write (c := .lst []) (o := .lst []) e0 Reps.nil) .non⟩
end
end DL

/-! DL7: keys, subscripts, slices, dict displays, built-in functions, isinstance. -/
namespace DL
open PySem PySem.Spec PyProof.Rows L2

/-! ### keys and tables -/
def keyD : D → Option Key
  | .int i => some (.inl i)
  | .str s => some (.inr s)
  | _ => none
theorem keyD_ok {T : Tab} {K : PySem.W.Frag} {F : Hp} {v : V} {d : D} {k : Key} (r : Rep T K F v d) (h : keyD d = some k) : v = kV k := by
  cases r <;> cases h <;> rfl
def vD : List (Key × D) → Key → Option D
  | [], _ => none
  | (j, d) :: r, k => if j = k then some d else vD r k
def putD (kvs : List (Key × D)) (k : Key) (d : D) : List (Key × D) :=
  match vD kvs k with
  | some _ => kvs.map fun kv => if kv.1 = k then (kv.1, d) else kv
  | none => kvs ++ [(k, d)]
section
variable {T : Tab} {K : PySem.W.Frag} {G F H : Hp} {μ : Sto}
theorem RepK.length : ∀ {vs : List (Key × V)} {ds : List (Key × D)}, RepK T K F vs ds → vs.length = ds.length
  | _, _, .nil => rfl
  | _, _, .cons _ r => congrArg Nat.succ r.length
theorem RepK.val : ∀ {vs : List (Key × V)} {ds : List (Key × D)} {k : Key} {d : D}, RepK T K F vs ds → vD ds k = some d → ∃ v, valV vs k = some v ∧ Rep T K F v d
  | _, _, _, _, .nil, e => by cases e
  | _, _, k, d, .cons (k := j) h r, e => by
    unfold vD at e
    by_cases q : j = k
    · rw [if_pos q] at e; cases e
      exact ⟨_, valV_pos q, h⟩
    · rw [if_neg q] at e
      obtain ⟨v, h1, h2⟩ := RepK.val r e
      exact ⟨v, by rw [valV_neg q]; exact h1, h2⟩
theorem RepK.no : ∀ {vs : List (Key × V)} {ds : List (Key × D)} {k : Key}, RepK T K F vs ds → vD ds k = none → valV vs k = none
  | _, _, _, .nil, _ => rfl
  | _, _, k, .cons (k := j) h r, e => by
    unfold vD at e
    by_cases q : j = k
    · rw [if_pos q] at e; cases e
    · rw [if_neg q] at e
      rw [valV_neg q]; exact RepK.no r e
theorem RepK.map {k : Key} {v : V} {d : D} (h : Rep T K F v d) : ∀ {vs : List (Key × V)} {ds : List (Key × D)}, RepK T K F vs ds → RepK T K F (vs.map fun kv => if kv.1 = k then (kv.1, v) else kv) (ds.map fun kv => if kv.1 = k then (kv.1, d) else kv)
  | _, _, .nil => .nil
  | _, _, .cons (k := j) h0 r => by
    rw [List.map_cons, List.map_cons]
    by_cases q : j = k
    · rw [if_pos q, if_pos q]; exact .cons h (RepK.map h r)
    · rw [if_neg q, if_neg q]; exact .cons h0 (RepK.map h r)
theorem RepK.append : ∀ {vs ws : List (Key × V)} {ds es : List (Key × D)}, RepK T K F vs ds → RepK T K F ws es → RepK T K F (vs ++ ws) (ds ++ es)
  | _, _, _, _, .nil, s => s
  | _, _, _, _, .cons h r, s => .cons h (r.append s)
theorem RepK.put {k : Key} {v : V} {d : D} {vs : List (Key × V)} {ds : List (Key × D)} (r : RepK T K F vs ds) (h : Rep T K F v d) : RepK T K F (putK vs k v) (putD ds k d) := by
  unfold putK putD
  rw [valV_any]
  cases e : vD ds k with
  | none => rw [r.no e, if_neg (by simp)]; exact r.append (.cons h .nil)
  | some d0 =>
    obtain ⟨w, h1, _⟩ := r.val e
    rw [h1, if_pos (by rfl)]
    exact r.map h
theorem StR.cellK (h : StR T K G F H μ) {a : Addr} {kvs : List (Key × D)} (e : μ a = some (.dK kvs)) : ∃ vs, H a = some (.dK vs) ∧ RepK T K F vs kvs := by
  obtain ⟨_, o, h2, h3⟩ := h.cell a _ e
  cases o <;> first | exact False.elim h3 | exact ⟨_, h2, h3⟩
/-- the table of a dict -/
def getK (μ : Sto) : D → Option (List (Key × D))
  | .dK kvs => some kvs
  | .cell a => match μ a with
    | some (.dK kvs) => some kvs
    | _ => none
  | _ => none
theorem getK_ok {v : V} {d : D} {kvs : List (Key × D)} (h : StR T K G F H μ) (r : Rep T K F v d) (e : getK μ d = some kvs) : ∃ a vs, v = .ref a ∧ H a = some (.dK vs) ∧ RepK T K F vs kvs := by
  cases d with
  | dK ys =>
    cases e
    cases r with
    | dK h1 r1 => exact ⟨_, _, rfl, h.sub _ _ h1, r1⟩
  | cell a =>
    have e : (match μ a with
      | some (.dK xs) => some xs
      | _ => none) = some kvs := e
    cases r
    cases q : μ a with
    | none => rw [q] at e; cases e
    | some c =>
      rw [q] at e
      cases c with
      | dK ys =>
        cases e
        obtain ⟨vs, h1, r1⟩ := h.cellK q
        exact ⟨a, vs, rfl, h1, r1⟩
      | _ => cases e
  | _ => cases e
end

/-! ### a[i] -/
/-- a[i], whatever a is -/
def subD (μ : Sto) (x y : D) : Option D := match x with
  | .tup xs => (match y with
    | .int i => atI xs i
    | _ => none)
  | .lst xs => (match y with
    | .int i => atI xs i
    | _ => none)
  | .str s => (match y with
    | .int i => (atI s.cps.toList i).map fun c => .str ⟨#[c]⟩
    | _ => none)
  | .dK kvs => (keyD y).bind (vD kvs)
  | .cell a => (match μ a with
    | some (.lst xs) => (match y with
      | .int i => atI xs i
      | _ => none)
    | some (.dK kvs) => (keyD y).bind (vD kvs)
    | _ => none)
  | _ => none
def gIx : DR2 := fun x y μ Q => match x with
  | .str s => s.length ≤ 1000000 ∧ onS (subD μ (.str s) y) fun d => Q d μ
  | x => onS (subD μ x y) fun d => Q d μ
theorem Reps.atI {T : Tab} {K : PySem.W.Frag} {F : Hp} {vs : List V} {ds : List D} {i : Int} {d : D} (r : Reps T K F vs ds) (h : L2.atI ds i = some d) : ∃ v, L2.atI vs i = some v ∧ Rep T K F v d := by
  unfold L2.atI at h ⊢
  rw [r.length]
  cases e : ixN ds.length i with
  | none => rw [e] at h; cases h
  | some j => rw [e] at h; exact r.get h
def rIxK : R2 := fun x y H Q => ∃ a kvs k v, x = .ref a ∧ H a = some (.dK kvs) ∧ y = kV k ∧ valV kvs k = some v ∧ Q v H
theorem ix_dict {X : Cx} (hu : X.A.units + 1 < cLine) : IxR X rIxK := by
  intro value slice pins s σ H x y v u Q I rx ry h hs
  obtain ⟨a, kvs, k, w, ex, eH, ey, ev, q⟩ := h
  subst ex; subst ey
  obtain rfl : v = Value.ref a := rx
  have g : DGet H a (kV k) (some w) := by rw [← ev]; exact DGet.k eH
  exact tail_any (ops := [.ref a, u]) (dict_typeIs I g) PySem.F.slot_dict_getitem.lookup (d_getItem hu I g ry fun w' s3 I3 rw' => ⟨w, H, I3, rw', q⟩) hs
theorem ix_any {T : Tab} {X : Cx} (hu : X.A.units + 1 < cLine) : IxR X (rD T X.K gIx) := by
  intro value slice pins s σ H x y v u Q I rx ry h hs
  refine (ix_seq.or (ix_dict hu)) value slice pins s σ H x y v u Q I rx ry ?_ hs
  obtain ⟨G, F, μ, dx, dy, Q0, hS, rx, ry, g, hQ⟩ := h
  have seqL : ∀ {a : Addr} {xs : List V} {ds : List D} {i : Int} {d : D}, SqL X.K H a xs → Reps T X.K F xs ds → x = .ref a → y = .int i → atI ds i = some d → Q0 d μ → rIxL X.K x y H Q := fun h1 r1 ex ey e q => by
    obtain ⟨w, e2, r2⟩ := r1.atI e
    exact ⟨_, _, _, w, ex, ey, h1, e2, hQ _ μ q F H w (Le.refl F) hS r2⟩
  have dct : ∀ {a : Addr} {vs : List (Key × V)} {kvs : List (Key × D)}, H a = some (.dK vs) → RepK T X.K F vs kvs → x = .ref a → onS ((keyD dy).bind (vD kvs)) (fun d => Q0 d μ) → rIxK x y H Q := fun h1 r1 ex g => by
    obtain ⟨d, e, q⟩ := onS_of g
    cases ek : keyD dy with
    | none => rw [ek] at e; cases e
    | some k =>
      rw [ek] at e
      obtain ⟨w, e2, r2⟩ := r1.val e
      exact ⟨_, _, k, w, ex, h1, keyD_ok ry ek, e2, hQ _ μ q F H w (Le.refl F) hS r2⟩
  cases dx with
  | tup xs =>
    obtain ⟨d, e, q⟩ := onS_of g
    cases dy with
    | int i =>
      cases ry
      cases rx with
      | tup h1 r1 =>
        obtain ⟨w, e2, r2⟩ := r1.atI e
        exact .inl (.inr (.inl ⟨_, _, _, w, rfl, rfl, hS.sqT h1, e2, hQ _ μ q F H w (Le.refl F) hS r2⟩))
    | _ => cases e
  | lst xs =>
    obtain ⟨d, e, q⟩ := onS_of g
    cases dy with
    | int i =>
      cases ry
      cases rx with
      | lst h1 r1 => exact .inl (.inl (seqL (hS.sqL h1) r1 rfl rfl e q))
    | _ => cases e
  | str z =>
    obtain ⟨hz, g⟩ := g
    obtain ⟨d, e, q⟩ := onS_of g
    cases dy with
    | int i =>
      cases ry
      cases rx
      obtain ⟨c, e2, e3⟩ := Option.map_eq_some_iff.mp e
      subst e3
      exact .inl (.inr (.inr ⟨z, i, c, rfl, rfl, Nat.le_trans hz (by decide), e2, hQ _ μ q F H _ (Le.refl F) hS (.str _)⟩))
    | _ => cases e
  | dK kvs =>
    cases rx with
    | dK h1 r1 => exact .inr (dct (hS.sub _ _ h1) r1 rfl g)
  | cell a =>
    cases rx
    obtain ⟨d, e, q⟩ := onS_of g
    simp only [subD] at e
    cases ec : μ a with
    | none => simp only [ec] at e; cases e
    | some c =>
      simp only [ec] at e
      cases c with
      | lst xs =>
        obtain ⟨vs, h1, r1⟩ := hS.cellL ec
        cases dy with
        | int i => cases ry; exact .inl (.inl (seqL (SqL.of h1) r1 rfl rfl e q))
        | _ => cases e
      | dK kvs =>
        obtain ⟨vs, h1, r1⟩ := hS.cellK ec
        exact .inr (dct h1 r1 rfl (by rw [show (keyD dy).bind (vD kvs) = some d from e]; exact q))
      | _ => cases e
  | _ => first | exact g.elim | cases dy <;> exact g.elim
section
variable {T : Tab} {X : Cx} {a b e o i : Expr} {ma mb mo mi mv : DM} {pos p2 : Pos}
theorem se_ix (hu : X.A.units + 1 < cLine) (ha : SE T X a ma) (hb : SE T X b mb) (hs : PlainIx b := by intro _ _; rfl) : SE T X (.Subscript a b pos) (dOp gIx ma mb) :=
  ⟨fun W tk => PE.imp (pe_ix (ix_any hu) (ha.run W tk) (hb.run W tk) hs) fun _ _ _ h => tE_bin (fun _ _ _ _ q => q) h⟩

/-! ### o[i] = v -/
def setD (o i v : D) (μ : Sto) (Q : Sto → Prop) : Prop := match o with
  | .cell a => (match μ a with
    | some (.lst xs) => (match i with
      | .int n => onN (ixN xs.length n) fun j => Q (upm μ a (.lst (xs.set j v)))
      | _ => False)
    | some (.dK kvs) => onK (keyD i) fun k => kvs.length ≤ 1000000 ∧ Q (upm μ a (.dK (putD kvs k v)))
    | _ => False)
  | _ => False
where
  onN (o : Option Nat) (P : Nat → Prop) : Prop := match o with
    | some j => P j
    | none => False
  onK (o : Option Key) (P : Key → Prop) : Prop := match o with
    | some j => P j
    | none => False
theorem onN_of {o : Option Nat} {P : Nat → Prop} (h : setD.onN o P) : ∃ d, o = some d ∧ P d := by
  cases o with
  | none => exact h.elim
  | some d => exact ⟨d, rfl, h⟩
theorem onK_of {o : Option Key} {P : Key → Prop} (h : setD.onK o P) : ∃ d, o = some d ∧ P d := by
  cases o with
  | none => exact h.elim
  | some d => exact ⟨d, rfl, h⟩
def dSetI (mo mi mv : DM) : DS := fun env μ K => mv env μ (fun v μ1 => mo env μ1 (fun o μ2 => mi env μ2 (fun i μ3 => setD o i v μ3 fun μ4 => K.nx env μ4) (fun x μ1 => K.ex x env μ1)) (fun x μ1 => K.ex x env μ1)) (fun x μ1 => K.ex x env μ1)
def rSet (K : PySem.W.Frag) : TSet := fun o i v H Q => rSetL o i v H Q ∨ rSetD o i v H Q
theorem pset_any (hu : X.A.units + 1 < cLine) : PSet X (rSet X.K) := fun pins s σ H o i v ov iv u Q I ro ri rv q => q.elim (set_list pins s σ H o i v ov iv u Q I ro ri rv) (set_dict hu pins s σ H o i v ov iv u Q I ro ri rv)
theorem ss_sub {v : Expr} (hu : X.A.units + 1 < cLine) (ho : SE T X o mo) (hi : SE T X i mi) (hv : SE T X v mv) (hs : swapsWithSole [.Subscript o i p2] v pos.line X.env = pure false := by rfl) (hw : swappedStores [.Subscript o i p2] v X.env = pure none := by rfl)
    (h1 : (assignEach [.Subscript o i p2] X.env).map (·.2) = [assign (.Subscript o i p2) X.env] := by rfl)
    (ha : ∀ v, assign (.Subscript o i p2) X.env v = (do
      let ov ← holding [v] (eval o X.env)
      let iv ← holding [v, ov] (eval i X.env)
      standAt p2
      holding [v, ov, iv] (setItem ov iv v)
      release [v, ov, iv] []) := by intro _; rfl) : SS T X (.Assign [.Subscript o i p2] v pos) (dSetI mo mi mv) := by
  refine ⟨fun W tk => PS.imp (ps_asg (hv.run W tk) (pg_sub (ho.run W tk) (hi.run W tk) (pset_any hu) ha) hs hw h1) fun D σ H h => ?_⟩
  obtain ⟨F, env, μ, k, hE, hS, hm, hK⟩ := h
  refine ⟨F, env, μ, _, _, hE, hS, hm, fun y μ1 q F1 H1 w l hS1 rw' => ?_, hK.kx hE⟩
  refine ⟨F1, env, μ1, _, _, hE.mono l, hS1, q, fun x μ2 q2 F2 H2 u l2 hS2 rv => ?_, (hK.mono l).kx (hE.mono l)⟩
  refine ⟨F2, env, μ2, _, _, hE.mono (l.trans l2), hS2, q2, fun z μ3 q3 F3 H3 t l3 hS3 rt => ?_, (hK.mono (l.trans l2)).kx (hE.mono (l.trans l2))⟩
  have ll := l.trans (l2.trans l3)
  have rw3 := rw'.mono (l2.trans l3)
  cases x with
  | cell a =>
    cases rv
    unfold setD at q3
    cases ec : μ3 a with
    | none => simp only [ec] at q3
    | some c =>
      simp only [ec] at q3
      cases c with
      | lst xs =>
        cases z with
        | int n =>
          obtain ⟨j, e, q3⟩ := onN_of q3
          cases rt
          obtain ⟨vs, h1, r1⟩ := hS3.cellL ec
          exact .inl ⟨a, vs, n, j, rfl, rfl, h1, by rw [r1.length]; exact e, hK.nx env _ F3 _ σ q3 ll (hE.mono ll) (hS3.write ec (r1.set rw3 j))⟩
        | _ => exact q3.elim
      | dK kvs =>
        obtain ⟨key, e, hl, q3⟩ := onK_of q3
        obtain ⟨vs, h1, r1⟩ := hS3.cellK ec
        refine .inr ⟨a, _, rfl, .inl ⟨vs, key, h1, keyD_ok rt e, by rw [r1.length]; exact Nat.lt_of_le_of_lt hl million, rfl⟩, ?_⟩
        exact hK.nx env _ F3 _ σ q3 ll (hE.mono ll) (hS3.write ec (r1.put rw3))
      | _ => exact q3.elim
  | _ => exact q3.elim

/-! ### slices -/
abbrev DO := Env' → Sto → (Option Int → Sto → Prop) → DX → Prop
structure SO (T : Tab) (X : Cx) (e : Option Expr) (m : DO) : Prop where
  run : ∀ W, TK X W → PO X e (tG T X.K (fun _ b c => b = c) W m)
def dNoPart : DO := fun _ μ Q _ => Q none μ
def dPart (m : DM) : DO := fun env μ Q E => m env μ (fun d μ1 => match d with
  | .int i => Q (some i) μ1
  | _ => False) E
theorem PO.imp {e : Option Expr} {t t' : TO} (h : PO X e t) (k : ∀ σ H Q, t' σ H Q → t σ H Q) : PO X e t' := ⟨fun pins s σ H Q I q => h.run pins s σ H Q I (k _ _ _ q)⟩
theorem so_none : SO T X none dNoPart := ⟨fun W _ => PO.imp po_none fun σ H Q ⟨F, env, μ, Q0, E0, hE, hS, hm, hQ, _⟩ => hQ none μ hm F H none (Le.refl F) hS rfl⟩
theorem so_some {m : DM} (h : SE T X e m) : SO T X (some e) (dPart m) := by
  refine ⟨fun W tk => PO.imp (po_some (h.run W tk)) fun σ H Q h => ?_⟩
  obtain ⟨F, env, μ, Q0, E0, hE, hS, hm, hQ, hX⟩ := h
  refine ⟨F, env, μ, _, E0, hE, hS, hm, fun d μ1 q F1 H1 v l hS1 rv => ?_, hX⟩
  cases d with
  | int i => cases rv; exact ⟨i, rfl, hQ _ μ1 q F1 H1 _ l hS1 rfl⟩
  | _ => exact q.elim
def cutD (xs : List D) (lo hi : Option Int) : List D := (xs.drop (HT.sIx xs.length 0 lo)).take (HT.sIx xs.length xs.length hi - HT.sIx xs.length 0 lo)
theorem Reps.cut {K : PySem.W.Frag} {F : Hp} {vs : List V} {ds : List D} {lo hi : Option Int} (r : Reps T K F vs ds) : Reps T K F (cutV vs lo hi) (cutD ds lo hi) := by
  unfold cutV cutD
  rw [r.length]
  exact (r.drop _).take _
/-- a[lo:hi] of a tuple, a list (new: frozen or a cell), a text -/
def gSl (m : Bool) (x : D) (lo hi : Option Int) (μ : Sto) (Q : DQ) : Prop := match x with
  | .tup xs => Q (.tup (cutD xs lo hi)) μ
  | .str s => s.length ≤ 1000000 ∧ Q (.str (cutS s lo hi)) μ
  | .lst xs => newL m (cutD xs lo hi) μ Q
  | .cell a => onL (getL μ (.cell a)) fun xs => newL m (cutD xs lo hi) μ Q
  | _ => False
where
  onL (o : Option (List D)) (P : List D → Prop) : Prop := match o with
    | some xs => P xs
    | none => False
theorem onL_of {o : Option (List D)} {P : List D → Prop} (h : gSl.onL o P) : ∃ d, o = some d ∧ P d := by
  cases o with
  | none => exact h.elim
  | some d => exact ⟨d, rfl, h⟩
def dSl (m : Bool) (mo : DM) (ml mh : DO) : DM := fun env μ Q E => mo env μ (fun x μ1 => ml env μ1 (fun l μ2 => mh env μ2 (fun h μ3 => gSl m x l h μ3 Q) E) E) E
theorem se_slice (m : Bool) {lo hi : Option Expr} {ml mh : DO} (ho : SE T X o mo) (hl : SO T X lo ml) (hh : SO T X hi mh) : SE T X (.Subscript o (.Slice lo hi none p2) pos) (dSl m mo ml mh) := by
  refine ⟨fun W tk => PE.imp (pe_slice ((sl_tupA.or sl_list).or sl_str) (ho.run W tk) (hl.run W tk) (hh.run W tk)) fun σ H Q h => ?_⟩
  obtain ⟨F, env, μ, Q0, E0, hE, hS, hm, hQ, hX⟩ := h
  refine ⟨F, env, μ, _, E0, hE, hS, hm, fun x μ1 q F1 H1 v l hS1 rv => ?_, hX⟩
  refine ⟨F1, env, μ1, _, E0, hE.mono l, hS1, q, fun a μ2 q2 F2 H2 a' l2 hS2 ea => ?_, hX.mono l⟩
  refine ⟨F2, env, μ2, _, E0, hE.mono (l.trans l2), hS2, q2, fun b μ3 q3 F3 H3 b' l3 hS3 eb => ?_, hX.mono (l.trans l2)⟩
  have ea' : a' = a := ea
  have eb' : b' = b := eb
  subst ea'; subst eb'
  have ll := l.trans (l2.trans l3)
  have rv3 := rv.mono (l2.trans l3)
  cases x with
  | tup xs =>
    cases rv3 with
    | tup h1 r1 =>
      rename_i c vs
      refine .inl (.inl ⟨c, vs, rfl, hS3.sqT h1, fun hw => ?_, fun _ p n => ?_⟩)
      · have e : cutD xs a' b' = xs := by
          unfold cutD
          rw [← r1.length, hw.1, hw.2, List.drop_zero, Nat.sub_zero, r1.length, List.take_length]
        have q3 : Q0 (.tup (cutD xs a' b')) μ3 := q3
        rw [e] at q3
        exact hQ _ μ3 q3 F3 H3 _ ll hS3 (.tup h1 r1)
      · have e := Le.new (o := .tup (cutV vs a' b')) (hS3.fresh n)
        exact hQ _ μ3 q3 _ _ _ (ll.trans e) (hS3.new n) (.tup (SqT.of upd_same) (r1.cut.mono e))
  | str z =>
    cases rv3
    exact .inr ⟨z, rfl, Nat.le_trans q3.1 (by decide), hQ _ μ3 q3.2 F3 H3 _ ll hS3 (.str _)⟩
  | lst xs =>
    cases rv3 with
    | lst h1 r1 => exact .inl (.inr ⟨_, _, rfl, hS3.sqL h1, fun p n => newL_ok hS3 r1.cut q3 hQ ll n⟩)
  | cell c =>
    obtain ⟨xs, e, q3⟩ := onL_of q3
    obtain ⟨c', vs, e', h1, r1⟩ := getL_ok hS3 rv3 e
    exact .inl (.inr ⟨_, _, e', h1, fun p n => newL_ok hS3 r1.cut q3 hQ ll n⟩)
  | _ => exact q3.elim
end
end DL

/-! DL8: built-in functions, isinstance, dict displays. -/
namespace DL
open PySem PySem.Spec PyProof.Rows L2

/-! ### built-in functions -/
theorem CallR.imp {X : Cx} {f : Value} {r r' : List V → Hp → VK → Prop} (h : CallR X f r) (k : ∀ xs H Q, r' xs H Q → r xs H Q) : CallR X f r' := fun pins s σ H xs us Q I rs q => h pins s σ H xs us Q I rs (k _ _ _ q)
def bAbs : DR := fun ds μ Q => match ds with
  | [.int i] => Q (.int (if i < 0 then -i else i)) μ
  | _ => False
def bMax : DR := fun ds μ Q => match ds with
  | [.int i, .int j] => Q (.int (if j > i then j else i)) μ
  | _ => False
def bMin : DR := fun ds μ Q => match ds with
  | [.int i, .int j] => Q (.int (if j < i then j else i)) μ
  | _ => False
/-- what has a length -/
def lenD (μ : Sto) (d : D) : Option Nat := match d with
  | .tup xs => some xs.length
  | .lst xs => some xs.length
  | .dK kvs => some kvs.length
  | .str s => if s.length ≤ 1000000 then some s.length else none
  | .cell a => (match μ a with
    | some (.lst xs) => some xs.length
    | some (.dK kvs) => some kvs.length
    | _ => none)
  | _ => none
def bLen : DR := fun ds μ Q => match ds with
  | [d] => onN (lenD μ d) fun n => Q (.int n) μ
  | _ => False
where
  onN (o : Option Nat) (P : Nat → Prop) : Prop := match o with
    | some j => P j
    | none => False
def onS2 {α : Type} (o : Option α) (P : α → Prop) : Prop := match o with
  | some x => P x
  | none => False
theorem onS2_of {α : Type} {o : Option α} {P : α → Prop} (h : onS2 o P) : ∃ d, o = some d ∧ P d := by
  cases o with
  | none => exact h.elim
  | some d => exact ⟨d, rfl, h⟩
def bList (m : Bool) : DR := fun ds μ Q => match ds with
  | [d] => onS2 (getS μ d) fun xs => newL m xs μ Q
  | _ => False
def bTuple : DR := fun ds μ Q => match ds with
  | [d] => onS2 (getS μ d) fun xs => Q (.tup xs) μ
  | _ => False
def bInt : DR := fun ds μ Q => match ds with
  | [.int i] => Q (.int i) μ
  | [.bl b] => Q (.int (if b then 1 else 0)) μ
  | _ => False
section
variable {T : Tab} {X : Cx}
theorem int2_of {ds : List D} {P : Int → Int → Prop} (h : match ds with
  | [.int i, .int j] => P i j
  | _ => False) : ∃ i j, ds = [.int i, .int j] ∧ P i j := range2_of h
theorem int1_of {ds : List D} {P : Int → Prop} (h : match ds with
  | [.int i] => P i
  | _ => False) : ∃ i, ds = [.int i] ∧ P i := range1_of h
theorem cb_abs : CallD T X (.builtin "abs") bAbs := CallR.imp call_abs fun xs H Q h => by
  obtain ⟨G, F, μ, ds, Q0, hS, rs, q, hQ⟩ := h
  obtain ⟨i, e, q⟩ := int1_of (P := fun i => Q0 (.int (if i < 0 then -i else i)) μ) q
  subst e
  cases rs with
  | cons r rr => cases r; cases rr; exact ⟨i, rfl, hQ _ μ q F H _ (Le.refl F) hS (.int _)⟩
theorem cb_max (hc : X.calm = true) : CallD T X (.builtin "max") bMax := CallR.imp (call_max2 hc) fun xs H Q h => by
  obtain ⟨G, F, μ, ds, Q0, hS, rs, q, hQ⟩ := h
  obtain ⟨i, j, e, q⟩ := int2_of (P := fun i j => Q0 (.int (if j > i then j else i)) μ) q
  subst e
  cases rs with
  | cons r rr => cases rr with
    | cons r2 rr => cases r; cases r2; cases rr; exact ⟨i, j, rfl, hQ _ μ q F H _ (Le.refl F) hS (.int _)⟩
theorem cb_min (hc : X.calm = true) : CallD T X (.builtin "min") bMin := CallR.imp (call_min2 hc) fun xs H Q h => by
  obtain ⟨G, F, μ, ds, Q0, hS, rs, q, hQ⟩ := h
  obtain ⟨i, j, e, q⟩ := int2_of (P := fun i j => Q0 (.int (if j < i then j else i)) μ) q
  subst e
  cases rs with
  | cons r rr => cases rr with
    | cons r2 rr => cases r; cases r2; cases rr; exact ⟨i, j, rfl, hQ _ μ q F H _ (Le.refl F) hS (.int _)⟩
theorem cb_len : CallD T X (.builtin "len") bLen := CallR.imp (call_len.or call_lenD) fun xs H Q h => by
  obtain ⟨G, F, μ, ds, Q0, hS, rs, q', hQ⟩ := h
  obtain ⟨d, e, q⟩ := one_of (P := fun d => bLen.onN (lenD μ d) fun n => Q0 (.int n) μ) q'
  clear q'
  subst e
  cases rs with
  | cons r rr =>
    cases rr
    have ok : ∀ {n : Nat} {v : V}, lenD μ d = some n → LenV X.K v H n → (∃ x m, [v] = [x] ∧ LenV X.K x H m ∧ Q (.int m) H) := fun {n v} e l => by
      rw [e] at q
      exact ⟨v, n, rfl, l, hQ _ μ q F H _ (Le.refl F) hS (.int _)⟩
    have okD : ∀ {n : Nat} {a : Addr} {kvs : List (Key × V)}, lenD μ d = some n → H a = some (.dK kvs) → kvs.length = n → (∃ a' kvs', [V.ref a] = [V.ref a'] ∧ H a' = some (.dK kvs') ∧ Q (.int kvs'.length) H) := fun {n a kvs} e h l => by
      rw [e] at q
      exact ⟨a, kvs, rfl, h, by rw [l]; exact hQ _ μ q F H _ (Le.refl F) hS (.int _)⟩
    cases d with
    | tup ys => cases r with
      | tup h1 r1 => exact .inl (ok rfl (.inr ⟨_, hS.sqT h1, r1.length.symm⟩))
    | lst ys => cases r with
      | lst h1 r1 => exact .inl (ok rfl (.inl ⟨_, hS.sqL h1, r1.length.symm⟩))
    | dK ys => cases r with
      | dK h1 r1 => exact .inr (okD rfl (hS.sub _ _ h1) r1.length)
    | str z =>
      cases r
      by_cases hz : z.length ≤ 1000000
      · exact .inl (ok (n := z.length) (by simp only [lenD]; rw [if_pos hz]) ⟨Nat.le_trans hz (by decide), rfl⟩)
      · simp only [lenD] at q; rw [if_neg hz] at q; exact q.elim
    | cell a =>
      cases r
      cases ec : μ a with
      | none => simp only [lenD, ec] at q; exact q.elim
      | some c =>
        cases c with
        | lst ys => obtain ⟨vs, h1, r1⟩ := hS.cellL ec; exact .inl (ok (n := ys.length) (by simp only [lenD, ec]) (.inl ⟨vs, SqL.of h1, r1.length.symm⟩))
        | dK ys => obtain ⟨vs, h1, r1⟩ := hS.cellK ec; exact .inr (okD (n := ys.length) (by simp only [lenD, ec]) h1 r1.length)
        | _ => simp only [lenD, ec] at q; exact q.elim
    | _ => exact q.elim
theorem cb_list (m : Bool) : CallD T X (.type "list") (bList m) := CallR.imp call_list_of fun xs H Q h => by
  obtain ⟨G, F, μ, ds, Q0, hS, rs, q, hQ⟩ := h
  obtain ⟨d, e, q⟩ := one_of (P := fun d => onS2 (getS μ d) fun xs => newL m xs μ Q0) q
  subst e
  cases rs with
  | cons r rr =>
    cases rr
    obtain ⟨ys, e, q⟩ := onS2_of q
    obtain ⟨a, vs, rfl, h1, r1⟩ := getS_ok hS r e
    exact ⟨a, vs, rfl, h1.symm, fun p n => newL_ok hS r1 q hQ (Le.refl F) n⟩
theorem cb_tuple : CallD T X (.type "tuple") bTuple := CallR.imp call_tuple_of fun xs H Q h => by
  obtain ⟨G, F, μ, ds, Q0, hS, rs, q, hQ⟩ := h
  obtain ⟨d, e, q⟩ := one_of (P := fun d => onS2 (getS μ d) fun xs => Q0 (.tup xs) μ) q
  subst e
  cases rs with
  | cons r rr =>
    cases rr
    obtain ⟨ys, e, q⟩ := onS2_of q
    have ht : ∀ {zs : List D}, d = .tup zs → ys = zs := fun z => by subst z; cases e; rfl
    obtain ⟨a, vs, rfl, h1, r1⟩ := getS_ok hS r e
    rcases h1 with h1 | h1
    · by_cases hd : ∃ zs, d = .tup zs
      · obtain ⟨zs, hd⟩ := hd
        have := ht hd
        subst this; subst hd
        exact ⟨a, vs, rfl, .inr ⟨h1, hQ _ μ q F H _ (Le.refl F) hS r⟩⟩
      · have : ∃ ws, SqL X.K H a ws ∧ Reps T X.K F ws ys := by
          cases d with
          | tup zs => exact absurd ⟨zs, rfl⟩ hd
          | lst zs => obtain ⟨a', ws, e', h', r'⟩ := getL_ok hS r e; cases e'; exact ⟨ws, h', r'⟩
          | cell b => obtain ⟨a', ws, e', h', r'⟩ := getL_ok hS r e; cases e'; exact ⟨ws, h', r'⟩
          | _ => cases e
        obtain ⟨ws, h2, r2⟩ := this
        refine ⟨a, ws, rfl, .inl ⟨h2, fun p n => ?_⟩⟩
        have e := Le.new (o := .tup ws) (hS.fresh n)
        exact hQ _ μ q _ _ _ e (hS.new n) (.tup (SqT.of upd_same) (r2.mono e))
    · refine ⟨a, vs, rfl, .inl ⟨h1, fun p n => ?_⟩⟩
      have e := Le.new (o := .tup vs) (hS.fresh n)
      exact hQ _ μ q _ _ _ e (hS.new n) (.tup (SqT.of upd_same) (r1.mono e))
theorem cb_int : CallD T X (.type "int") bInt := CallR.imp call_int1 fun xs H Q h => by
  obtain ⟨G, F, μ, ds, Q0, hS, rs, q, hQ⟩ := h
  cases rs with
  | nil => exact q.elim
  | cons r rr =>
    cases rr with
    | cons r2 rr => unfold bInt at q; split at q <;> first | exact q.elim | (rename_i z; cases z)
    | nil =>
      cases r with
      | int i => exact .inl ⟨i, rfl, hQ _ μ q F H _ (Le.refl F) hS (.int _)⟩
      | bl b => exact .inr ⟨b, rfl, hQ _ μ q F H _ (Le.refl F) hS (.int _)⟩
      | _ => exact q.elim

/-! ### list(range(..)) -/
abbrev DRg := Env' → Sto → (Int × Int → Sto → Prop) → DX → Prop
structure SRg (T : Tab) (X : Cx) (e : Expr) (m : DRg) : Prop where
  run : ∀ W, TK X W → ∃ t, PRg X e t ∧ ∀ σ H (Q : Int → Int → Hp → Prop), tG T X.K (fun _ b c => b = c) W m σ H (fun p H => Q p.1 p.2 H) → t σ H Q
def dRg1 (ma : DM) : DRg := fun env μ Q E => ma env μ (fun d μ1 => match d with
  | .int n => Q (0, n) μ1
  | _ => False) E
def dRg2 (ma mb : DM) : DRg := fun env μ Q E => ma env μ (fun d μ1 => mb env μ1 (fun e μ2 => match d, e with
  | .int i, .int j => Q (i, j) μ2
  | _, _ => False) E) E
variable {a b e : Expr} {ma mb : DM} {p pos : Pos}
theorem sr_1 (hg : Gl X "range") (hm : X.mg "range" = none) (ha : SE T X a ma) (na : starEach [a] X.env = (false, eval a X.env) :: starEach [] X.env := by rfl) : SRg T X (.Call (.Name "range" p) [a] [] pos) (dRg1 ma) := by
  refine ⟨fun W tk => ⟨_, prg_1 hg hm (ha.run W tk) na, fun σ H Q h => ?_⟩⟩
  obtain ⟨F, env, μ, Q0, E0, hE, hS, hm, hQ, hX⟩ := h
  refine ⟨F, env, μ, _, E0, hE, hS, hm, fun d μ1 q F1 H1 v l hS1 rv => ?_, hX⟩
  cases d with
  | int n => cases rv; exact ⟨n, rfl, hQ (0, n) μ1 q F1 H1 _ l hS1 rfl⟩
  | _ => exact q.elim
theorem sr_2 (hg : Gl X "range") (hm : X.mg "range" = none) (ha : SE T X a ma) (hb : SE T X b mb) (na : starEach [a, b] X.env = (false, eval a X.env) :: starEach [b] X.env := by rfl)
    (nb : starEach [b] X.env = (false, eval b X.env) :: starEach [] X.env := by rfl) (hp : (backTo pos (starEach [b] X.env)).any (·.1) = false := by rfl) : SRg T X (.Call (.Name "range" p) [a, b] [] pos) (dRg2 ma mb) := by
  refine ⟨fun W tk => ⟨_, prg_2 hg hm (ha.run W tk) (hb.run W tk) na nb hp, fun σ H Q h => ?_⟩⟩
  obtain ⟨F, env, μ, Q0, E0, hE, hS, hm, hQ, hX⟩ := h
  refine ⟨F, env, μ, _, E0, hE, hS, hm, fun d μ1 q F1 H1 v l hS1 rv => ?_, hX⟩
  refine ⟨F1, env, μ1, _, E0, hE.mono l, hS1, q, fun d2 μ2 q2 F2 H2 v2 l2 hS2 rv2 => ?_, hX.mono l⟩
  cases d with
  | int i =>
    cases d2 with
    | int j => cases rv; cases rv2; exact ⟨i, j, rfl, rfl, hQ (i, j) μ2 q2 F2 H2 _ (l.trans l2) hS2 rfl⟩
    | _ => exact q2.elim
  | _ => cases d2 <;> exact q2.elim
def dLstRg (m : Bool) (mr : DRg) : DM := fun env μ Q E => mr env μ (fun p μ1 => RgOk p.1 p.2 ∧ newL m (rangeD p.1 (p.2 - p.1).toNat) μ1 Q) E
theorem reps_range {K : PySem.W.Frag} {F : Hp} (a b : Int) : Reps T K F (rgV a b) (rangeD a (b - a).toNat) := by
  unfold rgV rangeD
  generalize List.range (b - a).toNat = l
  induction l with
  | nil => exact .nil
  | cons i r ih => exact .cons (.int _) ih
theorem se_listRg (m : Bool) {mr : DRg} (hc : X.calm = true) (hg : Gl X "list") (hm : X.mg "list" = none) (he : SRg T X e mr) (na : starEach [e] X.env = (false, eval e X.env) :: starEach [] X.env := by rfl) : SE T X (.Call (.Name "list" p) [e] [] pos) (dLstRg m mr) := by
  refine ⟨fun W tk => ?_⟩
  obtain ⟨t, ht, k⟩ := he.run W tk
  refine PE.imp (pe_listRg hc hg hm ht na) fun σ H Q h => k _ _ _ ?_
  obtain ⟨F, env, μ, Q0, E0, hE, hS, hm, hQ, hX⟩ := h
  refine ⟨F, env, μ, _, E0, hE, hS, hm, fun p μ1 q F1 H1 v l hS1 rv => ?_, hX⟩
  have e : v = p := rv
  subst e
  exact ⟨q.1, fun p n => newL_ok hS1 (reps_range _ _) q.2 hQ l n⟩

/-! ### isinstance -/
/-- a value's class: a built-in one by its name, an own one by its number -/
inductive Ty where
  | b (n : String) | o (c : Nat)
def tyD (μ : Sto) : D → Option Ty
  | .non => some (.b "NoneType")
  | .bl _ => some (.b "bool")
  | .int _ => some (.b "int")
  | .str _ => some (.b "str")
  | .tup _ => some (.b "tuple")
  | .lst _ => some (.b "list")
  | .dK _ => some (.b "dict")
  | .ins c _ => some (.o c)
  | .cell a => match μ a with
    | some (.lst _) => some (.b "list")
    | some (.dK _) => some (.b "dict")
    | some (.ins c _) => some (.o c)
    | _ => none
  | _ => none
def Ty.val (T : Tab) : Ty → Value
  | .b n => .type n
  | .o c => .ref (T.cls c)
/-- what isinstance asks of the classes -/
structure TabI (T : Tab) (K : PySem.W.Frag) : Prop where
  at_ : ∀ c, PySem.W.findIn K (.ref (T.cls c)) "__class__" = some (some (.builtin "object.__class__"))
  hn : PySem.W.specialIn K (.builtin "object.__class__") "__get__" = some (some (.builtin "getset_descriptor.__get__"))
  htk : PySem.W.takesIn K (.builtin "object.__class__") = some true
  hm : ∀ c, PySem.W.mroIn K (T.cls c) (.type "object") = some true
theorem Le.tyX {K : PySem.W.Frag} {H : Hp} {a : Addr} {vs : List V} (h : SqT K H a vs) : TyX K H (.ref a) (.type "tuple") := by
  rcases h with (h | ⟨o, h⟩) | ⟨o, _, _, h, hc, _⟩
  · exact .base (.tup h)
  · exact .fTuple h
  · exact .kTuple h hc
theorem Le.tyL {K : PySem.W.Frag} {H : Hp} {a : Addr} {vs : List V} (h : SqL K H a vs) : TyX K H (.ref a) (.type "list") := by
  rcases h with (h | ⟨o, h⟩) | ⟨o, _, _, h, hc, _⟩
  · exact .base (.lst h)
  · exact .base (.frz h)
  · exact .kList h hc
theorem tyD_ok {K : PySem.W.Frag} {nF : Nat} {G F H : Hp} {μ : Sto} {v : V} {d : D} {t : Ty} (ok : TabOk T K nF) (ti : TabI T K) (hS : StR T K G F H μ) (r : Rep T K F v d) (h : tyD μ d = some t) : TyX K H v (t.val T) := by
  have ins : ∀ {a dx : Addr} {c : Nat} {vs : List (Str × V)}, H a = some (.ins (T.cls c) dx vs) → TyX K H (.ref a) (.ref (T.cls c)) := fun e => .base (.ins e (ok.cls _) (ti.at_ _) ti.hn ti.htk (ti.hm _))
  cases r with
  | non => cases h; exact .base .non
  | bl b => cases h; exact .base (.bl b)
  | int i => cases h; exact .base (.int i)
  | str s => cases h; exact .base (.str s)
  | tup h1 _ => cases h; exact Le.tyX (hS.sqT h1)
  | lst h1 _ => cases h; exact Le.tyL (hS.sqL h1)
  | dK h1 _ => cases h; exact .base (.dK (hS.sub _ _ h1))
  | ins h1 _ => cases h; exact ins (hS.sub _ _ h1)
  | cell a =>
    cases ec : μ a with
    | none => simp only [tyD, ec] at h; cases h
    | some c =>
      cases c with
      | lst ys => simp only [tyD, ec] at h; cases h; obtain ⟨vs, h1, _⟩ := hS.cellL ec; exact .base (.lst h1)
      | dK ys => simp only [tyD, ec] at h; cases h; obtain ⟨vs, h1, _⟩ := hS.cellK ec; exact .base (.dK h1)
      | ins c ys => simp only [tyD, ec] at h; cases h; obtain ⟨dx, vs, h1, _⟩ := hS.cellI ec; exact ins h1
      | dT ys => simp only [tyD, ec] at h; cases h
  | _ => cases h
def dIsi (q : Ty → Option Bool) (ma : DM) : DM := fun env μ Q E => ma env μ (fun x μ1 => onS2 ((tyD μ1 x).bind q) fun b => Q (.bl b) μ1) E
theorem tE_isi {nF : Nat} {W : WG} {q : Ty → Option Bool} {c : V} {u : Value} {σ : L2.St} {H : Hp} {Q : VK} (ok : TabOk T X.K nF) (ti : TabI T X.K) (hc : ClsV c u) (hq : ∀ t b, q t = some b → PySem.W.kitOne X.K (t.val T) u = some b)
    (h : tE T X.K W (dIsi q ma) σ H Q) : tCB (rIsi X.K) (tCons (tE T X.K W ma) (tCons (tC c) tNil)) σ H Q := by
  obtain ⟨F, env, μ, Q0, E0, hE, hS, hm, hQ, hX⟩ := h
  refine ⟨F, env, μ, _, E0, hE, hS, hm, fun x μ1 z F1 H1 v l hS1 rv => ?_, hX⟩
  obtain ⟨b, e, z⟩ := onS2_of z
  cases et : tyD μ1 x with
  | none => rw [et] at e; cases e
  | some t =>
    rw [et] at e
    exact ⟨v, c, _, u, b, rfl, hc, tyD_ok ok ti hS1 rv et, hq t b e, hQ _ μ1 z F1 H1 _ l hS1 (.bl b)⟩
/-- isinstance(e, C), C a class of the text -/
theorem se_isiO {nF : Nat} {q : Ty → Option Bool} {C : Addr} {x : Str} {p2 : Pos} (ok : TabOk T X.K nF) (ti : TabI T X.K) (hg : Gl X "isinstance") (hm : X.mg "isinstance" = none) (ha : SE T X e ma) (hgx : Gl X x) (hmx : X.mg x = some (.ref C))
    (hq : ∀ t b, q t = some b → PySem.W.kitOne X.K (t.val T) (.ref C) = some b) (hdx : (x == ("__debug__" : Str)) = false := by decide)
    (hs : starEach [e, .Name x p2] X.env = (false, eval e X.env) :: starEach [.Name x p2] X.env := by rfl) (hs2 : starEach [.Name x p2] X.env = (false, eval (.Name x p2) X.env) :: starEach [] X.env := by rfl)
    (hpl : (backTo pos (starEach [.Name x p2] X.env)).any (·.1) = false := by rfl) : SE T X (.Call (.Name "isinstance" p) [e, .Name x p2] [] pos) (dIsi q ma) :=
  ⟨fun W tk => PE.imp (pe_callB call_isi hg hm rfl (pa_cons (ha.run W tk) (pa_cons (pe_glob (v := .ref C) hgx hmx rfl hdx) pa_nil hs2) hs) (by decide) (by decide) hs hpl) fun _ _ _ h => tE_isi ok ti (.own C) hq h⟩
/-- isinstance(e, T), T a built-in class -/
theorem se_isiB {nF : Nat} {q : Ty → Option Bool} {n : String} {x : Str} {p2 : Pos} (ok : TabOk T X.K nF) (ti : TabI T X.K) (hg : Gl X "isinstance") (hm : X.mg "isinstance" = none) (ha : SE T X e ma) (hgx : Gl X x) (hmx : X.mg x = none)
    (hq : ∀ t b, q t = some b → PySem.W.kitOne X.K (t.val T) (.type n) = some b) (hv : bootBuiltins x = some (.type n) := by rfl) (hnx : x ≠ "__name__" := by decide) (hdx : (x == ("__debug__" : Str)) = false := by decide)
    (hs : starEach [e, .Name x p2] X.env = (false, eval e X.env) :: starEach [.Name x p2] X.env := by rfl) (hs2 : starEach [.Name x p2] X.env = (false, eval (.Name x p2) X.env) :: starEach [] X.env := by rfl)
    (hpl : (backTo pos (starEach [.Name x p2] X.env)).any (·.1) = false := by rfl) : SE T X (.Call (.Name "isinstance" p) [e, .Name x p2] [] pos) (dIsi q ma) :=
  ⟨fun W tk => PE.imp (pe_callB call_isi hg hm rfl (pa_cons (ha.run W tk) (pa_cons (pe_bltn (v := .ty n) hgx hmx hv rfl hnx hdx) pa_nil hs2) hs) (by decide) (by decide) hs hpl) fun _ _ _ h => tE_isi ok ti (.ty n) hq h⟩

/-! ### {k: v, ..} -/
def newK (m : Bool) (kvs : List (Key × D)) (μ : Sto) (Q : DQ) : Prop := match m with
  | false => Q (.dK kvs) μ
  | true => ∀ a, μ a = none → Q (.cell a) (upm μ a (.dK kvs))
def mergeD (kvs : List (Key × D)) : List (Key × D) → List (Key × D)
  | [] => kvs
  | (k, d) :: r => mergeD (putD kvs k d) r
def dPairs : List (DM × DM) → Env' → Sto → (List (Key × D) → Sto → Prop) → DX → Prop
  | [], _, μ, Q, _ => Q [] μ
  | (mk, mv) :: r, env, μ, Q, E => mk env μ (fun x μ1 => mv env μ1 (fun y μ2 => onS2 (keyD x) fun k => dPairs r env μ2 (fun ps μ3 => Q ((k, y) :: ps) μ3) E) E) E
def dDisp (m : Bool) (ms : List (DM × DM)) : DM := fun env μ Q E => dPairs ms env μ (fun ps μ1 => newK m (mergeD [] ps) μ1 Q) E
/-- the reading, whatever is kept aside -/
def tEW (T : Tab) (K : PySem.W.Frag) (W : WX) (m : DM) : TE := fun σ H Q => ∃ G, tE T K ⟨W, G⟩ m σ H Q
structure SPs (T : Tab) (X : Cx) (pos : Pos) (keys : List (Option Expr)) (values : List Expr) (ms : List (DM × DM)) : Prop where
  run : ∀ W, TK X W → PPs X pos keys values (ms.map fun m => (tEW T X.K W.W m.1, tEW T X.K W.W m.2))
theorem sps_nil : SPs T X pos [] [] [] := ⟨fun _ _ => pps_nil⟩
theorem sps_cons {k v : Expr} {ks : List (Option Expr)} {vs : List Expr} {mk mv : DM} {ms : List (DM × DM)} (hk : SE T X k mk) (hv : SE T X v mv) (hr : SPs T X pos ks vs ms) : SPs T X pos (some k :: ks) (v :: vs) ((mk, mv) :: ms) :=
  ⟨fun W tk => pps_cons (PE.ex fun G => hk.run ⟨W.W, G⟩ ⟨tk.tk, tk.po⟩) (PE.ex fun G => hv.run ⟨W.W, G⟩ ⟨tk.tk, tk.po⟩) (hr.run W tk)⟩
theorem mergeK_ok {K : PySem.W.Frag} {F : Hp} : ∀ {ps : List (Key × V)} {ds : List (Key × D)} {vs : List (Key × V)} {es : List (Key × D)}, RepK T K F ps ds → RepK T K F vs es → RepK T K F (mergeK vs ps) (mergeD es ds)
  | _, _, _, _, .nil, r => r
  | _, _, vs, es, .cons (k := k) (v := v) (d := d) (vs := ps) (ds := ds) h r, r0 => by
    show RepK T K F (mergeK (putK vs k v) ps) (mergeD (putD es k d) ds)
    exact mergeK_ok r (r0.put h)
theorem tPairs_ok {K : PySem.W.Frag} {W : WG} {env : Env'} {σ : L2.St} {E0 : DX} : ∀ {ms : List (DM × DM)} {F H : Hp} {μ : Sto} {Q0 : List (Key × D) → Sto → Prop} {Q : List (V × V) → Hp → Prop}, EnvR T K F σ env → StR T K W.G F H μ → dPairs ms env μ Q0 E0 →
    (∀ ps μ1, Q0 ps μ1 → ∀ F1 H1 vs, Le F F1 → StR T K W.G F1 H1 μ1 → RepK T K F1 vs ps → ps.length = ms.length → Q (vs.map fun kv => (kV kv.1, kv.2)) H1) → KonX T K W F σ E0 → tPairs (ms.map fun m => (tEW T K W.W m.1, tEW T K W.W m.2)) σ H Q
  | [], F, H, μ, Q0, Q, hE, hS, hm, hQ, hX => hQ [] μ hm F H [] (Le.refl F) hS .nil rfl
  | (mk, mv) :: r, F, H, μ, Q0, Q, hE, hS, hm, hQ, hX => by
    refine ⟨W.G, F, env, μ, _, E0, hE, hS, hm, fun x μ1 q F1 H1 v l hS1 rv => ?_, hX⟩
    refine ⟨W.G, F1, env, μ1, _, E0, hE.mono l, hS1, q, fun y μ2 q2 F2 H2 w l2 hS2 rw' => ?_, hX.mono l⟩
    obtain ⟨k, ek, q3⟩ := onS2_of q2
    have ev := keyD_ok (rv.mono l2) ek
    subst ev
    refine tPairs_ok (ms := r) (hE.mono (l.trans l2)) hS2 q3 (fun ps μ3 q4 F3 H3 vs l3 hS3 rk hlen => ?_) (hX.mono (l.trans l2))
    exact hQ _ μ3 q4 F3 H3 ((k, w) :: vs) (l.trans (l2.trans l3)) hS3 (.cons (rw'.mono l3) rk) (congrArg Nat.succ hlen)
theorem newK_ok {K : PySem.W.Frag} {m : Bool} {G F F0 H : Hp} {μ : Sto} {Q0 : DQ} {Q : VK} {vs : List (Key × V)} {kvs : List (Key × D)} {p : Addr} {o : HO} (h : StR T K (upd G p o) F H μ) (nG : G p = none) (r : RepK T K F vs kvs) (k : newK m kvs μ Q0) (hQ : Kon T K G F0 (Rep T K) Q0 Q) (l : Le F0 F) :
    Q (.ref p) (upd H p (.dK vs)) := by
  have hb := (h.setAside (o' := .dK vs)).back nG
  obtain ⟨hp, nF, nM⟩ := h.fr p o upd_same
  cases m with
  | false =>
    have e := Le.new (o := .dK vs) nF
    refine hQ _ _ k (upd F p (.dK vs)) _ _ (l.trans e) ⟨fun a u z => ?_, fun a c z => ?_, fun a u z => ?_⟩ (.dK upd_same (r.mono e))
    · by_cases ha : a = p
      · subst ha; rw [upd_same] at z; cases z; exact upd_same
      · rw [upd_ne ha] at z; exact hb.sub _ _ z
    · obtain ⟨h1, u, h2, h3⟩ := hb.cell a c z
      have ha : a ≠ p := fun y => by subst y; rw [nM] at z; cases z
      exact ⟨by rw [upd_ne ha]; exact h1, u, h2, h3.mono e⟩
    · have ha : a ≠ p := ne_of_none z nG
      exact ⟨(hb.fr a u z).1, by rw [upd_ne ha]; exact (hb.fr a u z).2.1, (hb.fr a u z).2.2⟩
  | true =>
    refine hQ _ _ (k p nM) F _ _ l ⟨hb.sub, fun a c z => ?_, fun a u z => ?_⟩ (.cell p)
    · by_cases ha : a = p
      · subst ha; rw [upm_same] at z; cases z; exact ⟨nF, _, upd_same, r⟩
      · rw [upm_ne ha] at z; exact hb.cell a c z
    · have ha : a ≠ p := ne_of_none z nG
      rw [upm_ne ha]; exact hb.fr a u z
theorem KonX.aside {K : PySem.W.Frag} {W : WG} {F : Hp} {σ : L2.St} {E0 : DX} {p : Addr} {o : HO} (h : KonX T K W F σ E0) (n : W.G p = none) : KonX T K ⟨W.W, upd W.G p o⟩ F σ E0 := fun x μ q F' H' cls dd l s r => h x μ q F' H' cls dd l (s.back n) r
theorem StR.noG {K : PySem.W.Frag} {G F H : Hp} {μ : Sto} {p : Addr} (h : StR T K G F H μ) (n : H p = none) : G p = none := by
  cases q : G p with
  | none => rfl
  | some o => rw [(h.fr p o q).1] at n; cases n
/-- a display of at most 15 pairs -/
theorem se_disp (m : Bool) {keys : List (Option Expr)} {values : List Expr} {ms : List (DM × DM)} (h : SPs T X pos keys values ms) (hall : keys.all (·.isSome) = true := by rfl) (hl : keys.length = values.length := by rfl) (h0 : keys ≠ [] := by (intro z; cases z))
    (h15 : keys.length ≤ 15 := by decide) (hms : ms.length ≤ 15 := by decide) : SE T X (.Dict keys values pos) (dDisp m ms) := by
  refine ⟨fun W tk => PE.imp (pe_disp (h.run W tk) hall hl h0 h15) fun σ H Q h' => ?_⟩
  obtain ⟨F, env, μ, Q0, E0, hE, hS, hm, hQ, hX⟩ := h'
  intro p hp
  have nG := hS.noG hp
  have hS1 := (hS.skip (o := .dK []) hp).aside upd_same (hS.fresh hp) (hS.noCell hp)
  refine tPairs_ok (W := ⟨W.W, upd W.G p (.dK [])⟩) hE hS1 hm (fun ps μ1 q F1 H1 vs l hS1 rk hlen => ?_) (hX.aside nG)
  refine ⟨(hS1.fr p _ upd_same).1, vs, rfl, by rw [rk.length, hlen]; exact hms, ?_⟩
  exact newK_ok hS1 nG (mergeK_ok rk .nil) q hQ l
end
end DL

/-! DL9: == and != with own __eq__, both answers: the raw part. -/
namespace DLQ
open PySem PySem.SeqAt
open AutoSeq1 (wpAny_loadPart')
open MeetsSeq MeetsSeq2 MeetsSeq3 SeqRoads2
open GQ (FinOf call_here)

section
variable {prog : Program} {w : World} {A : Around} {R : Result → Shared → Prop}
/-- all of the first n -/
def allB (n : Nat) (e : Nat → Bool) : Bool := (List.range n).all e
theorem allB_true {n : Nat} {e : Nat → Bool} (h : ∀ j, j < n → e j = true) : allB n e = true := by
  unfold allB
  rw [List.all_eq_true]
  intro x hx
  exact h x (List.mem_range.mp hx)
theorem allB_false {n i : Nat} {e : Nat → Bool} (hi : i < n) (h : e i = false) : allB n e = false := by
  unfold allB
  rw [List.all_eq_false]
  exact ⟨i, List.mem_range.mpr hi, by rw [h]; exact Bool.false_ne_true⟩
abbrev TurnB (prog : Program) (w : World) (A : Around) (E : Value → Shared → Prop) (items items2 : Array Value) (e : Nat → Bool) (I : Shared → Prop) : Prop :=
  ∀ i (h1 : i < items.size) (h2 : i < items2.size) s, (∀ j, j < i → e j = true) → I s → wpAny (model prog w) A.in1 (eqBool items[i] items2[i]) (fun r s' => r = e i ∧ I s') E s
theorem tuple_eqB (l b : Addr) (items items2 : Array Value) (n n2 : Nat) (dd dd2 : Option Addr) (sl sl2 : Array (Option Value)) (e : Nat → Bool) (I : Shared → Prop)
    (turn : TurnB prog w A (fun e s' => R (.error e) s') items items2 e I)
    (fin : ∀ s, I s → R (.ok (.ret (.bool (allB (min items.size items2.size) e && items.size == items2.size)))) s) {s : Shared} (hl1 : s.heap.get? l = some { cls := .type "tuple", dict := dd, data := .seq items n, slots := sl }) (hb1 : s.heap.get? b = some { cls := .type "tuple", dict := dd2, data := .seq items2 n2, slots := sl2 }) (h : I s) :
    wpAny (model prog w) A.in1 (Builtin.«tuple.__eq__» ⟨[.ref l, .ref b], []⟩) (FinOf prog w A R) (fun e s' => R (.error e) s') s := by
  have f2 := AutoSeq1.sub_tuple_tuple
  have hZ : (items.toList.zip items2.toList).length = min items.size items2.size := by simp
  have h0 := h
  obtain ⟨hp, g, d, tk, os⟩ := s
  wp_walk using wpAny_loadPart' hl1, wpAny_loadPart' hb1, wpAny_forIn_list _ (fun rest b s' => b.1 = none ∧ ∃ i, rest = (items.toList.zip items2.toList).drop i ∧ (∀ j, j < i → e j = true) ∧ I s') _
  case turn =>
    rintro ⟨y, x⟩ rest b s' ⟨hb', i, hz, hi, hI⟩
    have hlt : i < (items.toList.zip items2.toList).length := by
      rcases Nat.lt_or_ge i (items.toList.zip items2.toList).length with h' | h'
      · exact h'
      · rw [List.drop_of_length_le h'] at hz; cases hz
    have hm : i < min items.size items2.size := hZ ▸ hlt
    have h1 : i < items.size := Nat.lt_of_lt_of_le hm (Nat.min_le_left _ _)
    have h2 : i < items2.size := Nat.lt_of_lt_of_le hm (Nat.min_le_right _ _)
    rw [List.drop_eq_getElem_cons hlt] at hz
    injection hz with hyx hrest
    have hy : y = items[i] := by have := congrArg Prod.fst hyx; simpa using this
    have hx : x = items2[i] := by have := congrArg Prod.snd hyx; simpa using this
    subst hy hx
    refine wpAny_bind (wpAny_mono (turn i h1 h2 s' hi hI) (fun r s2 q2 => ?_) fun _ _ x => x)
    obtain ⟨hr, q2⟩ := q2
    subst hr
    cases he : e i with
    | true =>
      wp_walk
      exact ⟨rfl, i + 1, hrest, fun j hj => by rcases Nat.lt_succ_iff_lt_or_eq.mp hj with q | q; exact hi j q; rw [q]; exact he, q2⟩
    | false =>
      have hR := fin _ q2
      rw [allB_false hm he] at hR
      wp_walk
      simpa using hR
  case fin =>
    rintro ⟨b1, b2⟩ s' ⟨hb', i, hz, hi, hI⟩
    simp only at hb'
    subst hb'
    have hge : min items.size items2.size ≤ i := by
      rcases Nat.lt_or_ge i (items.toList.zip items2.toList).length with h' | h'
      · rw [List.drop_eq_getElem_cons h'] at hz; cases hz
      · exact hZ ▸ h'
    have hR := fin _ hI
    rw [allB_true fun j hj => hi j (Nat.lt_of_lt_of_le hj hge)] at hR
    wp_walk
    simpa [Builtin.Tuple.tupleCompareSizes] using hR
  case h =>
    exact ⟨rfl, 0, rfl, fun j hj => absurd hj (Nat.not_lt_zero j), h0⟩
theorem tuple_neB (l b : Addr) (items items2 : Array Value) (n n2 : Nat) (dd dd2 : Option Addr) (sl sl2 : Array (Option Value)) (e : Nat → Bool) (I : Shared → Prop)
    (turn : TurnB prog w A (fun e s' => R (.error e) s') items items2 e I)
    (fin : ∀ s, I s → R (.ok (.ret (.bool (!(allB (min items.size items2.size) e && items.size == items2.size))))) s) {s : Shared} (hl1 : s.heap.get? l = some { cls := .type "tuple", dict := dd, data := .seq items n, slots := sl }) (hb1 : s.heap.get? b = some { cls := .type "tuple", dict := dd2, data := .seq items2 n2, slots := sl2 }) (h : I s) :
    wpAny (model prog w) A.in1 (Builtin.«tuple.__ne__» ⟨[.ref l, .ref b], []⟩) (FinOf prog w A R) (fun e s' => R (.error e) s') s := by
  have f2 := AutoSeq1.sub_tuple_tuple
  have hZ : (items.toList.zip items2.toList).length = min items.size items2.size := by simp
  have h0 := h
  obtain ⟨hp, g, d, tk, os⟩ := s
  wp_walk using wpAny_loadPart' hl1, wpAny_loadPart' hb1, wpAny_forIn_list _ (fun rest b s' => b.1 = none ∧ ∃ i, rest = (items.toList.zip items2.toList).drop i ∧ (∀ j, j < i → e j = true) ∧ I s') _
  case turn =>
    rintro ⟨y, x⟩ rest b s' ⟨hb', i, hz, hi, hI⟩
    have hlt : i < (items.toList.zip items2.toList).length := by
      rcases Nat.lt_or_ge i (items.toList.zip items2.toList).length with h' | h'
      · exact h'
      · rw [List.drop_of_length_le h'] at hz; cases hz
    have hm : i < min items.size items2.size := hZ ▸ hlt
    have h1 : i < items.size := Nat.lt_of_lt_of_le hm (Nat.min_le_left _ _)
    have h2 : i < items2.size := Nat.lt_of_lt_of_le hm (Nat.min_le_right _ _)
    rw [List.drop_eq_getElem_cons hlt] at hz
    injection hz with hyx hrest
    have hy : y = items[i] := by have := congrArg Prod.fst hyx; simpa using this
    have hx : x = items2[i] := by have := congrArg Prod.snd hyx; simpa using this
    subst hy hx
    refine wpAny_bind (wpAny_mono (turn i h1 h2 s' hi hI) (fun r s2 q2 => ?_) fun _ _ x => x)
    obtain ⟨hr, q2⟩ := q2
    subst hr
    cases he : e i with
    | true =>
      wp_walk
      exact ⟨rfl, i + 1, hrest, fun j hj => by rcases Nat.lt_succ_iff_lt_or_eq.mp hj with q | q; exact hi j q; rw [q]; exact he, q2⟩
    | false =>
      have hR := fin _ q2
      rw [allB_false hm he] at hR
      wp_walk
      simpa using hR
  case fin =>
    rintro ⟨b1, b2⟩ s' ⟨hb', i, hz, hi, hI⟩
    simp only at hb'
    subst hb'
    have hge : min items.size items2.size ≤ i := by
      rcases Nat.lt_or_ge i (items.toList.zip items2.toList).length with h' | h'
      · rw [List.drop_eq_getElem_cons h'] at hz; cases hz
      · exact hZ ▸ h'
    have hR := fin _ hI
    rw [allB_true fun j hj => hi j (Nat.lt_of_lt_of_le hj hge)] at hR
    wp_walk
    simpa [Builtin.Tuple.tupleCompareSizes, bne] using hR
  case h =>
    exact ⟨rfl, 0, rfl, fun j hj => absurd hj (Nat.not_lt_zero j), h0⟩

/-- at each turn the two lists are read anew -/
def ListB (prog : Program) (w : World) (A : Around) (E : Value → Shared → Prop) (l b : Addr) (N : Nat) (e : Nat → Bool) (I : Shared → Prop) : Prop :=
  ∀ s, I s → ∃ (items items2 : Array Value) (n n2 : Nat) (dd dd2 : Option Addr) (sl sl2 : Array (Option Value)), s.heap.get? l = some { cls := .type "list", dict := dd, data := .seq items n, slots := sl } ∧ s.heap.get? b = some { cls := .type "list", dict := dd2, data := .seq items2 n2, slots := sl2 } ∧ items.size = N ∧ items2.size = N ∧
    ∀ i (h1 : i < items.size) (h2 : i < items2.size), (∀ j, j < i → e j = true) → wpAny (model prog w) A.in1 (eqBool items[i] items2[i]) (fun r s' => r = e i ∧ I s') E s
theorem eq_loopB (c : Nat) (ne : Bool) (hc : c = if ne then 3 else 2) (l b : Addr) (N : Nat) (e : Nat → Bool) (I : Shared → Prop) (hl : ListB prog w A (fun e s' => R (.error e) s') l b N e I)
    (fin : ∀ s, I s → R (.ok (.ret (.bool (ne != allB N e)))) s) (k : Nat) :
    ∀ i : Nat, N - i = k → i ≤ N → (∀ j, j < i → e j = true) → ∀ s, I s →
      wpAny (model prog w) A.in1 (Builtin.«list.__eq__.loop» ⟨[.ref l, .ref b, rawInt i, rawInt c], []⟩) (FinOf prog w A R) (fun e s' => R (.error e) s') s := by
  induction k with
  | zero =>
    intro i hk hi hj s h
    obtain ⟨items, items2, n, n2, dd, dd2, sl, sl2, hl1, hb1, hs1, hs2, _⟩ := hl _ h
    have hi' : i = N := by omega
    have hR := fin s h
    rw [allB_true fun j q => hj j (hi' ▸ q)] at hR
    obtain ⟨hp, g, d, tk, os⟩ := s
    subst hc
    have hi1 : items[((i : Nat) : Int).toNat]? = none := by simp; omega
    have hi2 : items2[((i : Nat) : Int).toNat]? = none := by simp; omega
    cases ne with
    | false =>
      wp_walk using wpAny_loadPart' hl1, wpAny_loadPart' hb1
      rw [hi1, hi2]
      wp_walk using wpAny_loadPart' hl1, wpAny_loadPart' hb1
      show R (.ok (.ret (.bool (items.size == items2.size)))) _
      rw [hs1, hs2]
      simpa using hR
    | true =>
      wp_walk using wpAny_loadPart' hl1, wpAny_loadPart' hb1
      rw [hi1, hi2]
      wp_walk using wpAny_loadPart' hl1, wpAny_loadPart' hb1
      show R (.ok (.ret (.bool (items.size != items2.size)))) _
      rw [hs1, hs2]
      simpa using hR
  | succ k ih =>
    intro i hk hi hj s h
    obtain ⟨items, items2, n, n2, dd, dd2, sl, sl2, hl1, hb1, hs1, hs2, turn⟩ := hl _ h
    have hlt : i < items.size := by omega
    have hlt2 : i < items2.size := by omega
    have ht := turn i hlt hlt2 hj
    have ih2 := ih (i + 1) (by omega) (by omega)
    have hi1 : items[((i : Nat) : Int).toNat]? = some items[i] := by simp [hlt]
    have hi2 : items2[((i : Nat) : Int).toNat]? = some items2[i] := by simp [hlt2]
    have hcc : ((i : Int) + 1) = ((i + 1 : Nat) : Int) := by omega
    have hiN : i < N := by omega
    obtain ⟨hp, g, d, tk, os⟩ := s
    subst hc
    have step : ∀ (r : Bool) (s2 : Shared), r = e i → I s2 → e i = true → wpAny (model prog w) A.in1 (Builtin.«list.__eq__.loop» ⟨[.ref l, .ref b, rawInt (i + 1 : Nat), rawInt (if ne then 3 else 2 : Nat)], []⟩) (FinOf prog w A R) (fun e s' => R (.error e) s') s2 :=
      fun r s2 _ h2 he => ih2 (fun j q => by rcases Nat.lt_succ_iff_lt_or_eq.mp q with q | q; exact hj j q; rw [q]; exact he) s2 h2
    cases ne with
    | false =>
      wp_walk using wpAny_loadPart' hl1, wpAny_loadPart' hb1
      rw [hi1, hi2]
      refine wpAny_bind (wpAny_mono ht (fun r s2 q2 => ?_) fun _ _ x => x)
      obtain ⟨hr, h2⟩ := q2
      subst hr
      cases he : e i with
      | true =>
        have hrec := step true s2 he.symm h2 he
        obtain ⟨hp2, g2, d2, tk2, os2⟩ := s2
        wp_walk
        rw [hcc]
        exact ⟨plainId_quiet plain_eq_loop _, codeAny_builtin entry_eq_loop (by
          rw [Around.under_plainId plain_eq_loop _]
          exact hrec)⟩
      | false =>
        have hR := fin s2 h2
        rw [allB_false hiN he] at hR
        obtain ⟨xs, ys, m, m2, dd3, dd4, sl3, sl4, hx1, hy1, hz1, hz2, _⟩ := hl _ h2
        have hi3 : xs[((i : Nat) : Int).toNat]? = some (xs[i]'(by omega)) := by simp [hz1, hiN]
        have hi4 : ys[((i : Nat) : Int).toNat]? = some (ys[i]'(by omega)) := by simp [hz2, hiN]
        obtain ⟨hp2, g2, d2, tk2, os2⟩ := s2
        wp_walk using wpAny_loadPart' hx1, wpAny_loadPart' hy1
        rw [hi3, hi4]
        wp_walk
        simpa using hR
    | true =>
      wp_walk using wpAny_loadPart' hl1, wpAny_loadPart' hb1
      rw [hi1, hi2]
      refine wpAny_bind (wpAny_mono ht (fun r s2 q2 => ?_) fun _ _ x => x)
      obtain ⟨hr, h2⟩ := q2
      subst hr
      cases he : e i with
      | true =>
        have hrec := step true s2 he.symm h2 he
        obtain ⟨hp2, g2, d2, tk2, os2⟩ := s2
        wp_walk
        rw [hcc]
        exact ⟨plainId_quiet plain_eq_loop _, codeAny_builtin entry_eq_loop (by
          rw [Around.under_plainId plain_eq_loop _]
          exact hrec)⟩
      | false =>
        have hR := fin s2 h2
        rw [allB_false hiN he] at hR
        obtain ⟨xs, ys, m, m2, dd3, dd4, sl3, sl4, hx1, hy1, hz1, hz2, _⟩ := hl _ h2
        have hi3 : xs[((i : Nat) : Int).toNat]? = some (xs[i]'(by omega)) := by simp [hz1, hiN]
        have hi4 : ys[((i : Nat) : Int).toNat]? = some (ys[i]'(by omega)) := by simp [hz2, hiN]
        obtain ⟨hp2, g2, d2, tk2, os2⟩ := s2
        wp_walk using wpAny_loadPart' hx1, wpAny_loadPart' hy1
        rw [hi3, hi4]
        wp_walk
        simpa using hR
theorem list_eqB (l b : Addr) (N : Nat) (e : Nat → Bool) (I : Shared → Prop) (hl : ListB prog w A (fun e s' => R (.error e) s') l b N e I)
    (fin : ∀ s, I s → R (.ok (.ret (.bool (allB N e)))) s) {s : Shared} (h : I s) :
    wpAny (model prog w) A.in1 (Builtin.«list.__eq__» ⟨[.ref l, .ref b], []⟩) (FinOf prog w A R) (fun e s' => R (.error e) s') s := by
  obtain ⟨items, items2, n, n2, dd, dd2, sl, sl2, hl1, hb1, hs1, hs2, _⟩ := hl _ h
  have hrec := eq_loopB (A := A) (R := R) 2 false rfl l b N e I hl (by intro s q; have := fin s q; simpa using this) _ 0 rfl (Nat.zero_le _) (fun j q => absurd q (Nat.not_lt_zero j)) s h
  obtain ⟨hp, g, d, tk, os⟩ := s
  have f3 := AutoSeq1.sub_list_list
  have hne : ¬ (items.size != items2.size) = true := by simp [hs1, hs2]
  wp_walk using wpAny_loadPart' hl1, wpAny_loadPart' hb1
  exact ⟨plainId_quiet plain_eq_loop _, codeAny_builtin entry_eq_loop (by
    rw [Around.under_plainId plain_eq_loop _]
    exact hrec)⟩
theorem list_neB (l b : Addr) (N : Nat) (e : Nat → Bool) (I : Shared → Prop) (hl : ListB prog w A (fun e s' => R (.error e) s') l b N e I)
    (fin : ∀ s, I s → R (.ok (.ret (.bool (!allB N e)))) s) {s : Shared} (h : I s) :
    wpAny (model prog w) A.in1 (Builtin.«list.__ne__» ⟨[.ref l, .ref b], []⟩) (FinOf prog w A R) (fun e s' => R (.error e) s') s := by
  obtain ⟨items, items2, n, n2, dd, dd2, sl, sl2, hl1, hb1, hs1, hs2, _⟩ := hl _ h
  have hrec := eq_loopB (A := A) (R := R) 3 true rfl l b N e I hl (by intro s q; have := fin s q; simpa using this) _ 0 rfl (Nat.zero_le _) (fun j q => absurd q (Nat.not_lt_zero j)) s h
  obtain ⟨hp, g, d, tk, os⟩ := s
  have f3 := AutoSeq1.sub_list_list
  have hne : ¬ (items.size != items2.size) = true := by simp [hs1, hs2]
  wp_walk using wpAny_loadPart' hl1, wpAny_loadPart' hb1
  exact ⟨plainId_quiet plain_eq_loop _, codeAny_builtin entry_eq_loop (by
    rw [Around.under_plainId plain_eq_loop _]
    exact hrec)⟩
end

section
variable {prog : Program} {w : World} {A : Around} {E : Value → Shared → Prop} {s : Shared}
theorem rc_listB {l b : Addr} {N : Nat} {e : Nat → Bool} {Q : Value → Shared → Prop} (hu : A.units < cLine) (I : Shared → Prop) (hl : ListB prog w A E l b N e I)
    (fin : ∀ s, I s → Q (.bool (allB N e)) s) (h : I s) : wpAny (model prog w) A (richCompare .Eq (.ref l) (.ref b)) Q E s := by
  obtain ⟨items, items2, n, n2, dd, dd2, sl, sl2, hl1, hb1, _, _, _⟩ := hl _ h
  refine wpAny_richCompare_same_room (op := .Eq) ⟨_, hl1, rfl⟩ ⟨_, hb1, rfl⟩ F.slot_list_eq (call_here F.slot_list_eq ⟨_, hl1, rfl⟩ F.entry_list_eq (F.args_list_eq_2 _ _) ?_) hu
  exact list_eqB (R := wants (fun v s' => v ≠ .notImplemented ∧ Q v s') E) l b N e I hl (fun s' q => ⟨(fun x => nomatch x), fin s' q⟩) h
theorem rn_listB {l b : Addr} {N : Nat} {e : Nat → Bool} {Q : Value → Shared → Prop} (hu : A.units < cLine) (I : Shared → Prop) (hl : ListB prog w A E l b N e I)
    (fin : ∀ s, I s → Q (.bool (!allB N e)) s) (h : I s) : wpAny (model prog w) A (richCompare .NotEq (.ref l) (.ref b)) Q E s := by
  obtain ⟨items, items2, n, n2, dd, dd2, sl, sl2, hl1, hb1, _, _, _⟩ := hl _ h
  refine wpAny_richCompare_same_room (op := .NotEq) ⟨_, hl1, rfl⟩ ⟨_, hb1, rfl⟩ F.slot_list_ne (call_here F.slot_list_ne ⟨_, hl1, rfl⟩ F.entry_list_ne (F.args_list_ne_2 _ _) ?_) hu
  exact list_neB (R := wants (fun v s' => v ≠ .notImplemented ∧ Q v s') E) l b N e I hl (fun s' q => ⟨(fun x => nomatch x), fin s' q⟩) h
theorem rc_tupB {l b : Addr} {items items2 : Array Value} {e : Nat → Bool} {Q : Value → Shared → Prop} (hu : A.units < cLine) (I : Shared → Prop)
    (hl : s.heap.IsTuple l items) (hb : s.heap.IsTuple b items2) (turn : TurnB prog w A E items items2 e I)
    (fin : ∀ s, I s → Q (.bool (allB (min items.size items2.size) e && items.size == items2.size)) s) (h : I s) : wpAny (model prog w) A (richCompare .Eq (.ref l) (.ref b)) Q E s := by
  obtain ⟨⟨cls, dd, data, sl⟩, ho, hc, n, hd⟩ := id hl
  obtain ⟨⟨cls2, dd2, data2, sl2⟩, ho2, hc2, n2, hd2⟩ := id hb
  simp only at hc hd hc2 hd2
  subst hc hd hc2 hd2
  refine wpAny_richCompare_same_room (op := .Eq) ⟨_, ho, rfl⟩ ⟨_, ho2, rfl⟩ F.slot_tuple_eq (call_here F.slot_tuple_eq ⟨_, ho, rfl⟩ F.entry_tuple_eq (F.args_tuple_eq_2 _ _) ?_) hu
  exact tuple_eqB (R := wants (fun v s' => v ≠ .notImplemented ∧ Q v s') E) l b items items2 n n2 dd dd2 sl sl2 e I turn (fun s' q => ⟨(fun x => nomatch x), fin s' q⟩) ho ho2 h
theorem rn_tupB {l b : Addr} {items items2 : Array Value} {e : Nat → Bool} {Q : Value → Shared → Prop} (hu : A.units < cLine) (I : Shared → Prop)
    (hl : s.heap.IsTuple l items) (hb : s.heap.IsTuple b items2) (turn : TurnB prog w A E items items2 e I)
    (fin : ∀ s, I s → Q (.bool (!(allB (min items.size items2.size) e && items.size == items2.size))) s) (h : I s) : wpAny (model prog w) A (richCompare .NotEq (.ref l) (.ref b)) Q E s := by
  obtain ⟨⟨cls, dd, data, sl⟩, ho, hc, n, hd⟩ := id hl
  obtain ⟨⟨cls2, dd2, data2, sl2⟩, ho2, hc2, n2, hd2⟩ := id hb
  simp only at hc hd hc2 hd2
  subst hc hd hc2 hd2
  refine wpAny_richCompare_same_room (op := .NotEq) ⟨_, ho, rfl⟩ ⟨_, ho2, rfl⟩ F.slot_tuple_ne (call_here F.slot_tuple_ne ⟨_, ho, rfl⟩ F.entry_tuple_ne (F.args_tuple_ne_2 _ _) ?_) hu
  exact tuple_neB (R := wants (fun v s' => v ≠ .notImplemented ∧ Q v s') E) l b items items2 n n2 dd dd2 sl sl2 e I turn (fun s' q => ⟨(fun x => nomatch x), fin s' q⟩) ho ho2 h
end
end DLQ

/-! DL10: in with own __eq__; comparisons with an own instance on one side: the raw part. -/
namespace DLQ
open PySem PySem.SeqAt
open AutoSeq1 (wpAny_loadPart')
open MeetsSeq MeetsSeq2 MeetsSeq3 SeqRoads2
open GQ (FinOf call_here)

section
variable {prog : Program} {w : World} {A : Around} {R : Result → Shared → Prop}
/-- one of the first n -/
def anyB (n : Nat) (e : Nat → Bool) : Bool := (List.range n).any e
theorem anyB_false {n : Nat} {e : Nat → Bool} (h : ∀ j, j < n → e j = false) : anyB n e = false := by
  unfold anyB
  rw [List.any_eq_false]
  intro x hx
  rw [h x (List.mem_range.mp hx)]
  exact Bool.false_ne_true
theorem anyB_true {n i : Nat} {e : Nat → Bool} (hi : i < n) (h : e i = true) : anyB n e = true := by
  unfold anyB
  rw [List.any_eq_true]
  exact ⟨i, List.mem_range.mpr hi, h⟩
abbrev TurnC (prog : Program) (w : World) (A : Around) (E : Value → Shared → Prop) (items : Array Value) (x : Value) (e : Nat → Bool) (I : Shared → Prop) : Prop :=
  ∀ i (h1 : i < items.size) s, (∀ j, j < i → e j = false) → I s → wpAny (model prog w) A.in1 (eqBool items[i] x) (fun r s' => r = e i ∧ I s') E s
def ListC (prog : Program) (w : World) (A : Around) (E : Value → Shared → Prop) (l : Addr) (x : Value) (N : Nat) (e : Nat → Bool) (I : Shared → Prop) : Prop :=
  ∀ s, I s → ∃ (items : Array Value) (n : Nat) (dd : Option Addr) (sl : Array (Option Value)), s.heap.get? l = some { cls := .type "list", dict := dd, data := .seq items n, slots := sl } ∧ items.size = N ∧
    ∀ i (h1 : i < items.size), (∀ j, j < i → e j = false) → wpAny (model prog w) A.in1 (eqBool items[i] x) (fun r s' => r = e i ∧ I s') E s
theorem in_loopB (l : Addr) (x : Value) (N : Nat) (e : Nat → Bool) (I : Shared → Prop) (hl : ListC prog w A (fun e s' => R (.error e) s') l x N e I)
    (fin : ∀ s, I s → R (.ok (.ret (.bool (anyB N e)))) s) (k : Nat) :
    ∀ i : Nat, N - i = k → i ≤ N → (∀ j, j < i → e j = false) → ∀ s, I s →
      wpAny (model prog w) A.in1 (Builtin.«list.__contains__.loop» ⟨[.ref l, x, rawInt i], []⟩) (FinOf prog w A R) (fun e s' => R (.error e) s') s := by
  induction k with
  | zero =>
    intro i hk hi hj s h
    obtain ⟨items, n, dd, sl, hl1, hs1, _⟩ := hl _ h
    have hi' : i = N := by omega
    have hR := fin s h
    rw [anyB_false fun j q => hj j (hi' ▸ q)] at hR
    obtain ⟨hp, g, d, tk, os⟩ := s
    have hi1 : items[((i : Nat) : Int).toNat]? = none := by simp; omega
    wp_walk using wpAny_loadPart' hl1
    rw [hi1]
    wp_walk
    exact hR
  | succ k ih =>
    intro i hk hi hj s h
    obtain ⟨items, n, dd, sl, hl1, hs1, turn⟩ := hl _ h
    have hlt : i < items.size := by omega
    have ht := turn i hlt hj
    have ih2 := ih (i + 1) (by omega) (by omega)
    have hi1 : items[((i : Nat) : Int).toNat]? = some items[i] := by simp [hlt]
    have hcc : ((i : Int) + 1) = ((i + 1 : Nat) : Int) := by omega
    have hiN : i < N := by omega
    obtain ⟨hp, g, d, tk, os⟩ := s
    wp_walk using wpAny_loadPart' hl1
    rw [hi1]
    refine wpAny_bind (wpAny_mono ht (fun r s2 q2 => ?_) fun _ _ x => x)
    obtain ⟨hr, h2⟩ := q2
    subst hr
    cases he : e i with
    | true =>
      have hR := fin s2 h2
      rw [anyB_true hiN he] at hR
      obtain ⟨hp2, g2, d2, tk2, os2⟩ := s2
      wp_walk
      exact hR
    | false =>
      have hrec := ih2 (fun j q => by rcases Nat.lt_succ_iff_lt_or_eq.mp q with q | q; exact hj j q; rw [q]; exact he) s2 h2
      obtain ⟨hp2, g2, d2, tk2, os2⟩ := s2
      wp_walk
      rw [hcc]
      exact ⟨plainId_quiet plain_contains_loop _, codeAny_builtin entry_contains_loop (by
        rw [Around.under_plainId plain_contains_loop _]
        exact hrec)⟩
theorem list_inB (l : Addr) (x : Value) (N : Nat) (e : Nat → Bool) (I : Shared → Prop) (hl : ListC prog w A (fun e s' => R (.error e) s') l x N e I)
    (fin : ∀ s, I s → R (.ok (.ret (.bool (anyB N e)))) s) {s : Shared} (h : I s) :
    wpAny (model prog w) A.in1 (Builtin.«list.__contains__» ⟨[.ref l, x], []⟩) (FinOf prog w A R) (fun e s' => R (.error e) s') s := by
  obtain ⟨items, n, dd, sl, hl1, hs1, _⟩ := hl _ h
  have hrec := in_loopB (A := A) (R := R) l x N e I hl fin _ 0 rfl (Nat.zero_le _) (fun j q => absurd q (Nat.not_lt_zero j)) s h
  obtain ⟨hp, g, d, tk, os⟩ := s
  wp_walk using wpAny_loadPart' hl1
  exact ⟨plainId_quiet plain_contains_loop _, codeAny_builtin entry_contains_loop (by
    rw [Around.under_plainId plain_contains_loop _]
    exact hrec)⟩
theorem tuple_inB (l : Addr) (items : Array Value) (n : Nat) (dd : Option Addr) (sl : Array (Option Value)) (x : Value) (e : Nat → Bool) (I : Shared → Prop)
    (turn : TurnC prog w A (fun e s' => R (.error e) s') items x e I)
    (fin : ∀ s, I s → R (.ok (.ret (.bool (anyB items.size e)))) s) {s : Shared} (hl1 : s.heap.get? l = some { cls := .type "tuple", dict := dd, data := .seq items n, slots := sl }) (h : I s) :
    wpAny (model prog w) A.in1 (Builtin.«tuple.__contains__» ⟨[.ref l, x], []⟩) (FinOf prog w A R) (fun e s' => R (.error e) s') s := by
  have h0 := h
  obtain ⟨hp, g, d, tk, os⟩ := s
  wp_walk using wpAny_loadPart' hl1, wpAny_forIn_array _ (fun rest b s' => b.1 = none ∧ ∃ i, rest = items.toList.drop i ∧ (∀ j, j < i → e j = false) ∧ I s') _
  case turn =>
    rintro y rest b s' ⟨hb', i, hz, hi, hI⟩
    have hlt : i < items.toList.length := by
      rcases Nat.lt_or_ge i items.toList.length with h' | h'
      · exact h'
      · rw [List.drop_of_length_le h'] at hz; cases hz
    have h1 : i < items.size := by simpa using hlt
    rw [List.drop_eq_getElem_cons hlt] at hz
    injection hz with hyx hrest
    have hy : y = items[i] := by simpa using hyx
    subst hy
    refine wpAny_bind (wpAny_mono (turn i h1 s' hi hI) (fun r s2 q2 => ?_) fun _ _ x => x)
    obtain ⟨hr, q2⟩ := q2
    subst hr
    cases he : e i with
    | true =>
      have hR := fin _ q2
      rw [anyB_true h1 he] at hR
      wp_walk
      simpa using hR
    | false =>
      wp_walk
      exact ⟨rfl, i + 1, hrest, fun j hj => by rcases Nat.lt_succ_iff_lt_or_eq.mp hj with q | q; exact hi j q; rw [q]; exact he, q2⟩
  case fin =>
    rintro ⟨b1, b2⟩ s' ⟨hb', i, hz, hi, hI⟩
    simp only at hb'
    subst hb'
    have hge : items.size ≤ i := by
      rcases Nat.lt_or_ge i items.toList.length with h' | h'
      · rw [List.drop_eq_getElem_cons h'] at hz; cases hz
      · simpa using h'
    have hR := fin _ hI
    rw [anyB_false fun j hj => hi j (Nat.lt_of_lt_of_le hj hge)] at hR
    wp_walk
    simpa using hR
  case h =>
    exact ⟨rfl, 0, by simp, fun j hj => absurd hj (Nat.not_lt_zero j), h0⟩
end

section
variable {prog : Program} {w : World} {A : Around} {E : Value → Shared → Prop} {s : Shared}
theorem contains_listB {l : Addr} {x : Value} {N : Nat} {e : Nat → Bool} {Q : Bool → Shared → Prop} (I : Shared → Prop) (hl : ListC prog w A E l x N e I)
    (fin : ∀ s, I s → Q (anyB N e) s) (h : I s) : wpAny (model prog w) A (contains (.ref l) x) Q E s := by
  obtain ⟨items, n, dd, sl, hl1, _, _⟩ := hl _ h
  refine wpAny_contains_slot (T := "list") ⟨_, hl1, rfl⟩ F.slot_list_contains (wpAny_mono (call_here (Q := fun v s' => ∃ b, v = .bool b ∧ Q b s') F.slot_list_contains ⟨_, hl1, rfl⟩ F.entry_list_contains (F.args_list_contains_2 _ _) ?_) (fun v s' hv => ?_) fun _ _ e => e)
  · exact list_inB (R := wants (fun v s' => ∃ b, v = .bool b ∧ Q b s') E) l x N e I hl (fun s' q => ⟨_, rfl, fin s' q⟩) h
  · obtain ⟨b, rfl, hq⟩ := hv
    exact wpAny_truthy_bool hq
theorem contains_tupB {l : Addr} {items : Array Value} {x : Value} {e : Nat → Bool} {Q : Bool → Shared → Prop} (I : Shared → Prop) (hl : s.heap.IsTuple l items) (turn : TurnC prog w A E items x e I)
    (fin : ∀ s, I s → Q (anyB items.size e) s) (h : I s) : wpAny (model prog w) A (contains (.ref l) x) Q E s := by
  obtain ⟨⟨cls, dd, data, sl⟩, ho, hc, n, hd⟩ := id hl
  simp only at hc hd
  subst hc hd
  refine wpAny_contains_slot (T := "tuple") ⟨_, ho, rfl⟩ F.slot_tuple_contains (wpAny_mono (call_here (Q := fun v s' => ∃ b, v = .bool b ∧ Q b s') F.slot_tuple_contains ⟨_, ho, rfl⟩ F.entry_tuple_contains (F.args_tuple_contains_2 _ _) ?_) (fun v s' hv => ?_) fun _ _ e => e)
  · exact tuple_inB (R := wants (fun v s' => ∃ b, v = .bool b ∧ Q b s') E) l items n dd sl x e I turn (fun s' q => ⟨_, rfl, fin s' q⟩) ho h
  · obtain ⟨b, rfl, hq⟩ := hv
    exact wpAny_truthy_bool hq
theorem in_of {x c : Value} {Q : Value → Shared → Prop} (h : wpAny (model prog w) A (contains c x) (fun b s' => Q (.bool b) s') E s) : wpAny (model prog w) A (compareOp .In x c) Q E s := by
  show wpAny _ A (do return .bool (← contains c x)) Q E s
  exact wpAny_bind (wpAny_mono h (fun b s' q => wpAny_pure q) fun _ _ e => e)
theorem notIn_of {x c : Value} {Q : Value → Shared → Prop} (h : wpAny (model prog w) A (contains c x) (fun b s' => Q (.bool (!b)) s') E s) : wpAny (model prog w) A (compareOp .NotIn x c) Q E s := by
  show wpAny _ A (do return .bool (!(← contains c x))) Q E s
  exact wpAny_bind (wpAny_mono h (fun b s' q => wpAny_pure q) fun _ _ e => e)
end
end DLQ

namespace DLQ
open PySem PySem.W
section
variable {prog : Program} {w : World} {A : Around} {E : Value → Shared → Prop} {s : Shared} {K : Frag} {x C f : Addr} {ox : Obj} {od : Option Obj} {b tb : Value}
/-- the own __eq__ tells a bool -/
def BoolB (Q : Bool → Shared → Prop) (v : Value) (s' : Shared) : Prop := ∃ r, v = .bool r ∧ Q r s'
theorem tc_eqK {Q : Bool → Shared → Prop} (X : K.In s.heap) (I : InstAt s.heap x ox C od) (hs : findIn K (.ref C) "__eq__" = some (some (.ref f))) (hf : isFn K (.ref f) = true)
    (h : wpAny (model prog w) A (call (.ref f) [.ref x, b]) (BoolB Q) E s) : wpAny (model prog w) A (tryCompare (.ref x) "__eq__" b) (fun r s' => ∃ k, r = some (.bool k) ∧ Q k s') E s := by
  unfold tryCompare
  refine wpAny_bind (ifBound_K X I hs hf (wpAny_mono h (fun v s' hv => ?_) fun _ _ e => e))
  obtain ⟨r, rfl, q⟩ := hv
  exact wpAny_pure ⟨r, rfl, q⟩
theorem hb_ne (self : Value) : bindSpecial (.builtin "object.__ne__") self = pure (.builtin "object.__ne__", [self]) := by
  unfold bindSpecial
  kernel_rfl
theorem call_neK {Q : Bool → Shared → Prop} (hu : A.units + 1 < cLine) (X : K.In s.heap) (I : InstAt s.heap x ox C od) (hs : findIn K (.ref C) "__eq__" = some (some (.ref f))) (hf : isFn K (.ref f) = true)
    (hm : mroIn K C (.type "object") = some true) (h : wpAny (model prog w) A.in1 (call (.ref f) [.ref x, b]) (BoolB Q) E s) :
    wpAny (model prog w) A (call (.builtin "object.__ne__") [.ref x, b]) (BoolB fun r s' => Q (!r) s') E s := by
  have hi : Looks (model prog w) s.heap (isInstance (.ref x) (.type "object")) true := I.type.andThen (looks_mroIn X hm)
  refine wpAny_call (codeAny_call_builtin PySem.F.slot_object_ne.plain PySem.F.entry_object_ne (@check_slot (model prog w) _ _ _ "object.__ne__" "object" "__ne__" (.ref x) [b] [] _ (by decide +kernel) (by decide +kernel) hi (PySem.F.args_object_ne_2 _ _) ?_))
  unfold Builtin.«object.__ne__»
  have h' : wpAny (model prog w) A.in1 (callSpecialIfBound? (.ref x) (Str.ofString "__eq__") [b]) (fun v s' => ∃ r, v = some (.bool r) ∧ Q r s') E s := ifBound_K X I hs hf (wpAny_mono h (fun v s' hv => by
    obtain ⟨r, rfl, q⟩ := hv
    exact ⟨r, rfl, q⟩) fun _ _ e => e)
  repeat (first
    | with_reducible refine wpAny_cRoomFor hu ?_
    | (refine wpAny_bind (m := callSpecialIfBound? (.ref x) (Str.ofString "__eq__") [b]) (wpAny_mono h' (fun r s' hr => by
          obtain ⟨k, rfl, hq⟩ := hr
          repeat (first | exact ⟨_, rfl, by simpa using hq⟩ | (refine wpAny_bind (m := truthy (.bool _)) (PyProof.Rows.wpAny_truthy_bool ?_)) | wp_step)) fun _ _ e => e))
    | wp_step)
end
end DLQ

/-! DL11: comparisons with an own instance on one side: rich comparison. -/
namespace DLQ
open PySem PySem.W
section
variable {prog : Program} {w : World} {A : Around} {E : Value → Shared → Prop} {s : Shared} {K : Frag} {x C f : Addr} {ox : Obj} {od : Option Obj} {b tb : Value}
theorem tc_neK {Q : Bool → Shared → Prop} (hu : A.units + 1 < cLine) (X : K.In s.heap) (I : InstAt s.heap x ox C od) (hs : findIn K (.ref C) "__eq__" = some (some (.ref f))) (hf : isFn K (.ref f) = true)
    (hn : findIn K (.ref C) "__ne__" = some (some (.builtin "object.__ne__"))) (hm : mroIn K C (.type "object") = some true) (h : wpAny (model prog w) A.in1 (call (.ref f) [.ref x, b]) (BoolB Q) E s) :
    wpAny (model prog w) A (tryCompare (.ref x) "__ne__" b) (fun r s' => ∃ k, r = some (.bool k) ∧ Q (!k) s') E s := by
  unfold tryCompare
  have sp : Looks (model prog w) s.heap (specialOf (.ref x) "__ne__") (some (.builtin "object.__ne__")) := I.type.andThen (looks_findIn X hn)
  refine wpAny_bind (NtL.csib sp (hb_ne _) (wpAny_mono (call_neK (Q := Q) hu X I hs hf hm h) (fun v s' hv => ?_) fun _ _ e => e))
  obtain ⟨r, rfl, q⟩ := hv
  exact wpAny_pure ⟨r, rfl, q⟩
/-- an own instance on the left, its method tells -/
theorem rc_left {op : CmpOp} {Q : Value → Shared → Prop} (hu : A.units < cLine) (X : K.In s.heap) (I : InstAt s.heap x ox C od) (hb : Looks (model prog w) s.heap (typeOf b) tb) (hn : notFirst K C tb = true)
    (one : wpAny (model prog w) A (tryCompare (.ref x) (cmpInfo op).2.1 b) (fun r s' => ∃ v, r = some v ∧ Q v s') E s) : wpAny (model prog w) A (richCompare op (.ref x) b) Q E s := by
  unfold richCompare
  simp only [oneThing_ref]
  refine wpAny_holding (wpAny_bind (wpAny_cRoomFor hu ?_))
  refine wpAny_bind (I.type.here (wpAny_bind (hb.here ?_)))
  split
  · rename_i q
    have e : subIn K tb (.ref C) = some false := by
      rcases Bool.or_eq_true_iff.mp hn with e | e
      · rw [beq_iff_eq.mp e] at q; simp at q
      · exact beq_iff_eq.mp e
    refine wpAny_bind ((looks_subIn X e).here ?_)
    simp only [Bool.false_eq_true, if_false]
    refine wpAny_bind (wpAny_mono one (fun r s' z => ?_) fun _ _ e => e)
    obtain ⟨v, rfl, hq⟩ := z
    exact wpAny_pure hq
  · refine wpAny_bind (wpAny_pure ?_)
    simp only [Bool.false_eq_true, if_false]
    refine wpAny_bind (wpAny_mono one (fun r s' z => ?_) fun _ _ e => e)
    obtain ⟨v, rfl, hq⟩ := z
    exact wpAny_pure hq
/-- a built-in value on the left declines, the own instance on the right tells -/
theorem rc_right {op : CmpOp} {a : Value} {Ta : String} {Q : Value → Shared → Prop} (hu : A.units < cLine) (X : K.In s.heap) (I : InstAt s.heap x ox C od) (ha : s.TypeIs a Ta) (hsub : subIn K (.ref C) (.type Ta) = some false)
    (dec : ∀ Q' : Option Value → Shared → Prop, Q' none s → wpAny (model prog w) A (tryCompare a (cmpInfo op).2.1 (.ref x)) Q' E s)
    (one : wpAny (model prog w) A (tryCompare (.ref x) (cmpInfo op).2.2 a) (fun r s' => ∃ v, r = some v ∧ Q v s') E s) : wpAny (model prog w) A (richCompare op a (.ref x)) Q E s := by
  unfold richCompare
  simp only [ha.oneThing_none]
  refine wpAny_holding (wpAny_bind (wpAny_cRoomFor hu ?_))
  refine wpAny_bind (wpAny_typeOf ha (wpAny_bind (I.type.here ?_)))
  rw [show (Value.type Ta != Value.ref C) = true from rfl]
  simp only [if_true]
  refine wpAny_bind ((looks_subIn X hsub).here ?_)
  simp only [Bool.false_eq_true, if_false]
  refine wpAny_bind (dec _ ?_)
  simp only [Bool.not_false, if_true]
  refine wpAny_bind (wpAny_mono one (fun r s' z => ?_) fun _ _ e => e)
  obtain ⟨v, rfl, hq⟩ := z
  exact wpAny_pure hq
end
open PySem.SeqAt
open AutoSeq1 (wpAny_loadPart')
open MeetsSeq MeetsSeq2 MeetsSeq3 SeqRoads2
section
variable {prog : Program} {w : World} {A : Around} {E : Value → Shared → Prop} {s : Shared} {K : Frag} {x C : Addr} {ox : Obj} {od : Option Obj}
theorem none_ne_ref (l : Addr) : Gives (Builtin.«NoneType.__ne__» ⟨[.none, .ref l], []⟩) (.val (Value.notImplemented)) :=
  .of_wp fun M A E s Q h => by obtain ⟨hp, g, d, tk, os⟩ := s; wp_walk; exact ⟨_, rfl, h⟩
theorem dec_none_eq {Q' : Option Value → Shared → Prop} (h : Q' none s) : wpAny (model prog w) A (tryCompare .none (cmpInfo .Eq).2.1 (.ref x)) Q' E s :=
  wpAny_tryCompare_declines (T := "NoneType") rfl F.slot_NoneType_eq (call_gives F.slot_NoneType_eq rfl F.entry_NoneType_eq (F.args_NoneType_eq_2 _ _) (NoneType___eq___none_ref_0 x) ⟨rfl, h⟩)
theorem dec_none_ne {Q' : Option Value → Shared → Prop} (h : Q' none s) : wpAny (model prog w) A (tryCompare .none (cmpInfo .NotEq).2.1 (.ref x)) Q' E s :=
  wpAny_tryCompare_declines (T := "NoneType") rfl F.slot_NoneType_ne (call_gives F.slot_NoneType_ne rfl F.entry_NoneType_ne (F.args_NoneType_ne_2 _ _) (none_ne_ref x) ⟨rfl, h⟩)
/-- tuples, lists decline what is no tuple, no list -/
theorem tuple_eq_dec {b : Value} {l : Addr} {R : Result → Shared → Prop} (hi : Looks (model prog w) s.heap (isInstance b (.type "tuple")) false) (h : R (.ok (.ret .notImplemented)) s) : wpAny (model prog w) A.in1 (Builtin.«tuple.__eq__» ⟨[.ref l, b], []⟩) (GQ.FinOf prog w A R) (fun e s' => R (.error e) s') s := by
  have hinst : ∀ (A' : Around) (E' : Value → Shared → Prop) (Q' : Bool → Shared → Prop), Q' false s → wpAny (model prog w) A' (isInstance b (.type "tuple")) Q' E' s := fun _ _ _ q => hi.here q
  obtain ⟨hp, g, d, tk, os⟩ := s
  wp_walk using hinst
  exact h
theorem tuple_ne_dec {b : Value} {l : Addr} {R : Result → Shared → Prop} (hi : Looks (model prog w) s.heap (isInstance b (.type "tuple")) false) (h : R (.ok (.ret .notImplemented)) s) : wpAny (model prog w) A.in1 (Builtin.«tuple.__ne__» ⟨[.ref l, b], []⟩) (GQ.FinOf prog w A R) (fun e s' => R (.error e) s') s := by
  have hinst : ∀ (A' : Around) (E' : Value → Shared → Prop) (Q' : Bool → Shared → Prop), Q' false s → wpAny (model prog w) A' (isInstance b (.type "tuple")) Q' E' s := fun _ _ _ q => hi.here q
  obtain ⟨hp, g, d, tk, os⟩ := s
  wp_walk using hinst
  exact h
theorem list_eq_dec {b : Value} {l : Addr} {R : Result → Shared → Prop} (hi : Looks (model prog w) s.heap (isInstance b (.type "list")) false) (h : R (.ok (.ret .notImplemented)) s) : wpAny (model prog w) A.in1 (Builtin.«list.__eq__» ⟨[.ref l, b], []⟩) (GQ.FinOf prog w A R) (fun e s' => R (.error e) s') s := by
  have hinst : ∀ (A' : Around) (E' : Value → Shared → Prop) (Q' : Bool → Shared → Prop), Q' false s → wpAny (model prog w) A' (isInstance b (.type "list")) Q' E' s := fun _ _ _ q => hi.here q
  obtain ⟨hp, g, d, tk, os⟩ := s
  wp_walk using hinst
  exact h
theorem list_ne_dec {b : Value} {l : Addr} {R : Result → Shared → Prop} (hi : Looks (model prog w) s.heap (isInstance b (.type "list")) false) (h : R (.ok (.ret .notImplemented)) s) : wpAny (model prog w) A.in1 (Builtin.«list.__ne__» ⟨[.ref l, b], []⟩) (GQ.FinOf prog w A R) (fun e s' => R (.error e) s') s := by
  have hinst : ∀ (A' : Around) (E' : Value → Shared → Prop) (Q' : Bool → Shared → Prop), Q' false s → wpAny (model prog w) A' (isInstance b (.type "list")) Q' E' s := fun _ _ _ q => hi.here q
  obtain ⟨hp, g, d, tk, os⟩ := s
  wp_walk using hinst
  exact h
theorem dec_tuple_eq {b : Value} {l : Addr} {Q' : Option Value → Shared → Prop} (hT : s.TypeIs (.ref l) "tuple") (hi : Looks (model prog w) s.heap (isInstance b (.type "tuple")) false) (h : Q' none s) : wpAny (model prog w) A (tryCompare (.ref l) (cmpInfo .Eq).2.1 b) Q' E s :=
  wpAny_tryCompare_declines hT F.slot_tuple_eq (GQ.call_here F.slot_tuple_eq hT F.entry_tuple_eq (F.args_tuple_eq_2 _ _) (tuple_eq_dec (R := wants (fun v s' => v = .notImplemented ∧ Q' none s') E) hi ⟨rfl, h⟩))
theorem dec_tuple_ne {b : Value} {l : Addr} {Q' : Option Value → Shared → Prop} (hT : s.TypeIs (.ref l) "tuple") (hi : Looks (model prog w) s.heap (isInstance b (.type "tuple")) false) (h : Q' none s) : wpAny (model prog w) A (tryCompare (.ref l) (cmpInfo .NotEq).2.1 b) Q' E s :=
  wpAny_tryCompare_declines hT F.slot_tuple_ne (GQ.call_here F.slot_tuple_ne hT F.entry_tuple_ne (F.args_tuple_ne_2 _ _) (tuple_ne_dec (R := wants (fun v s' => v = .notImplemented ∧ Q' none s') E) hi ⟨rfl, h⟩))
theorem dec_list_eq {b : Value} {l : Addr} {Q' : Option Value → Shared → Prop} (hT : s.TypeIs (.ref l) "list") (hi : Looks (model prog w) s.heap (isInstance b (.type "list")) false) (h : Q' none s) : wpAny (model prog w) A (tryCompare (.ref l) (cmpInfo .Eq).2.1 b) Q' E s :=
  wpAny_tryCompare_declines hT F.slot_list_eq (GQ.call_here F.slot_list_eq hT F.entry_list_eq (F.args_list_eq_2 _ _) (list_eq_dec (R := wants (fun v s' => v = .notImplemented ∧ Q' none s') E) hi ⟨rfl, h⟩))
theorem dec_list_ne {b : Value} {l : Addr} {Q' : Option Value → Shared → Prop} (hT : s.TypeIs (.ref l) "list") (hi : Looks (model prog w) s.heap (isInstance b (.type "list")) false) (h : Q' none s) : wpAny (model prog w) A (tryCompare (.ref l) (cmpInfo .NotEq).2.1 b) Q' E s :=
  wpAny_tryCompare_declines hT F.slot_list_ne (GQ.call_here F.slot_list_ne hT F.entry_list_ne (F.args_list_ne_2 _ _) (list_ne_dec (R := wants (fun v s' => v = .notImplemented ∧ Q' none s') E) hi ⟨rfl, h⟩))
end
end DLQ

/-! DL12: == and != on data: plain values (printed by gen12.py). -/
namespace DL
open PySem PySem.Spec PyProof.Rows L2
def eqFlat (d e : D) : Option Bool := match d with
  | .non => (match e with
    | .non => some true
    | .bl c => some false
    | .int j => some false
    | .str t => some false
    | .tup ys => some false
    | .lst ys => some false
    | _ => none)
  | .bl b => (match e with
    | .non => some false
    | .bl c => some (b == c)
    | .int j => some ((if b then 1 else 0) == j)
    | .str t => some false
    | .tup ys => some false
    | .lst ys => some false
    | _ => none)
  | .int i => (match e with
    | .non => some false
    | .bl c => some (i == (if c then 1 else 0))
    | .int j => some (i == j)
    | .str t => some false
    | .tup ys => some false
    | .lst ys => some false
    | _ => none)
  | .str s => (match e with
    | .non => some false
    | .bl c => some false
    | .int j => some false
    | .str t => some (s == t)
    | .tup ys => some false
    | .lst ys => some false
    | _ => none)
  | .tup xs => (match e with
    | .non => some false
    | .bl c => some false
    | .int j => some false
    | .str t => some false
    | .tup ys => none
    | .lst ys => some false
    | _ => none)
  | .lst xs => (match e with
    | .non => some false
    | .bl c => some false
    | .int j => some false
    | .str t => some false
    | .tup ys => some false
    | .lst ys => none
    | _ => none)
  | _ => none
section
variable {T : Tab} {X : Cx}
/-- the three ways in which a comparison is asked -/
structure Fl (A : Around) (s : Shared) (u v : Value) (b : Bool) : Prop where
  rc : SeqAt.RcAt A s u v b
  rn : SeqAt.RcNeAt A s u v (!b)
  eq : SeqAt.EqAt A s u v b
theorem flat_run {A : Around} {pins : List (Addr × Obj)} {s : Shared} {σ : L2.St} {F H : Hp} {v w : V} {u u' : Value} {d e : D} {b : Bool} (hu : A.units < cLine) (I : Inv X pins σ H s) (l : Le F H) (rd : Rep T X.K F v d) (re : Rep T X.K F w e) (rv : RelV v u) (rw' : RelV w u')
    (h : eqFlat d e = some b) : Fl A s u u' b := by
  have tp : ∀ {a : Addr} {vs : List V}, SqT X.K F a vs → ∃ its, s.heap.IsTuple a its := fun q => by
    obtain ⟨its, _, p, _⟩ := I.tuple (l.sqT q)
    exact ⟨_, p⟩
  have ls : ∀ {a : Addr} {vs : List V}, SqL X.K F a vs → ∃ its, s.heap.IsList a its := fun q => by
    obtain ⟨its, _, p, _⟩ := I.list (l.sqL q)
    exact ⟨_, p.isList⟩
  cases d with
  | non =>
    cases rd; cases (show u = Value.none from rv)
    cases e with
    | non =>
      cases re; cases (show u' = Value.none from rw')
      cases h
      exact ⟨SeqAt.RcAt.none_none , SeqAt.RcNeAt.none_none , SeqAt.EqAt.same _⟩
    | bl c =>
      cases re; cases (show u' = Value.bool _ from rw')
      cases h
      exact ⟨SeqAt.RcAt.none_bool _, SeqAt.RcNeAt.none_bool _, SeqAt.EqAt.none_bool _⟩
    | int j =>
      cases re; obtain ⟨t2, rfl⟩ := rw'
      cases h
      exact ⟨SeqAt.RcAt.none_int _ _, SeqAt.RcNeAt.none_int _ _, SeqAt.EqAt.none_int _ _⟩
    | str t =>
      cases re; obtain ⟨t2, rfl⟩ := rw'
      cases h
      exact ⟨SeqAt.RcAt.none_str _ _, SeqAt.RcNeAt.none_str _ _, SeqAt.EqAt.none_str _ _⟩
    | tup ys =>
      cases re with
      | tup h2 r2 =>
      cases (show u' = Value.ref _ from rw')
      obtain ⟨its2, hT2⟩ := tp h2
      cases h
      exact ⟨SeqAt.RcAt.none_tuple hT2 hu, SeqAt.RcNeAt.none_tuple hT2 hu, SeqAt.EqAt.none_tuple hT2 hu⟩
    | lst ys =>
      cases re with
      | lst h2 r2 =>
      cases (show u' = Value.ref _ from rw')
      obtain ⟨its2, hT2⟩ := ls h2
      cases h
      exact ⟨SeqAt.RcAt.none_list hT2 hu, SeqAt.RcNeAt.none_list hT2 hu, SeqAt.EqAt.none_list hT2 hu⟩
    | _ => cases h
  | bl b =>
    cases rd; cases (show u = Value.bool _ from rv)
    cases e with
    | non =>
      cases re; cases (show u' = Value.none from rw')
      cases h
      exact ⟨SeqAt.RcAt.bool_none _, SeqAt.RcNeAt.bool_none _, SeqAt.EqAt.bool_none _⟩
    | bl c =>
      cases re; cases (show u' = Value.bool _ from rw')
      cases h
      exact ⟨SeqAt.RcAt.bool_bool _ _, SeqAt.RcNeAt.bool_bool _ _, SeqAt.EqAt.bool_bool _ _⟩
    | int j =>
      cases re; obtain ⟨t2, rfl⟩ := rw'
      cases h
      exact ⟨SeqAt.RcAt.bool_int _ _ _, SeqAt.RcNeAt.bool_int _ _ _, SeqAt.EqAt.bool_int _ _ _⟩
    | str t =>
      cases re; obtain ⟨t2, rfl⟩ := rw'
      cases h
      exact ⟨SeqAt.RcAt.bool_str _ _ _, SeqAt.RcNeAt.bool_str _ _ _, SeqAt.EqAt.bool_str _ _ _⟩
    | tup ys =>
      cases re with
      | tup h2 r2 =>
      cases (show u' = Value.ref _ from rw')
      obtain ⟨its2, hT2⟩ := tp h2
      cases h
      exact ⟨SeqAt.RcAt.bool_tuple _ hT2 hu, SeqAt.RcNeAt.bool_tuple _ hT2 hu, SeqAt.EqAt.bool_tuple _ hT2 hu⟩
    | lst ys =>
      cases re with
      | lst h2 r2 =>
      cases (show u' = Value.ref _ from rw')
      obtain ⟨its2, hT2⟩ := ls h2
      cases h
      exact ⟨SeqAt.RcAt.bool_list _ hT2 hu, SeqAt.RcNeAt.bool_list _ hT2 hu, SeqAt.EqAt.bool_list _ hT2 hu⟩
    | _ => cases h
  | int i =>
    cases rd; obtain ⟨t, rfl⟩ := rv
    cases e with
    | non =>
      cases re; cases (show u' = Value.none from rw')
      cases h
      exact ⟨SeqAt.RcAt.int_none _ _, SeqAt.RcNeAt.int_none _ _, SeqAt.EqAt.int_none _ _⟩
    | bl c =>
      cases re; cases (show u' = Value.bool _ from rw')
      cases h
      exact ⟨SeqAt.RcAt.int_bool _ _ _, SeqAt.RcNeAt.int_bool _ _ _, SeqAt.EqAt.int_bool _ _ _⟩
    | int j =>
      cases re; obtain ⟨t2, rfl⟩ := rw'
      cases h
      exact ⟨SeqAt.RcAt.int_int _ _ _ _, SeqAt.RcNeAt.int_int _ _ _ _, SeqAt.EqAt.int_int _ _ _ _⟩
    | str t =>
      cases re; obtain ⟨t2, rfl⟩ := rw'
      cases h
      exact ⟨SeqAt.RcAt.int_str _ _ _ _, SeqAt.RcNeAt.int_str _ _ _ _, SeqAt.EqAt.int_str _ _ _ _⟩
    | tup ys =>
      cases re with
      | tup h2 r2 =>
      cases (show u' = Value.ref _ from rw')
      obtain ⟨its2, hT2⟩ := tp h2
      cases h
      exact ⟨SeqAt.RcAt.int_tuple _ _ hT2 hu, SeqAt.RcNeAt.int_tuple _ _ hT2 hu, SeqAt.EqAt.int_tuple _ _ hT2 hu⟩
    | lst ys =>
      cases re with
      | lst h2 r2 =>
      cases (show u' = Value.ref _ from rw')
      obtain ⟨its2, hT2⟩ := ls h2
      cases h
      exact ⟨SeqAt.RcAt.int_list _ _ hT2 hu, SeqAt.RcNeAt.int_list _ _ hT2 hu, SeqAt.EqAt.int_list _ _ hT2 hu⟩
    | _ => cases h
  | str s =>
    cases rd; obtain ⟨t, rfl⟩ := rv
    cases e with
    | non =>
      cases re; cases (show u' = Value.none from rw')
      cases h
      exact ⟨SeqAt.RcAt.str_none _ _, SeqAt.RcNeAt.str_none _ _, SeqAt.EqAt.str_none _ _⟩
    | bl c =>
      cases re; cases (show u' = Value.bool _ from rw')
      cases h
      exact ⟨SeqAt.RcAt.str_bool _ _ _, SeqAt.RcNeAt.str_bool _ _ _, SeqAt.EqAt.str_bool _ _ _⟩
    | int j =>
      cases re; obtain ⟨t2, rfl⟩ := rw'
      cases h
      exact ⟨SeqAt.RcAt.str_int _ _ _ _, SeqAt.RcNeAt.str_int _ _ _ _, SeqAt.EqAt.str_int _ _ _ _⟩
    | str t =>
      cases re; obtain ⟨t2, rfl⟩ := rw'
      cases h
      exact ⟨SeqAt.RcAt.str_str _ _ _ _, SeqAt.RcNeAt.str_str _ _ _ _, SeqAt.EqAt.str_str _ _ _ _⟩
    | tup ys =>
      cases re with
      | tup h2 r2 =>
      cases (show u' = Value.ref _ from rw')
      obtain ⟨its2, hT2⟩ := tp h2
      cases h
      exact ⟨SeqAt.RcAt.str_tuple _ _ hT2 hu, SeqAt.RcNeAt.str_tuple _ _ hT2 hu, SeqAt.EqAt.str_tuple _ _ hT2 hu⟩
    | lst ys =>
      cases re with
      | lst h2 r2 =>
      cases (show u' = Value.ref _ from rw')
      obtain ⟨its2, hT2⟩ := ls h2
      cases h
      exact ⟨SeqAt.RcAt.str_list _ _ hT2 hu, SeqAt.RcNeAt.str_list _ _ hT2 hu, SeqAt.EqAt.str_list _ _ hT2 hu⟩
    | _ => cases h
  | tup xs =>
    cases rd with
    | tup h1 r1 =>
    cases (show u = Value.ref _ from rv)
    obtain ⟨its, hT⟩ := tp h1
    cases e with
    | non =>
      cases re; cases (show u' = Value.none from rw')
      cases h
      exact ⟨SeqAt.RcAt.tuple_none hT hu, SeqAt.RcNeAt.tuple_none hT hu, SeqAt.EqAt.tuple_none hT hu⟩
    | bl c =>
      cases re; cases (show u' = Value.bool _ from rw')
      cases h
      exact ⟨SeqAt.RcAt.tuple_bool _ hT hu, SeqAt.RcNeAt.tuple_bool _ hT hu, SeqAt.EqAt.tuple_bool _ hT hu⟩
    | int j =>
      cases re; obtain ⟨t2, rfl⟩ := rw'
      cases h
      exact ⟨SeqAt.RcAt.tuple_int _ _ hT hu, SeqAt.RcNeAt.tuple_int _ _ hT hu, SeqAt.EqAt.tuple_int _ _ hT hu⟩
    | str t =>
      cases re; obtain ⟨t2, rfl⟩ := rw'
      cases h
      exact ⟨SeqAt.RcAt.tuple_str _ _ hT hu, SeqAt.RcNeAt.tuple_str _ _ hT hu, SeqAt.EqAt.tuple_str _ _ hT hu⟩
    | lst ys =>
      cases re with
      | lst h2 r2 =>
      cases (show u' = Value.ref _ from rw')
      obtain ⟨its2, hT2⟩ := ls h2
      cases h
      exact ⟨SeqAt.RcAt.tuple_list hT hT2 hu, SeqAt.RcNeAt.tuple_list hT hT2 hu, SeqAt.EqAt.tuple_list hT hT2 hu⟩
    | _ => cases h
  | lst xs =>
    cases rd with
    | lst h1 r1 =>
    cases (show u = Value.ref _ from rv)
    obtain ⟨its, hT⟩ := ls h1
    cases e with
    | non =>
      cases re; cases (show u' = Value.none from rw')
      cases h
      exact ⟨SeqAt.RcAt.list_none hT hu, SeqAt.RcNeAt.list_none hT hu, SeqAt.EqAt.list_none hT hu⟩
    | bl c =>
      cases re; cases (show u' = Value.bool _ from rw')
      cases h
      exact ⟨SeqAt.RcAt.list_bool _ hT hu, SeqAt.RcNeAt.list_bool _ hT hu, SeqAt.EqAt.list_bool _ hT hu⟩
    | int j =>
      cases re; obtain ⟨t2, rfl⟩ := rw'
      cases h
      exact ⟨SeqAt.RcAt.list_int _ _ hT hu, SeqAt.RcNeAt.list_int _ _ hT hu, SeqAt.EqAt.list_int _ _ hT hu⟩
    | str t =>
      cases re; obtain ⟨t2, rfl⟩ := rw'
      cases h
      exact ⟨SeqAt.RcAt.list_str _ _ hT hu, SeqAt.RcNeAt.list_str _ _ hT hu, SeqAt.EqAt.list_str _ _ hT hu⟩
    | tup ys =>
      cases re with
      | tup h2 r2 =>
      cases (show u' = Value.ref _ from rw')
      obtain ⟨its2, hT2⟩ := tp h2
      cases h
      exact ⟨SeqAt.RcAt.list_tuple hT hT2 hu, SeqAt.RcNeAt.list_tuple hT hT2 hu, SeqAt.EqAt.list_tuple hT hT2 hu⟩
    | _ => cases h
  | _ => cases h
end
end DL

/-! DL13: == and != on data, with own __eq__. -/
namespace DL
open PySem PySem.Spec PyProof.Rows L2
open DLQ (allB anyB)

abbrev QF := List (Nat × D) → List (Nat × D) → Option Bool
abbrev ETab := Nat → Option QF
def eqL (q : D → D → Option Bool) : List D → List D → Option Bool
  | [], [] => some true
  | [], _ :: _ => some false
  | _ :: _, [] => some false
  | x :: xs, y :: ys => match q x y with
    | some true => eqL q xs ys
    | some false => some false
    | none => none
/-- what an own __eq__ is asked about beside its own class -/
def oth : D → Bool
  | .non => true
  | .tup _ => true
  | .lst _ => true
  | _ => false
def eqD (S : ETab) : Nat → D → D → Option Bool
  | 0, _, _ => none
  | n + 1, d, e => match d with
    | .tup xs => (match e with
      | .tup ys => eqL (eqD S n) xs ys
      | .ins c _ => (S c).map fun _ => false
      | e => eqFlat (.tup xs) e)
    | .lst xs => (match e with
      | .lst ys => eqL (eqD S n) xs ys
      | .ins c _ => (S c).map fun _ => false
      | e => eqFlat (.lst xs) e)
    | .ins c fs => (match e with
      | .ins c' gs => (match Nat.beq c c' with
        | true => (S c).bind fun q => q fs gs
        | false => none)
      | e => match oth e with
        | true => (S c).map fun _ => false
        | false => none)
    | .non => (match e with
      | .ins c _ => (S c).map fun _ => false
      | e => eqFlat .non e)
    | d => eqFlat d e
theorem eqL_split {q : D → D → Option Bool} : ∀ {ds es : List D} {b : Bool}, eqL q ds es = some b → ∃ e : Nat → Bool, (∀ i x y, ds[i]? = some x → es[i]? = some y → (∀ j, j < i → e j = true) → q x y = some (e i)) ∧
    b = (allB (min ds.length es.length) e && ds.length == es.length)
  | [], [], _, h => by cases h; exact ⟨fun _ => true, fun i x y h => by simp at h, rfl⟩
  | [], _ :: _, _, h => by cases h; exact ⟨fun _ => true, fun i x y h => by simp at h, by simp⟩
  | _ :: _, [], _, h => by cases h; exact ⟨fun _ => true, fun i x y _ h => by simp at h, by simp⟩
  | x :: xs, y :: ys, b, h => by
    unfold eqL at h
    cases hq : q x y with
    | none => rw [hq] at h; cases h
    | some k =>
      rw [hq] at h
      cases k with
      | false =>
        cases h
        refine ⟨fun _ => false, fun i a c h1 h2 h3 => ?_, ?_⟩
        · cases i with
          | zero => simp at h1 h2; subst h1; subst h2; exact hq
          | succ i => exact absurd (h3 0 (Nat.zero_lt_succ i)) Bool.false_ne_true
        · rw [DLQ.allB_false (i := 0) (by simp) rfl]; rfl
      | true =>
        obtain ⟨e, h1, h2⟩ := eqL_split (show eqL q xs ys = some b from h)
        refine ⟨fun i => match i with
          | 0 => true
          | i + 1 => e i, fun i a c g1 g2 g3 => ?_, ?_⟩
        · cases i with
          | zero => simp at g1 g2; subst g1; subst g2; exact hq
          | succ i =>
            simp at g1 g2
            exact h1 i a c g1 g2 fun j hj => g3 (j + 1) (Nat.succ_lt_succ hj)
        · rw [h2]
          have e1 : min (x :: xs).length (y :: ys).length = min xs.length ys.length + 1 := by simp only [List.length_cons]; omega
          rw [e1]
          unfold DLQ.allB
          rw [List.range_succ_eq_map, List.all_cons, List.all_map]
          simp [Function.comp_def]

/-- the same object is told equal -/
def SameQ (T : Tab) (K : PySem.W.Frag) (q : QF) : Prop := ∀ fs gs b, q fs gs = some b → ∀ (X : Cx) (pins : List (Addr × Obj)) (σ : L2.St) (F H : Hp) (s : Shared), X.K = K → Inv X pins σ H s → Le F H → ∀ vs, RepF T K F vs fs → RepF T K F vs gs → b = true
/-- an own class's == : its place, its law -/
structure OwnE (T : Tab) (P : Program) (w : World) (K : PySem.W.Frag) (mg : Str → Option Value) (base : Heap) (L : Nat) (c : Nat) (q : QF) : Prop where
  ex : ∃ k f fd ps, ∃ fm : DF, k ≤ L ∧ PySem.W.findIn K (.ref (T.cls c)) "__eq__" = some (some (.ref f)) ∧ PySem.W.isFn K (.ref f) = true ∧ Binds K fd ps [] ∧ FnOk P w K mg base (L2.CX P w) k f fd ps (spD T K fm) ∧
    (∀ fs gs b, q fs gs = some b → ∀ μ, fm [.ins c fs, .ins c gs] μ (fun r _ => r = .bl b) (fun _ _ => False)) ∧ (∀ fs d, oth d = true → ∀ μ, fm [.ins c fs, d] μ (fun r _ => r = .bl false) (fun _ _ => False))
  ne : PySem.W.findIn K (.ref (T.cls c)) "__ne__" = some (some (.builtin "object.__ne__"))
  ob : PySem.W.mroIn K (T.cls c) (.type "object") = some true
  noT : PySem.W.mroIn K (T.cls c) (.type "tuple") = some false
  noL : PySem.W.mroIn K (T.cls c) (.type "list") = some false
  noN : PySem.W.mroIn K (T.cls c) (.type "NoneType") = some false
  same : SameQ T K q
theorem nf_ty {K : PySem.W.Frag} {C : Addr} : PySem.W.subIn K (.type "tuple") (.ref C) = some false ∧ PySem.W.subIn K (.type "list") (.ref C) = some false ∧ PySem.W.subIn K (.type "NoneType") (.ref C) = some false := by
  refine ⟨?_, ?_, ?_⟩ <;> kernel_rfl
/-- somewhere below the running body, with room; o: own methods may be called -/
structure Sb (o : Prop) (X : Cx) (n : Nat) (A : Around) : Prop where
  un : A.units + 16 * n + 200 < cLine
  fr : A.frames = X.A.frames
  rm : o → Room n A
theorem Sb.mono {o : Prop} {X : Cx} {n m : Nat} {A : Around} (s : Sb o X n A) (h : m ≤ n) : Sb o X m A := ⟨by have := s.un; omega, s.fr, fun z => (s.rm z).mono h⟩
theorem Sb.in1 {o : Prop} {X : Cx} {n : Nat} {A : Around} (s : Sb o X (n + 1) A) : Sb o X n A.in1 := ⟨by have := s.un; show A.units + 1 + 16 * n + 200 < _; omega, s.fr, fun z => (s.rm z).in1⟩
theorem Sb.u0 {o : Prop} {X : Cx} {n : Nat} {A : Around} (s : Sb o X n A) : A.units < cLine := by have := s.un; omega
theorem Sb.u1 {o : Prop} {X : Cx} {n : Nat} {A : Around} (s : Sb o X n A) : A.units + 1 < cLine := by have := s.un; omega
section
variable {T : Tab} {X : Cx} {S : ETab} {L : Nat} {o : Prop}
/-- the walk of an own == -/
theorem own_run {c : Nat} {q : QF} (O : OwnE T X.prog X.w X.K X.mg X.base L c q) {A : Around} {pins : List (Addr × Obj)} {s : Shared} {σ : L2.St} {F H : Hp} {a : Addr} {w : V} {u' : Value} {fs : List (Nat × D)} {e : D} {b : Bool} (ho : o) (sb : Sb o X L A) (I : Inv X pins σ H s) (l : Le F H)
    (rd : Rep T X.K F (.ref a) (.ins c fs)) (re : Rep T X.K F w e) (rw' : RelV w u') (hb : (∃ gs, e = .ins c gs ∧ q fs gs = some b) ∨ (oth e = true ∧ b = false)) :
    ∃ f, PySem.W.findIn X.K (.ref (T.cls c)) "__eq__" = some (some (.ref f)) ∧ PySem.W.isFn X.K (.ref f) = true ∧ wpAny (model X.prog X.w) A (call (.ref f) [.ref a, u']) (DLQ.BoolB fun r s' => r = b ∧ LoopI X pins σ H s') X.xe s := by
  obtain ⟨k, f, fd, ps, fm, hk, h1, h2, h3, F0, h5, h6⟩ := O.ex
  refine ⟨f, h1, h2, ?_⟩
  have law : ∀ μ, fm [.ins c fs, e] μ (fun r _ => r = .bl b) (fun _ _ => False) := fun μ => by
    rcases hb with ⟨gs, rfl, hq⟩ | ⟨ho, rfl⟩
    · exact h5 fs gs b hq μ
    · exact h6 fs e ho μ
  have hS : StR T X.K (fun a => match F a with
      | none => H a
      | some _ => none) F H (fun _ => none) := by
    refine ⟨l, fun a c e => (by cases e), fun a o e => ?_⟩
    have e : (match F a with
      | none => H a
      | some _ => none) = some o := e
    cases q : F a with
    | none => rw [q] at e; exact ⟨e, rfl, rfl⟩
    | some o' => rw [q] at e; cases e
  have hsp : spD T X.K fm [.ref a, w] H (fun v H' => v = .bl b ∧ Ext H H') (WE (fun _ _ _ _ => False) σ) := by
    refine ⟨_, F, _, [.ins c fs, e], _, _, .cons rd (.cons re .nil), hS, law _, fun d μ q F' H' v lF hS' rv => ?_, fun x μ' z => z.elim⟩
    subst q
    cases rv
    refine ⟨rfl, fun p o hp => ?_⟩
    cases q : F p with
    | some o' =>
      have z : H p = some o' := l p o' q
      rw [hp] at z
      cases z
      exact hS'.sub p _ (lF p _ q)
    | none => exact (hS'.fr p o (show (match F p with
      | none => H p
      | some _ => none) = some o by rw [q]; exact hp)).1
  have e0 : Env0 X.prog X.w X.K X.mg X.base A X.stack s H := by
    have e := I.env0
    exact ⟨by rw [sb.fr]; exact e.frames, e.mod, e.bs, e.bsz, e.funs, e.frf, e.hok, e.bare⟩
  have hl := F0.len _ _ _ _ hsp
  have r2 : Vals [V.ref a, w] [Value.ref a, u'] := .cons rfl (.cons rw' .nil)
  have hx : PassesAt (L2.CX X.prog X.w) X σ (WE (fun _ _ _ _ => False) σ) := passAt takesF σ
  refine wpAny_call (codeAny_mono (F0.run A X.stack s H ⟨[.ref a, u'], []⟩ [.ref a, u'] [.ref a, w] _ _ ((sb.rm ho).mono hk) e0 (by
    have := h3 s [.ref a, u'] I.kIn (by simpa using hl)
    simpa using this) r2 hsp) fun r s' hq => ?_)
  cases r with
  | error e => exact hx pins H s e s' I hq
  | ok fl =>
    cases fl with
    | ret z =>
      obtain ⟨z', H', I', rz, ez, ex⟩ := I.after hq
      subst ez
      cases rz
      exact ⟨b, rfl, rfl, H', I', ex⟩
    | next => exact False.elim hq
    | brk => exact False.elim hq
    | cont => exact False.elim hq
/-- how far a comparison can be asked -/
structure Cq (o : Prop) (T : Tab) (X : Cx) (L n : Nat) (d e : D) (b : Bool) : Prop where
  eq : ∀ (A : Around) (pins : List (Addr × Obj)) (s : Shared) (σ : L2.St) (F H : Hp) (v w : V) (u u' : Value), Sb o X (L + n) A → Inv X pins σ H s → Le F H → Rep T X.K F v d → Rep T X.K F w e → RelV v u → RelV w u' →
    wpAny (model X.prog X.w) A (eqBool u u') (fun r s' => r = b ∧ LoopI X pins σ H s') X.xe s
  rc : ∀ (A : Around) (pins : List (Addr × Obj)) (s : Shared) (σ : L2.St) (F H : Hp) (v w : V) (u u' : Value), Sb o X (L + n) A → Inv X pins σ H s → Le F H → Rep T X.K F v d → Rep T X.K F w e → RelV v u → RelV w u' →
    wpAny (model X.prog X.w) A (richCompare .Eq u u') (fun r s' => r = .bool b ∧ LoopI X pins σ H s') X.xe s
  rn : ∀ (A : Around) (pins : List (Addr × Obj)) (s : Shared) (σ : L2.St) (F H : Hp) (v w : V) (u u' : Value), Sb o X (L + n) A → Inv X pins σ H s → Le F H → Rep T X.K F v d → Rep T X.K F w e → RelV v u → RelV w u' →
    wpAny (model X.prog X.w) A (richCompare .NotEq u u') (fun r s' => r = .bool (!b) ∧ LoopI X pins σ H s') X.xe s
theorem cq_flat {n : Nat} {d e : D} {b : Bool} (h : eqFlat d e = some b) : Cq o T X L (n + 1) d e b :=
  ⟨fun A pins s σ F H v w u u' sb I l rd re rv rw' => (flat_run sb.u0 I l rd re rv rw' h).eq X.prog X.w X.xe _ ⟨rfl, H, I, Ext.rfl'⟩,
   fun A pins s σ F H v w u u' sb I l rd re rv rw' => (flat_run sb.u0 I l rd re rv rw' h).rc X.prog X.w X.xe _ ⟨rfl, H, I, Ext.rfl'⟩,
   fun A pins s σ F H v w u u' sb I l rd re rv rw' => (flat_run sb.u0 I l rd re rv rw' h).rn X.prog X.w X.xe _ ⟨rfl, H, I, Ext.rfl'⟩⟩
/-- the same object is told equal -/
theorem same_eqL {n : Nat} {F : Hp} (ih : ∀ {d e : D} {b : Bool} {v : V}, eqD S n d e = some b → Rep T X.K F v d → Rep T X.K F v e → b = true) : ∀ {ds es : List D} {vs : List V} {b : Bool}, eqL (eqD S n) ds es = some b → Reps T X.K F vs ds → Reps T X.K F vs es → b = true
  | [], [], _, _, h, _, _ => by cases h; rfl
  | [], _ :: _, _, _, _, r, r' => by cases r; cases r'
  | _ :: _, [], _, _, _, r, r' => by cases r; cases r'
  | x :: xs, y :: ys, _, b, h, r, r' => by
    cases r with
    | cons r1 rr =>
      cases r' with
      | cons r2 rr' =>
        unfold eqL at h
        cases hq : eqD S n x y with
        | none => rw [hq] at h; cases h
        | some k =>
          have e := ih hq r1 r2
          subst e
          rw [hq] at h
          exact same_eqL ih h rr rr'
theorem cls_tup {pins : List (Addr × Obj)} {s : Shared} {σ : L2.St} {H : Hp} {a : Addr} {vs : List V} (I : Inv X pins σ H s) (h : SqT X.K H a vs) : ∃ o, s.heap.get? a = some o ∧ o.cls = .type "tuple" := by
  obtain ⟨its, _, ⟨o, e, c, _⟩, _⟩ := I.tuple h
  exact ⟨o, e, c⟩
theorem cls_lst {pins : List (Addr × Obj)} {s : Shared} {σ : L2.St} {H : Hp} {a : Addr} {vs : List V} (I : Inv X pins σ H s) (h : SqL X.K H a vs) : ∃ o, s.heap.get? a = some o ∧ o.cls = .type "list" := by
  obtain ⟨its, _, p, _⟩ := I.list h
  obtain ⟨o, e, c, _⟩ := p.isList
  exact ⟨o, e, c⟩
theorem cls_ins {pins : List (Addr × Obj)} {s : Shared} {σ : L2.St} {H : Hp} {a C dx : Addr} {vs : List (Str × V)} (I : Inv X pins σ H s) (h : H a = some (.ins C dx vs)) : ∃ o, s.heap.get? a = some o ∧ o.cls = .ref C := by
  obtain ⟨mA, J, _⟩ := ins_get I.hok h
  exact ⟨_, J.1, rfl⟩
theorem cls_no {s : Shared} {a : Addr} {x y : Value} (h : ∃ o, s.heap.get? a = some o ∧ o.cls = x) (k : ∃ o, s.heap.get? a = some o ∧ o.cls = y) (n : x ≠ y) : False := by
  obtain ⟨o, e, c⟩ := h
  obtain ⟨o', e', c'⟩ := k
  rw [e] at e'
  cases e'
  exact n (c.symm.trans c')
theorem same_run (own : ∀ c q, S c = some q → SameQ T X.K q) {pins : List (Addr × Obj)} {s : Shared} {σ : L2.St} {F H : Hp} (I : Inv X pins σ H s) (l : Le F H) : ∀ {n : Nat} {d e : D} {b : Bool} {v : V}, eqD S n d e = some b → Rep T X.K F v d → Rep T X.K F v e → b = true
  | 0, _, _, _, _, h, _, _ => by cases h
  | n + 1, d, e, b, v, h, rd, re => by
    have ih : ∀ {d e : D} {b : Bool} {v : V}, eqD S n d e = some b → Rep T X.K F v d → Rep T X.K F v e → b = true := fun h => same_run own I l h
    cases rd with
    | non => cases re <;> first | (cases h; rfl) | (cases h; done)
    | bl k => cases re <;> first | (cases h; simp; done) | (cases h; done)
    | int k => cases re <;> first | (cases h; simp; done) | (cases h; done)
    | str k => cases re <;> first | (cases h; simp; done) | (cases h; done)
    | tup h1 r1 =>
      cases re with
      | tup h2 r2 =>
        have e := I.tuple_inj (l.sqT h1) (l.sqT h2)
        subst e
        exact same_eqL ih h r1 r2
      | lst h2 _ => exact (cls_no (cls_tup I (l.sqT h1)) (cls_lst I (l.sqL h2)) (fun z => absurd (Value.type.inj z) (by decide))).elim
      | ins h2 _ => exact (cls_no (cls_tup I (l.sqT h1)) (cls_ins I (l _ _ h2)) (fun z => by cases z)).elim
      | _ => cases h
    | lst h1 r1 =>
      cases re with
      | lst h2 r2 =>
        have e := I.list_inj (l.sqL h1) (l.sqL h2)
        subst e
        exact same_eqL ih h r1 r2
      | tup h2 _ => exact (cls_no (cls_tup I (l.sqT h2)) (cls_lst I (l.sqL h1)) (fun z => absurd (Value.type.inj z) (by decide))).elim
      | ins h2 _ => exact (cls_no (cls_lst I (l.sqL h1)) (cls_ins I (l _ _ h2)) (fun z => by cases z)).elim
      | _ => cases h
    | ins h1 r1 =>
      rename_i a dx c vs fs
      cases re with
      | ins h2 r2 =>
        rename_i dx2 c2 vs2 gs
        replace h : (match Nat.beq c c2 with
          | true => (S c).bind fun q => q fs gs
          | false => none) = some b := h
        cases hc : Nat.beq c c2 with
        | false => rw [hc] at h; cases h
        | true =>
          rw [hc] at h
          replace h : ((S c).bind fun q => q fs gs) = some b := h
          have ec := Nat.eq_of_beq_eq_true hc
          subst ec
          have h1' := h1
          rw [h2] at h1'
          cases h1'
          cases hS : S c with
          | none => rw [hS] at h; cases h
          | some q =>
            rw [hS] at h
            exact own c q hS fs gs b h X pins σ F H s rfl I l _ r1 r2
      | tup h2 _ => exact (cls_no (cls_tup I (l.sqT h2)) (cls_ins I (l _ _ h1)) (fun z => by cases z)).elim
      | lst h2 _ => exact (cls_no (cls_lst I (l.sqL h2)) (cls_ins I (l _ _ h1)) (fun z => by cases z)).elim
      | _ => cases h
    | _ => cases re <;> cases h
/-- one turn of a comparison item by item -/
theorem turnD {n : Nat} {A : Around} (sb : Sb o X (L + (n + 1)) A) {pins : List (Addr × Obj)} {σ : L2.St} {F H : Hp} {s0 : Shared} {xs ys : List D} {vs ws : List V} {its its2 : List Value} {e : Nat → Bool} (l : Le F H) (r1 : Reps T X.K F vs xs) (r2 : Reps T X.K F ws ys) (rv : Vals vs its) (rw' : Vals ws its2)
    (ih : ∀ d e b, eqD S n d e = some b → Cq o T X L n d e b) (he : ∀ i x y, xs[i]? = some x → ys[i]? = some y → (∀ j, j < i → e j = true) → eqD S n x y = some (e i))
    (i : Nat) (h1 : i < its.toArray.size) (h2 : i < its2.toArray.size) (s' : Shared) (hj : ∀ j, j < i → e j = true) (lo : LoopI X pins σ H s') :
    wpAny (model X.prog X.w) A.in1 (eqBool its.toArray[i] its2.toArray[i]) (fun r s2 => r = e i ∧ LoopI X pins σ H s2) X.xe s' := by
  obtain ⟨H1, I1, e1⟩ := lo
  have g1 : its[i]? = some its.toArray[i] := by
    have h1' : i < its.length := by simpa using h1
    rw [List.getElem?_eq_getElem h1'] <;> simp
  have g2 : its2[i]? = some its2.toArray[i] := by
    have h2' : i < its2.length := by simpa using h2
    rw [List.getElem?_eq_getElem h2'] <;> simp
  have k1 : i < vs.length := by rw [rv.length]; simpa using h1
  have k2 : i < ws.length := by rw [rw'.length]; simpa using h2
  obtain ⟨u, hu, ru⟩ := rv.get (List.getElem?_eq_getElem k1)
  obtain ⟨u2, hv, rv2⟩ := rw'.get (List.getElem?_eq_getElem k2)
  rw [g1] at hu
  rw [g2] at hv
  rw [Option.some.inj hu, Option.some.inj hv]
  obtain ⟨x, hx, rx⟩ := r1.getV (List.getElem?_eq_getElem k1)
  obtain ⟨y, hy, ry⟩ := r2.getV (List.getElem?_eq_getElem k2)
  have sb1 : Sb o X (L + n) A.in1 := Sb.in1 (show Sb o X ((L + n) + 1) A from sb)
  refine wpAny_mono ((ih x y (e i) (he i x y hx hy hj)).eq A.in1 pins s' σ F H1 _ _ u u2 sb1 I1 (l.trans e1) rx ry ru rv2) (fun r s2 q => ?_) fun _ _ x => x
  obtain ⟨hr, H2, I2, e2⟩ := q
  exact ⟨hr, H2, I2, e1.trans e2⟩
theorem cq_eq {n : Nat} {d e : D} {b : Bool} (hd : ∀ F v u, Rep T X.K F v d → RelV v u → ∃ a, u = .ref a ∧ v = .ref a) (he : ∀ F v u, Rep T X.K F v e → RelV v u → ∃ a, u = .ref a ∧ v = .ref a) (own : ∀ c q, S c = some q → OwnE T X.prog X.w X.K X.mg X.base L c q) (hb : eqD S n d e = some b)
    (rc : ∀ (A : Around) (pins : List (Addr × Obj)) (s : Shared) (σ : L2.St) (F H : Hp) (v w : V) (u u' : Value), Sb o X (L + n) A → Inv X pins σ H s → Le F H → Rep T X.K F v d → Rep T X.K F w e → RelV v u → RelV w u' →
    wpAny (model X.prog X.w) A (richCompare .Eq u u') (fun r s' => r = .bool b ∧ LoopI X pins σ H s') X.xe s) (A : Around) (pins : List (Addr × Obj)) (s : Shared) (σ : L2.St) (F H : Hp) (v w : V) (u u' : Value) (sb : Sb o X (L + n) A) (I : Inv X pins σ H s) (l : Le F H) (rd : Rep T X.K F v d) (re : Rep T X.K F w e) (rv : RelV v u) (rw' : RelV w u') :
    wpAny (model X.prog X.w) A (eqBool u u') (fun r s' => r = b ∧ LoopI X pins σ H s') X.xe s := by
  obtain ⟨a, e1, e2⟩ := hd F v u rd rv
  obtain ⟨a', e3, e4⟩ := he F w u' re rw'
  subst e1; subst e2; subst e3; subst e4
  by_cases hab : a = a'
  · subst hab
    have eb := same_run (fun c q h => (own c q h).same) I l hb rd re
    subst eb
    exact SeqAt.EqAt.same (A := A) (s := s) (.ref a) X.prog X.w X.xe _ ⟨rfl, H, I, Ext.rfl'⟩
  · refine GQ.eqBool_refG hab (wpAny_mono (rc A pins s σ F H _ _ _ _ sb I l rd re rfl rfl) (fun r s' q => ?_) fun _ _ x => x)
    obtain ⟨hr', q⟩ := q
    exact ⟨b, hr', rfl, q⟩
end
end DL

/-! DL14: == and != on data, with own __eq__: the walk, as operators. -/
namespace DL
open PySem PySem.Spec PyProof.Rows L2
section
variable {T : Tab} {X : Cx} {S : ETab} {L : Nat} {o : Prop}
theorem looks_type {M : Model} {h : Heap} {a : Addr} {o : Obj} (e : h.get? a = some o) : PySem.W.Looks M h (typeOf (.ref a)) o.cls := (PySem.W.Looks.ld e).andThen .now
theorem list_obj {pins : List (Addr × Obj)} {s : Shared} {σ : L2.St} {H : Hp} {a : Addr} {vs : List V} (I : Inv X pins σ H s) (h : SqL X.K H a vs) : ∃ its n dd sl, Vals vs its ∧ s.heap.get? a = some { cls := .type "list", dict := dd, data := .seq its.toArray n, slots := sl } := by
  obtain ⟨its, r, p, _⟩ := I.list h
  obtain ⟨⟨cls, dd, data, sl⟩, e, c, n, d⟩ := p.isList
  simp only at c d
  subst c d
  exact ⟨its, n, dd, sl, r, e⟩
theorem listB_of {n : Nat} {A : Around} (sb : Sb o X (L + (n + 1)) A) {pins : List (Addr × Obj)} {σ : L2.St} {F H : Hp} {xs ys : List D} {a a' : Addr} {vs ws : List V} {e : Nat → Bool} (l : Le F H) (h1 : SqL X.K F a vs) (h2 : SqL X.K F a' ws) (r1 : Reps T X.K F vs xs) (r2 : Reps T X.K F ws ys) (hl : xs.length = ys.length)
    (ih : ∀ d e b, eqD S n d e = some b → Cq o T X L n d e b) (he : ∀ i x y, xs[i]? = some x → ys[i]? = some y → (∀ j, j < i → e j = true) → eqD S n x y = some (e i)) :
    DLQ.ListB X.prog X.w A X.xe a a' xs.length e (fun s' => LoopI X pins σ H s') := fun s' lo => by
  obtain ⟨H1, I1, e1⟩ := id lo
  obtain ⟨its, m, dd, sl, rv, g1⟩ := list_obj I1 ((l.trans e1).sqL h1)
  obtain ⟨its2, m2, dd2, sl2, rv2, g2⟩ := list_obj I1 ((l.trans e1).sqL h2)
  refine ⟨its.toArray, its2.toArray, m, m2, dd, dd2, sl, sl2, g1, g2, by rw [List.size_toArray, ← rv.length, r1.length], by rw [List.size_toArray, ← rv2.length, r2.length, hl], fun i k1 k2 hj => ?_⟩
  exact turnD (s0 := s') sb l r1 r2 rv rv2 ih he i k1 k2 s' hj lo
theorem cq_lists {n : Nat} {xs ys : List D} {b : Bool} (own : ∀ c q, S c = some q → OwnE T X.prog X.w X.K X.mg X.base L c q) (ih : ∀ d e b, eqD S n d e = some b → Cq o T X L n d e b) (h : eqL (eqD S n) xs ys = some b) : Cq o T X L (n + 1) (.lst xs) (.lst ys) b := by
  obtain ⟨e, he, hb⟩ := eqL_split h
  have rc : ∀ (A : Around) (pins : List (Addr × Obj)) (s : Shared) (σ : L2.St) (F H : Hp) (v w : V) (u u' : Value), Sb o X (L + (n + 1)) A → Inv X pins σ H s → Le F H → Rep T X.K F v (.lst xs) → Rep T X.K F w (.lst ys) → RelV v u → RelV w u' →
      wpAny (model X.prog X.w) A (richCompare .Eq u u') (fun r s' => r = .bool b ∧ LoopI X pins σ H s') X.xe s := fun A pins s σ F H v w u u' sb I l rd re rv rw' => by
    cases rd with
    | lst h1 r1 =>
    cases re with
    | lst h2 r2 =>
    cases (show u = Value.ref _ from rv)
    cases (show u' = Value.ref _ from rw')
    by_cases hl : xs.length = ys.length
    · refine DLQ.rc_listB sb.u0 (fun s' => LoopI X pins σ H s') (listB_of sb l h1 h2 r1 r2 hl ih he) (fun s' lo => ⟨?_, lo⟩) ⟨H, I, Ext.rfl'⟩
      rw [hb, ← hl, Nat.min_self]; simp
    · obtain ⟨its, rv1, p1, _⟩ := I.list (l.sqL h1)
      obtain ⟨its2, rv2, p2, _⟩ := I.list (l.sqL h2)
      have hz : (its.toArray.size != its2.toArray.size) = true := by
        rw [List.size_toArray, List.size_toArray, ← rv1.length, ← rv2.length, r1.length, r2.length]; simpa using hl
      have eb : b = false := by rw [hb]; simp [hl]
      subst eb
      exact SeqAt.RcAt.lists_lengths p1.isList p2.isList hz sb.u0 X.prog X.w X.xe _ ⟨rfl, H, I, Ext.rfl'⟩
  refine ⟨cq_eq (fun F v u r k => ?_) (fun F v u r k => ?_) own (by show eqL (eqD S n) xs ys = some b; exact h) rc, rc, fun A pins s σ F H v w u u' sb I l rd re rv rw' => ?_⟩
  · cases r with
    | lst _ _ => exact ⟨_, k, rfl⟩
  · cases r with
    | lst _ _ => exact ⟨_, k, rfl⟩
  · cases rd with
    | lst h1 r1 =>
    cases re with
    | lst h2 r2 =>
    cases (show u = Value.ref _ from rv)
    cases (show u' = Value.ref _ from rw')
    by_cases hl : xs.length = ys.length
    · refine DLQ.rn_listB sb.u0 (fun s' => LoopI X pins σ H s') (listB_of sb l h1 h2 r1 r2 hl ih he) (fun s' lo => ⟨?_, lo⟩) ⟨H, I, Ext.rfl'⟩
      rw [hb, ← hl, Nat.min_self]; simp
    · obtain ⟨its, rv1, p1, _⟩ := I.list (l.sqL h1)
      obtain ⟨its2, rv2, p2, _⟩ := I.list (l.sqL h2)
      have hz : (its.toArray.size != its2.toArray.size) = true := by
        rw [List.size_toArray, List.size_toArray, ← rv1.length, ← rv2.length, r1.length, r2.length]; simpa using hl
      have eb : b = false := by rw [hb]; simp [hl]
      subst eb
      exact SeqAt.RcNeAt.lists_lengths p1.isList p2.isList hz sb.u0 X.prog X.w X.xe _ ⟨rfl, H, I, Ext.rfl'⟩
theorem cq_tups {n : Nat} {xs ys : List D} {b : Bool} (own : ∀ c q, S c = some q → OwnE T X.prog X.w X.K X.mg X.base L c q) (ih : ∀ d e b, eqD S n d e = some b → Cq o T X L n d e b) (h : eqL (eqD S n) xs ys = some b) : Cq o T X L (n + 1) (.tup xs) (.tup ys) b := by
  obtain ⟨e, he, hb⟩ := eqL_split h
  have rc : ∀ (A : Around) (pins : List (Addr × Obj)) (s : Shared) (σ : L2.St) (F H : Hp) (v w : V) (u u' : Value), Sb o X (L + (n + 1)) A → Inv X pins σ H s → Le F H → Rep T X.K F v (.tup xs) → Rep T X.K F w (.tup ys) → RelV v u → RelV w u' →
      wpAny (model X.prog X.w) A (richCompare .Eq u u') (fun r s' => r = .bool b ∧ LoopI X pins σ H s') X.xe s := fun A pins s σ F H v w u u' sb I l rd re rv rw' => by
    cases rd with
    | tup h1 r1 =>
    cases re with
    | tup h2 r2 =>
    cases (show u = Value.ref _ from rv)
    cases (show u' = Value.ref _ from rw')
    obtain ⟨its, rv1, p1, _⟩ := I.tuple (l.sqT h1)
    obtain ⟨its2, rv2, p2, _⟩ := I.tuple (l.sqT h2)
    refine DLQ.rc_tupB sb.u0 (fun s' => LoopI X pins σ H s') p1 p2 (fun i k1 k2 s' hj lo => turnD (s0 := s') sb l r1 r2 rv1 rv2 ih he i k1 k2 s' hj lo) (fun s' lo => ⟨?_, lo⟩) ⟨H, I, Ext.rfl'⟩
    rw [hb, List.size_toArray, List.size_toArray, ← rv1.length, ← rv2.length, r1.length, r2.length]
  refine ⟨cq_eq (fun F v u r k => ?_) (fun F v u r k => ?_) own (by show eqL (eqD S n) xs ys = some b; exact h) rc, rc, fun A pins s σ F H v w u u' sb I l rd re rv rw' => ?_⟩
  · cases r with
    | tup _ _ => exact ⟨_, k, rfl⟩
  · cases r with
    | tup _ _ => exact ⟨_, k, rfl⟩
  · cases rd with
    | tup h1 r1 =>
    cases re with
    | tup h2 r2 =>
    cases (show u = Value.ref _ from rv)
    cases (show u' = Value.ref _ from rw')
    obtain ⟨its, rv1, p1, _⟩ := I.tuple (l.sqT h1)
    obtain ⟨its2, rv2, p2, _⟩ := I.tuple (l.sqT h2)
    refine DLQ.rn_tupB sb.u0 (fun s' => LoopI X pins σ H s') p1 p2 (fun i k1 k2 s' hj lo => turnD (s0 := s') sb l r1 r2 rv1 rv2 ih he i k1 k2 s' hj lo) (fun s' lo => ⟨?_, lo⟩) ⟨H, I, Ext.rfl'⟩
    rw [hb, List.size_toArray, List.size_toArray, ← rv1.length, ← rv2.length, r1.length, r2.length]
theorem inst_of {pins : List (Addr × Obj)} {s : Shared} {σ : L2.St} {H : Hp} {a C dx : Addr} {vs : List (Str × V)} (I : Inv X pins σ H s) (h : H a = some (.ins C dx vs)) : ∃ ox od, PySem.W.InstAt s.heap a ox C od := by
  obtain ⟨mA, J, _⟩ := ins_get I.hok h
  obtain ⟨od, J, _⟩ := J.look
  exact ⟨_, _, J⟩
/-- what may stand beside an own instance, by its type -/
theorem oth_type {pins : List (Addr × Obj)} {s : Shared} {σ : L2.St} {F H : Hp} {w : V} {u' : Value} {e : D} (I : Inv X pins σ H s) (l : Le F H) (re : Rep T X.K F w e) (rw' : RelV w u') (h : oth e = true) {C : Addr} : ∃ tb, PySem.W.Looks (model X.prog X.w) s.heap (typeOf u') tb ∧ PySem.W.notFirst X.K C tb = true := by
  cases re with
  | non => cases (show u' = Value.none from rw'); exact ⟨.type "NoneType", PySem.W.Looks.of_pure rfl, by unfold PySem.W.notFirst; rw [nf_ty.2.2]; rfl⟩
  | tup h1 _ =>
    cases (show u' = Value.ref _ from rw')
    obtain ⟨o, e1, e2⟩ := cls_tup I (l.sqT h1)
    exact ⟨o.cls, looks_type e1, by rw [e2]; unfold PySem.W.notFirst; rw [nf_ty.1]; rfl⟩
  | lst h1 _ =>
    cases (show u' = Value.ref _ from rw')
    obtain ⟨o, e1, e2⟩ := cls_lst I (l.sqL h1)
    exact ⟨o.cls, looks_type e1, by rw [e2]; unfold PySem.W.notFirst; rw [nf_ty.2.1]; rfl⟩
  | _ => cases h
theorem cq_left {n c : Nat} {q : QF} {fs : List (Nat × D)} {e : D} {b : Bool} (ho : o) (O : OwnE T X.prog X.w X.K X.mg X.base L c q) (hb : (∃ gs, e = .ins c gs ∧ q fs gs = some b) ∨ (oth e = true ∧ b = false)) :
    (∀ (A : Around) (pins : List (Addr × Obj)) (s : Shared) (σ : L2.St) (F H : Hp) (v w : V) (u u' : Value), Sb o X (L + (n + 1)) A → Inv X pins σ H s → Le F H → Rep T X.K F v (.ins c fs) → Rep T X.K F w e → RelV v u → RelV w u' →
      wpAny (model X.prog X.w) A (richCompare .Eq u u') (fun r s' => r = .bool b ∧ LoopI X pins σ H s') X.xe s) ∧
    (∀ (A : Around) (pins : List (Addr × Obj)) (s : Shared) (σ : L2.St) (F H : Hp) (v w : V) (u u' : Value), Sb o X (L + (n + 1)) A → Inv X pins σ H s → Le F H → Rep T X.K F v (.ins c fs) → Rep T X.K F w e → RelV v u → RelV w u' →
      wpAny (model X.prog X.w) A (richCompare .NotEq u u') (fun r s' => r = .bool (!b) ∧ LoopI X pins σ H s') X.xe s) := by
  have ty : ∀ (pins : List (Addr × Obj)) (s : Shared) (σ : L2.St) (F H : Hp) (w : V) (u' : Value), Inv X pins σ H s → Le F H → Rep T X.K F w e → RelV w u' → ∃ tb, PySem.W.Looks (model X.prog X.w) s.heap (typeOf u') tb ∧ PySem.W.notFirst X.K (T.cls c) tb = true := fun pins s σ F H w u' I l re rw' => by
    rcases hb with ⟨gs, rfl, _⟩ | ⟨ht, _⟩
    · cases re with
      | ins h2 _ =>
      cases (show u' = Value.ref _ from rw')
      obtain ⟨ox, od, J⟩ := inst_of I (l _ _ h2)
      exact ⟨.ref (T.cls c), J.type, by unfold PySem.W.notFirst; simp⟩
    · exact oth_type I l re rw' ht
  refine ⟨fun A pins s σ F H v w u u' sb I l rd re rv rw' => ?_, fun A pins s σ F H v w u u' sb I l rd re rv rw' => ?_⟩
  · obtain ⟨tb, h1, h2⟩ := ty pins s σ F H w u' I l re rw'
    have rd' := rd
    cases rd with
    | ins h3 _ =>
    cases (show u = Value.ref _ from rv)
    obtain ⟨ox, od, J⟩ := inst_of I (l _ _ h3)
    obtain ⟨f, g1, g2, g3⟩ := own_run O ho (sb.mono (by omega)) I l rd' re rw' hb
    refine DLQ.rc_left sb.u0 I.kIn J h1 h2 (wpAny_mono (DLQ.tc_eqK I.kIn J g1 g2 g3) (fun r s' z => ?_) fun _ _ x => x)
    obtain ⟨k, e1, e2, lo⟩ := z
    exact ⟨_, e1, by rw [e2], lo⟩
  · obtain ⟨tb, h1, h2⟩ := ty pins s σ F H w u' I l re rw'
    have rd' := rd
    cases rd with
    | ins h3 _ =>
    cases (show u = Value.ref _ from rv)
    obtain ⟨ox, od, J⟩ := inst_of I (l _ _ h3)
    have sb1 : Sb o X (L + n) A.in1 := Sb.in1 (show Sb o X ((L + n) + 1) A from sb)
    obtain ⟨f, g1, g2, g3⟩ := own_run O ho (sb1.mono (by omega)) I l rd' re rw' hb
    have hu : A.units + 1 < cLine := sb.u1
    refine DLQ.rc_left sb.u0 I.kIn J h1 h2 (wpAny_mono (DLQ.tc_neK (Q := fun r s' => r = b ∧ LoopI X pins σ H s') hu I.kIn J g1 g2 O.ne O.ob g3) (fun r s' z => ?_) fun _ _ x => x)
    obtain ⟨k, e1, e2, lo⟩ := z
    refine ⟨_, e1, ?_, lo⟩
    rw [← e2]; simp
theorem cq_right {n c : Nat} {q : QF} {gs : List (Nat × D)} {d : D} (ho : o) (O : OwnE T X.prog X.w X.K X.mg X.base L c q) (hd : oth d = true) :
    (∀ (A : Around) (pins : List (Addr × Obj)) (s : Shared) (σ : L2.St) (F H : Hp) (v w : V) (u u' : Value), Sb o X (L + (n + 1)) A → Inv X pins σ H s → Le F H → Rep T X.K F v d → Rep T X.K F w (.ins c gs) → RelV v u → RelV w u' →
      wpAny (model X.prog X.w) A (richCompare .Eq u u') (fun r s' => r = .bool false ∧ LoopI X pins σ H s') X.xe s) ∧
    (∀ (A : Around) (pins : List (Addr × Obj)) (s : Shared) (σ : L2.St) (F H : Hp) (v w : V) (u u' : Value), Sb o X (L + (n + 1)) A → Inv X pins σ H s → Le F H → Rep T X.K F v d → Rep T X.K F w (.ins c gs) → RelV v u → RelV w u' →
      wpAny (model X.prog X.w) A (richCompare .NotEq u u') (fun r s' => r = .bool true ∧ LoopI X pins σ H s') X.xe s) := by
  have go : ∀ (op : CmpOp), (op = .Eq ∨ op = .NotEq) → ∀ (A : Around) (pins : List (Addr × Obj)) (s : Shared) (σ : L2.St) (F H : Hp) (v w : V) (u u' : Value), Sb o X (L + (n + 1)) A → Inv X pins σ H s → Le F H → Rep T X.K F v d → Rep T X.K F w (.ins c gs) → RelV v u → RelV w u' →
      wpAny (model X.prog X.w) A (richCompare op u u') (fun r s' => r = .bool (if op = .Eq then false else true) ∧ LoopI X pins σ H s') X.xe s := fun op hop A pins s σ F H v w u u' sb I l rd re rv rw' => by
    have re' := re
    cases re with
    | ins h3 r3 =>
    rename_i ax dx vs
    cases (show u' = Value.ref _ from rw')
    obtain ⟨ox, od, J⟩ := inst_of I (l _ _ h3)
    have one : wpAny (model X.prog X.w) A (tryCompare (.ref ax) (cmpInfo op).2.2 u) (fun r s' => ∃ v, r = some v ∧ (v = .bool (if op = .Eq then false else true) ∧ LoopI X pins σ H s')) X.xe s := by
      rcases hop with rfl | rfl
      · obtain ⟨f, g1, g2, g3⟩ := own_run O ho (sb.mono (by omega)) I l re' rd rv (.inr ⟨hd, rfl⟩)
        refine wpAny_mono (DLQ.tc_eqK I.kIn J g1 g2 g3) (fun r s' z => ?_) fun _ _ x => x
        obtain ⟨k, e1, e2, lo⟩ := z
        exact ⟨_, e1, by rw [e2]; rfl, lo⟩
      · have sb1 : Sb o X (L + n) A.in1 := Sb.in1 (show Sb o X ((L + n) + 1) A from sb)
        obtain ⟨f, g1, g2, g3⟩ := own_run O ho (sb1.mono (by omega)) I l re' rd rv (.inr ⟨hd, rfl⟩)
        have hu : A.units + 1 < cLine := sb.u1
        refine wpAny_mono (DLQ.tc_neK (Q := fun r s' => r = false ∧ LoopI X pins σ H s') hu I.kIn J g1 g2 O.ne O.ob g3) (fun r s' z => ?_) fun _ _ x => x
        obtain ⟨k, e1, e2, lo⟩ := z
        refine ⟨_, e1, ?_, lo⟩
        have : k = true := by simpa using e2
        rw [this]; rfl
    cases rd with
    | non =>
      cases (show u = Value.none from rv)
      refine DLQ.rc_right (Ta := "NoneType") sb.u0 I.kIn J rfl O.noN (fun Q' q => ?_) one
      rcases hop with rfl | rfl
      · exact DLQ.dec_none_eq q
      · exact DLQ.dec_none_ne q
    | tup h1 _ =>
      cases (show u = Value.ref _ from rv)
      have hT := cls_tup I (l.sqT h1)
      have hi : PySem.W.Looks (model X.prog X.w) s.heap (isInstance (.ref ax) (.type "tuple")) false := J.type.andThen (PySem.W.looks_mroIn I.kIn O.noT)
      refine DLQ.rc_right (Ta := "tuple") sb.u0 I.kIn J hT O.noT (fun Q' q => ?_) one
      rcases hop with rfl | rfl
      · exact DLQ.dec_tuple_eq hT hi q
      · exact DLQ.dec_tuple_ne hT hi q
    | lst h1 _ =>
      cases (show u = Value.ref _ from rv)
      have hT := cls_lst I (l.sqL h1)
      have hi : PySem.W.Looks (model X.prog X.w) s.heap (isInstance (.ref ax) (.type "list")) false := J.type.andThen (PySem.W.looks_mroIn I.kIn O.noL)
      refine DLQ.rc_right (Ta := "list") sb.u0 I.kIn J hT O.noL (fun Q' q => ?_) one
      rcases hop with rfl | rfl
      · exact DLQ.dec_list_eq hT hi q
      · exact DLQ.dec_list_ne hT hi q
    | _ => cases hd
  exact ⟨fun A pins s σ F H v w u u' sb I l rd re rv rw' => go .Eq (.inl rfl) A pins s σ F H v w u u' sb I l rd re rv rw', fun A pins s σ F H v w u u' sb I l rd re rv rw' => go .NotEq (.inr rfl) A pins s σ F H v w u u' sb I l rd re rv rw'⟩
theorem ref_ins {c : Nat} {fs : List (Nat × D)} : ∀ F v u, Rep T X.K F v (.ins c fs) → RelV v u → ∃ a, u = .ref a ∧ v = .ref a := fun F v u r k => by
  cases r with
  | ins _ _ => exact ⟨_, k, rfl⟩
theorem eqn_none {A : Around} {pins : List (Addr × Obj)} {s : Shared} {σ : L2.St} {H : Hp} {a : Addr} {b : Bool} (h : wpAny (model X.prog X.w) A (richCompare .Eq .none (.ref a)) (fun r s' => r = .bool b ∧ LoopI X pins σ H s') X.xe s) :
    wpAny (model X.prog X.w) A (eqBool .none (.ref a)) (fun r s' => r = b ∧ LoopI X pins σ H s') X.xe s := by
  unfold eqBool
  refine wpAny_holding ?_
  refine wpAny_ite_split (fun hab => by cases (eq_of_beq hab)) (fun _ => ?_)
  refine wpAny_bind (wpAny_mono h (fun v s' hv => ?_) fun _ _ x => x)
  obtain ⟨rfl, q⟩ := hv
  exact wpAny_truthy_bool ⟨rfl, q⟩
theorem cq_run (hos : ∀ c q, S c = some q → o) (own : ∀ c q, S c = some q → OwnE T X.prog X.w X.K X.mg X.base L c q) : ∀ (n : Nat) (d e : D) (b : Bool), eqD S n d e = some b → Cq o T X L n d e b
  | 0, _, _, _, h => by cases h
  | n + 1, d, e, b, h => by
    have ih := cq_run hos own n
    have right : ∀ {d : D} {c : Nat} {gs : List (Nat × D)}, oth d = true → ((S c).map fun _ => false) = some b → eqD S (n + 1) d (.ins c gs) = some b → Cq o T X L (n + 1) d (.ins c gs) b := fun {d c gs} hd hs hq => by
      cases hS : S c with
      | none => rw [hS] at hs; cases hs
      | some q =>
        rw [hS] at hs
        cases hs
        obtain ⟨r1, r2⟩ := cq_right (n := n) (gs := gs) (hos c q hS) (own c q hS) hd
        refine ⟨?_, r1, r2⟩
        cases d with
        | non =>
          intro A pins s σ F H v w u u' sb I l rd re rv rw'
          · have z := r1 A pins s σ F H v w u u' sb I l rd re rv rw'
            obtain ⟨a, e1, _⟩ := ref_ins F w u' re rw'
            subst e1
            cases rd
            cases (show u = Value.none from rv)
            exact eqn_none z
        | tup xs => exact cq_eq (fun F v u r k => by cases r with | tup _ _ => exact ⟨_, k, rfl⟩) ref_ins own hq r1
        | lst xs => exact cq_eq (fun F v u r k => by cases r with | lst _ _ => exact ⟨_, k, rfl⟩) ref_ins own hq r1
        | _ => cases hd
    cases d with
    | tup xs =>
      cases e with
      | tup ys => exact cq_tups own ih h
      | ins c gs => exact right rfl h h
      | _ => exact cq_flat h
    | lst xs =>
      cases e with
      | lst ys => exact cq_lists own ih h
      | ins c gs => exact right rfl h h
      | _ => exact cq_flat h
    | non =>
      cases e with
      | ins c gs => exact right rfl h h
      | _ => exact cq_flat h
    | ins c fs =>
      have left : ∀ {e : D}, oth e = true → ((S c).map fun _ => false) = some b → eqD S (n + 1) (.ins c fs) e = some b → (∀ F v u, Rep T X.K F v e → RelV v u → (∃ a, u = .ref a ∧ v = .ref a) ∨ u = .none) → Cq o T X L (n + 1) (.ins c fs) e b := fun {e} ho hs hq hr => by
        cases hS : S c with
        | none => rw [hS] at hs; cases hs
        | some q =>
          rw [hS] at hs
          cases hs
          obtain ⟨r1, r2⟩ := cq_left (n := n) (fs := fs) (hos c q hS) (own c q hS) (.inr ⟨ho, rfl⟩)
          refine ⟨fun A pins s σ F H v w u u' sb I l rd re rv rw' => ?_, r1, r2⟩
          obtain ⟨a, e1, e2⟩ := ref_ins F v u rd rv
          have z := r1 A pins s σ F H v w u u' sb I l rd re rv rw'
          subst e1
          unfold eqBool
          refine wpAny_holding ?_
          refine wpAny_ite_split (fun hab => ?_) (fun _ => ?_)
          · have hab := eq_of_beq hab
            subst hab
            subst e2
            cases re with
            | non => cases rw'
            | tup h1 _ =>
              cases rw'
              cases rd with
              | ins h3 _ => exact (cls_no (cls_tup I (l.sqT h1)) (cls_ins I (l _ _ h3)) (fun z => by cases z)).elim
            | lst h1 _ =>
              cases rw'
              cases rd with
              | ins h3 _ => exact (cls_no (cls_lst I (l.sqL h1)) (cls_ins I (l _ _ h3)) (fun z => by cases z)).elim
            | _ => cases ho
          · refine wpAny_bind (wpAny_mono z (fun v s' hv => ?_) fun _ _ x => x)
            obtain ⟨rfl, q⟩ := hv
            exact wpAny_truthy_bool ⟨rfl, q⟩
      cases e with
      | ins c' gs =>
        replace h : (match Nat.beq c c' with
          | true => (S c).bind fun q => q fs gs
          | false => none) = some b := h
        cases hc : Nat.beq c c' with
        | false => rw [hc] at h; cases h
        | true =>
          have ec := Nat.eq_of_beq_eq_true hc
          subst ec
          rw [hc] at h
          replace h : ((S c).bind fun q => q fs gs) = some b := h
          cases hS : S c with
          | none => rw [hS] at h; cases h
          | some q =>
            rw [hS] at h
            replace h : q fs gs = some b := h
            obtain ⟨r1, r2⟩ := cq_left (n := n) (fs := fs) (e := .ins c gs) (hos c q hS) (own c q hS) (.inl ⟨gs, rfl, h⟩)
            refine ⟨cq_eq ref_ins ref_ins own ?_ r1, r1, r2⟩
            show (match Nat.beq c c with
              | true => (S c).bind fun q => q fs gs
              | false => none) = some b
            rw [hc, hS]
            exact h
      | non => exact left rfl h h fun F v u r k => .inr (by cases r; exact k)
      | tup ys => exact left rfl h h fun F v u r k => .inl (by cases r with | tup _ _ => exact ⟨_, k, rfl⟩)
      | lst ys => exact left rfl h h fun F v u r k => .inl (by cases r with | lst _ _ => exact ⟨_, k, rfl⟩)
      | _ => cases h
    | _ => exact cq_flat h
end
end DL

/-! DL15: ==, !=, in, not in, chains, as rules. -/
namespace DL
open PySem PySem.Spec PyProof.Rows L2
/-- a cell at the top read as it stands -/
def rsv (μ : Sto) (d : D) : D := match d with
  | .cell a => (match μ a with
    | some (.lst xs) => .lst xs
    | _ => .cell a)
  | d => d
def gEqF (S : ETab) (n : Nat) (f : Bool → Bool) : DR2 := fun x y μ Q => onS2 (eqD S n (rsv μ x) (rsv μ y)) fun b => Q (.bl (f b)) μ
abbrev gEq (S : ETab) (n : Nat) : DR2 := gEqF S n id
abbrev gNe (S : ETab) (n : Nat) : DR2 := gEqF S n not
/-- item == x for one item, from the left -/
def inL (q : D → D → Option Bool) (x : D) : List D → Option Bool
  | [] => some false
  | y :: r => match q y x with
    | some true => some true
    | some false => inL q x r
    | none => none
def gInF (S : ETab) (n : Nat) (f : Bool → Bool) : DR2 := fun x y μ Q => match getK μ y with
  | some kvs => onS2 (keyD x) fun k => Q (.bl (f (vD kvs k).isSome)) μ
  | none => onS2 (getS μ y) fun ys => onS2 (inL (eqD S n) (rsv μ x) ys) fun b => Q (.bl (f b)) μ
abbrev gIn (S : ETab) (n : Nat) : DR2 := gInF S n id
abbrev gNotIn (S : ETab) (n : Nat) : DR2 := gInF S n not
theorem inL_split {q : D → D → Option Bool} {x : D} : ∀ {ys : List D} {b : Bool}, inL q x ys = some b → ∃ e : Nat → Bool, (∀ i y, ys[i]? = some y → (∀ j, j < i → e j = false) → q y x = some (e i)) ∧ b = DLQ.anyB ys.length e
  | [], _, h => by cases h; exact ⟨fun _ => false, fun i y h => by simp at h, rfl⟩
  | y :: ys, b, h => by
    unfold inL at h
    cases hq : q y x with
    | none => rw [hq] at h; cases h
    | some k =>
      rw [hq] at h
      cases k with
      | true =>
        cases h
        refine ⟨fun _ => true, fun i a h1 h3 => ?_, ?_⟩
        · cases i with
          | zero => simp at h1; subst h1; exact hq
          | succ i => exact absurd (h3 0 (Nat.zero_lt_succ i)) (by simp)
        · rw [DLQ.anyB_true (i := 0) (by simp) rfl]
      | false =>
        obtain ⟨e, h1, h2⟩ := inL_split (show inL q x ys = some b from h)
        refine ⟨fun i => match i with
          | 0 => false
          | i + 1 => e i, fun i a g1 g3 => ?_, ?_⟩
        · cases i with
          | zero => simp at g1; subst g1; exact hq
          | succ i =>
            simp at g1
            exact h1 i a g1 fun j hj => g3 (j + 1) (Nat.succ_lt_succ hj)
        · rw [h2]
          unfold DLQ.anyB
          rw [List.length_cons, List.range_succ_eq_map, List.any_cons, List.any_map]
          simp [Function.comp_def]
section
variable {T : Tab} {X : Cx} {S : ETab} {L n : Nat} {o : Prop}
theorem Sb.of {X : Cx} {n : Nat} (r : Room n X.A) : Sb True X n X.A := ⟨r.un, rfl, fun _ => r⟩
theorem Sb.no {X : Cx} {k n : Nat} {A : Around} (r : Room k A) (e : X.A.units = A.units) (h : n ≤ k) : Sb False X n X.A := ⟨by have := r.un; rw [e]; omega, rfl, fun z => z.elim⟩
theorem StR.ext {K : PySem.W.Frag} {G F H H' : Hp} {μ : Sto} (h : StR T K G F H μ) (e : Ext H H') : StR T K G F H' μ :=
  ⟨h.sub.trans e, fun a c q => let ⟨h1, o, h2, h3⟩ := h.cell a c q; ⟨h1, o, e _ _ h2, h3⟩, fun a o q => let ⟨h1, h2, h3⟩ := h.fr a o q; ⟨e _ _ h1, h2, h3⟩⟩
theorem rsv_ok {K : PySem.W.Frag} {G F H : Hp} {μ : Sto} {v : V} {d : D} (h : StR T K G F H μ) (r : Rep T K F v d) : Rep T K H v (rsv μ d) := by
  cases d with
  | cell a =>
    cases r
    unfold rsv
    cases e : μ a with
    | none => simp only [e]; exact .cell a
    | some c =>
      cases c with
      | lst xs =>
        simp only [e]
        obtain ⟨vs, h1, r1⟩ := h.cellL e
        exact .lst (SqL.of h1) (r1.mono h.sub)
      | _ => simp only [e]; exact .cell a
  | _ => exact r.mono h.sub
theorem opd_eq (own : ∀ c q, S c = some q → OwnE T X.prog X.w X.K X.mg X.base L c q) (hos : ∀ c q, S c = some q → o) (hr : Sb o X (L + n) X.A) : OpD T X (compareOp .Eq) (gEq S n) := by
  intro pins s σ H x y v u Q I rx ry h
  obtain ⟨G, F, μ, dx, dy, Q0, hS, r1, r2, g, hQ⟩ := h
  obtain ⟨b, e, q⟩ := onS2_of g
  refine wpAny_mono ((cq_run (o := o) hos own n _ _ b e).rc X.A pins s σ H H x y v u hr I (Le.refl H) (rsv_ok hS r1) (rsv_ok hS r2) rx ry) (fun r s' z => ?_) fun _ _ x => x
  obtain ⟨rfl, H', I', ex⟩ := z
  exact ⟨.bl b, H', I', rfl, hQ _ μ q F H' _ (Le.refl F) (hS.ext ex) (.bl b)⟩
theorem opd_ne (own : ∀ c q, S c = some q → OwnE T X.prog X.w X.K X.mg X.base L c q) (hos : ∀ c q, S c = some q → o) (hr : Sb o X (L + n) X.A) : OpD T X (compareOp .NotEq) (gNe S n) := by
  intro pins s σ H x y v u Q I rx ry h
  obtain ⟨G, F, μ, dx, dy, Q0, hS, r1, r2, g, hQ⟩ := h
  obtain ⟨b, e, q⟩ := onS2_of g
  refine wpAny_mono ((cq_run (o := o) hos own n _ _ b e).rn X.A pins s σ H H x y v u hr I (Le.refl H) (rsv_ok hS r1) (rsv_ok hS r2) rx ry) (fun r s' z => ?_) fun _ _ x => x
  obtain ⟨rfl, H', I', ex⟩ := z
  exact ⟨.bl (!b), H', I', rfl, hQ _ μ q F H' _ (Le.refl F) (hS.ext ex) (.bl _)⟩
theorem contains_run (own : ∀ c q, S c = some q → OwnE T X.prog X.w X.K X.mg X.base L c q) (hos : ∀ c q, S c = some q → o) (hr : Sb o X (L + n + 1) X.A) {pins : List (Addr × Obj)} {s : Shared} {σ : L2.St} {G F H : Hp} {μ : Sto} {x y : V} {v u : Value} {dx dy : D} {ys : List D} {b : Bool} (I : Inv X pins σ H s) (rx : RelV x v) (ry : RelV y u) (hS : StR T X.K G F H μ)
    (r1 : Rep T X.K F x dx) (r2 : Rep T X.K F y dy) (e1 : getS μ dy = some ys) (e2 : inL (eqD S n) (rsv μ dx) ys = some b) : wpAny (model X.prog X.w) X.A (contains u v) (fun r s' => r = b ∧ LoopI X pins σ H s') X.xe s := by
  obtain ⟨a, vs, rfl, h4, h5⟩ := getS_ok hS r2 e1
  obtain rfl : u = Value.ref a := ry
  obtain ⟨e, he, hb⟩ := inL_split e2
  have sb1 : Sb o X (L + n) X.A.in1 := Sb.in1 hr
  have rx' := rsv_ok hS r1
  have h5' := h5.mono hS.sub
  have turn : ∀ {its : List Value} (i : Nat) (k1 : i < its.toArray.size) (s' : Shared), Vals vs its → (∀ j, j < i → e j = false) → LoopI X pins σ H s' → wpAny (model X.prog X.w) X.A.in1 (eqBool its.toArray[i] v) (fun r s' => r = e i ∧ LoopI X pins σ H s') X.xe s' := fun {its} i k1 s' rv hj lo => by
    obtain ⟨H1, I1, x1⟩ := lo
    have g1 : its[i]? = some its.toArray[i] := by
      have h1' : i < its.length := by simpa using k1
      rw [List.getElem?_eq_getElem h1'] <;> simp
    have k2 : i < vs.length := by rw [rv.length]; simpa using k1
    obtain ⟨w, hw, rw'⟩ := rv.get (List.getElem?_eq_getElem k2)
    rw [g1] at hw
    rw [Option.some.inj hw]
    obtain ⟨d, hd, rd⟩ := h5'.getV (List.getElem?_eq_getElem k2)
    refine wpAny_mono ((cq_run (o := o) hos own n _ _ (e i) (he i d hd hj)).eq X.A.in1 pins s' σ H H1 _ _ w v sb1 I1 x1 rd rx' rw' rx) (fun r s2 q => ?_) fun _ _ x => x
    obtain ⟨hr', H2, I2, x2⟩ := q
    exact ⟨hr', H2, I2, x1.trans x2⟩
  rcases h4 with h4 | h4
  · obtain ⟨its, rv, p, _⟩ := I.tuple h4
    refine DLQ.contains_tupB (fun s' => LoopI X pins σ H s') p (fun i k1 s' hj lo => turn i k1 s' rv hj lo) (fun s' lo => ⟨?_, lo⟩) ⟨H, I, Ext.rfl'⟩
    rw [hb, List.size_toArray, ← rv.length, h5.length]
  · refine DLQ.contains_listB (N := ys.length) (e := e) (fun s' => LoopI X pins σ H s') (fun s' lo => ?_) (fun s' lo => ⟨hb.symm, lo⟩) ⟨H, I, Ext.rfl'⟩
    obtain ⟨H1, I1, x1⟩ := id lo
    obtain ⟨its, m, dd, sl, rv, g1⟩ := list_obj I1 (Le.sqL x1 h4)
    exact ⟨its.toArray, m, dd, sl, g1, by rw [List.size_toArray, ← rv.length, h5.length], fun i k1 hj => turn i k1 s' rv hj lo⟩
theorem opd_in (own : ∀ c q, S c = some q → OwnE T X.prog X.w X.K X.mg X.base L c q) (hos : ∀ c q, S c = some q → o) (hr : Sb o X (L + n + 1) X.A) : OpD T X (compareOp .In) (gIn S n) := by
  intro pins s σ H x y v u Q I rx ry h
  obtain ⟨G, F, μ, dx, dy, Q0, hS, r1, r2, g, hQ⟩ := h
  unfold gIn gInF at g
  split at g
  · rename_i kvs ek
    obtain ⟨k, e, q⟩ := onS2_of g
    obtain ⟨a, vs, rfl, h1, rk⟩ := getK_ok hS r2 ek
    obtain rfl : u = Value.ref a := ry
    have ex := keyD_ok r1 e
    subst ex
    refine d_in hr.u1 I (DGet.k h1) rx fun s' I' => ⟨.bl _, H, I', rfl, ?_⟩
    have : (valV vs k).isSome = (vD kvs k).isSome := by
      cases ev : vD kvs k with
      | none => rw [rk.no ev]; rfl
      | some d => obtain ⟨w, hw, _⟩ := rk.val ev; rw [hw]; rfl
    rw [this]
    exact hQ _ μ q F H _ (Le.refl F) hS (.bl _)
  · obtain ⟨ys, e1, g⟩ := onS2_of g
    obtain ⟨b, e2, q⟩ := onS2_of g
    refine DLQ.in_of (wpAny_mono (contains_run own hos hr I rx ry hS r1 r2 e1 e2) (fun r s' z => ?_) fun _ _ x => x)
    obtain ⟨rfl, H', I', ex⟩ := z
    exact ⟨.bl r, H', I', rfl, hQ _ μ q F H' _ (Le.refl F) (hS.ext ex) (.bl _)⟩
theorem opd_notIn (own : ∀ c q, S c = some q → OwnE T X.prog X.w X.K X.mg X.base L c q) (hos : ∀ c q, S c = some q → o) (hr : Sb o X (L + n + 1) X.A) : OpD T X (compareOp .NotIn) (gNotIn S n) := by
  intro pins s σ H x y v u Q I rx ry h
  obtain ⟨G, F, μ, dx, dy, Q0, hS, r1, r2, g, hQ⟩ := h
  unfold gNotIn gInF at g
  split at g
  · rename_i kvs ek
    obtain ⟨k, e, q⟩ := onS2_of g
    obtain ⟨a, vs, rfl, h1, rk⟩ := getK_ok hS r2 ek
    obtain rfl : u = Value.ref a := ry
    have ex := keyD_ok r1 e
    subst ex
    refine d_notIn hr.u1 I (DGet.k h1) rx fun s' I' => ⟨.bl _, H, I', rfl, ?_⟩
    have : (valV vs k).isSome = (vD kvs k).isSome := by
      cases ev : vD kvs k with
      | none => rw [rk.no ev]; rfl
      | some d => obtain ⟨w, hw, _⟩ := rk.val ev; rw [hw]; rfl
    rw [this]
    exact hQ _ μ q F H _ (Le.refl F) hS (.bl _)
  · obtain ⟨ys, e1, g⟩ := onS2_of g
    obtain ⟨b, e2, q⟩ := onS2_of g
    refine DLQ.notIn_of (wpAny_mono (contains_run own hos hr I rx ry hS r1 r2 e1 e2) (fun r s' z => ?_) fun _ _ x => x)
    obtain ⟨rfl, H', I', ex⟩ := z
    exact ⟨.bl _, H', I', rfl, hQ _ μ q F H' _ (Le.refl F) (hS.ext ex) (.bl _)⟩

/-! ### a < b < c -/
variable {a b c : Expr} {ma mb mc : DM} {g g' : DR2} {pos : Pos}
theorem se_chain {op op' : CmpOp} (ho : OpD T X (compareOp op) g) (ho' : OpD T X (compareOp op') g') (ha : SE T X a ma) (hb : SE T X b mb) (hc : SE T X c mc) (hm : lastMarks [op, op'] [b, c] = false := by with_unfolding_all rfl) :
    SE T X (.Compare a [op, op'] [b, c] pos) (dChain g g' ma mb mc) :=
  ⟨fun W tk => PE.imp (pe_chain ho ho' (ha.run W tk) (hb.run W tk) (hc.run W tk) hm) fun _ _ _ h => tE_chain h⟩
theorem st_chain {op op' : CmpOp} (ho : OpD T X (compareOp op) g) (ho' : OpD T X (compareOp op') g') (ha : SE T X a ma) (hb : SE T X b mb) (hc : SE T X c mc) (hm : lastMarks [op, op'] [b, c] = false := by with_unfolding_all rfl) :
    ST T X (.Compare a [op, op'] [b, c] pos) (dTst (dChain g g' ma mb mc)) :=
  ⟨fun W tk => PT.imp (pt_chain ho ho' (ha.run W tk) (hb.run W tk) (hc.run W tk) hm) fun σ H Q h => tE_chain (tE_tst h)⟩
end
end DL

/-! DL16: errors: isinstance of a caught error with fields; their __init__. -/
namespace DLQ
open PySem PySem.W PySem.Spec PySem.Calls PyProof.Rows
section
variable {prog : Program} {w : World} {A : Around} {E : Value → Shared → Prop} {s : Shared} {K : Frag} {x C : Addr} {ox od : Obj}
/-- e.__class__ of an own error with its own dict -/
theorem err_class {Q : Option Value → Shared → Prop} (T : L2.ExcC K C) (X : K.In s.heap) (I : InstAt s.heap x ox C (some od)) (h : Q (some (.ref C)) { s with toks := s.toks + 1 }) : wpAny (model prog w) A (getAttr? (.ref x) "__class__") Q E s := by
  obtain ⟨hp, g, d, t, os⟩ := s
  have ty := I.type (M := model prog w)
  have own : (clsIn K C).isSome = true := by
    obtain ⟨cd, hc, _⟩ := any_some T.hd
    rw [hc]; rfl
  have seek := looks_find (M := model prog w) X I (findObj_data (od := od) own T.ha T.hn T.ht)
  have isB : Looks (model prog w) hp (isInstance (.ref x) (.type "BaseException")) true := ty.andThen (looks_subIn X T.hs)
  have ne : (onTheHeap (Value.ref C) && Value.builtin "BaseException.__getattribute__" == Value.builtin "object.__getattribute__") = false := by
    rw [Bool.and_eq_false_iff]; exact .inr (by decide +kernel)
  unfold getAttr? getAttrBy? getAttrBy
  refine wpAny_bind (wpAny_mkText (wpAny_bind (wpAny_attempt (wpAny_holding (wpAny_bind (ty.at (wpAny_bind ((looks_findIn (M := model prog w) X T.hg).at ?_))))))))
  refine wpAny_ite_split (fun z => absurd z (by rw [ne]; exact Bool.false_ne_true)) fun _ => ?_
  unfold getAttrByItsOwn hookBefore
  refine wpAny_bind ?_
  rw [if_pos (show onTheHeap (Value.ref C) = true from rfl)]
  refine (looks_findIn (M := model prog w) X T.hk).at ?_
  refine wpAny_bind (wpAny_attempt (wpAny_holding ?_))
  unfold callGetattribute
  refine wpAny_ite_split (fun z => by cases z) fun _ => ?_
  unfold boundAndCalled
  rw [PySem.F.excAttr_ValueError.ga.bind (.ref x)]
  refine wpAny_bind (wpAny_pure ?_)
  show wpAny _ _ (call (.builtin "BaseException.__getattribute__") [.ref x, .str "__class__" t]) _ _ _
  refine wpAny_call (codeAny_call_builtin PySem.F.excAttr_ValueError.ga.plain PySem.F.entry_bexc_ga ?_)
  refine @check_slot (model prog w) _ _ ⟨hp, g, d, t + 1, os⟩ "BaseException.__getattribute__" "BaseException" "__getattribute__" (.ref x) [.str "__class__" t] [] _ (by decide +kernel) (by decide +kernel) isB (PySem.F.args_bexc_ga _ _) ?_
  unfold Builtin.«object.__getattribute__»
  refine wpAny_bind (wpAny_of_eq (a := ((Value.ref x : Value), [Value.str "__class__" t])) (by first | rfl | (simp only [slotArgs]; rfl)) ?_)
  refine wpAny_bind (wpAny_pure (wpAny_bind (ty.at (wpAny_bind (seek.at ?_)))))
  show wpAny _ _ (holding [Value.builtin "object.__class__"] (call (.builtin "getset_descriptor.__get__") [.builtin "object.__class__", .ref x, .ref C]) >>= ret) _ _ _
  refine wpAny_bind (wpAny_holding (wpAny_call (class_get (s := ⟨hp, g, d, t + 1, os⟩) (ox := ox) (od := some od) X I T.hm ?_)))
  refine wpAny_pure ?_
  show wpAny _ _ (handedOut (.ref C)) _ _ _
  rw [handedOut_of (v := .ref C) rfl]
  first
    | exact wpAny_pure (wpAny_pure h)
    | exact wpAny_pure (wpAny_bind (wpAny_pure (wpAny_pure h)))
theorem err_kit (T : L2.ExcC K C) : KitX K (.ref x) (.ref C) (fun h => InstAt h x ox C (some od)) := by
  have Z := handS_kitx_exc (K := K) (x := x) (ox := ox) T.hg T.hk T.hs T.hd T.ha T.hn T.ht T.hm
  obtain ⟨cd, hc, _⟩ := any_some T.hd
  refine ⟨fun _ _ _ I => I.type, fun M h X I => ?_, fun h tp dd its n sl X htp => Z.ne h tp dd its n sl X htp, fun X I k => err_class T X I k⟩
  unfold clsIn at hc
  split at hc
  · rename_i c' d' cd' sl' ho
    intro A' Q' E' s' k q
    unfold isType loadHead
    exact wpAny_bind (wpAny_loadPart (k _ _ (X _ _ ho)) (wpAny_pure q))
  · cases hc
end
end DLQ
namespace DL
open PySem PySem.Spec PyProof.Rows L2
/-- isinstance(e, c), e the caught error, with fields -/
def rIsX (K : PySem.W.Frag) (C a : Addr) (d : Option Addr) : List V → Hp → VK → Prop := fun xs H Q => ∃ (c : V) (cv : Value) (b : Bool) (dd : Addr) (fs : List (Str × V)), xs = [.ref a, c] ∧ (∀ u, RelV c u → u = cv) ∧ PySem.W.kitOne K (.ref C) cv = some b ∧ d = some dd ∧ H dd = some (.xd fs) ∧ Q (.bl b) H
theorem call_isX {X : Cx} {a C : Addr} {d : Option Addr} {oe : Obj} {pn : List (Addr × Obj)} (T : ExcC X.K C) (hz : Zc (.ref C) d oe) (hf : ∃ vs, oe.data = .fields vs) : CallR (X.suite a ((a, oe) :: pn)) (.builtin "isinstance") (rIsX X.K C a d) := by
  intro pins s σ H xs us Q I r h
  obtain ⟨c, cv, b, dd, fs, rfl, hcv, e, ed, ea, q⟩ := h
  subst ed
  obtain ⟨u1, u2, rfl, rx, rt⟩ := vals2 r
  cases (show u1 = Value.ref a from rx)
  have ec := hcv _ rt
  subst ec
  obtain ⟨hget, _⟩ := I.pin (a, oe) (List.mem_append_left _ List.mem_cons_self)
  obtain ⟨vs, hv⟩ := hf
  have hx : ObjOk X.prog X.w H s.heap dd (.xd fs) := I.hok dd _ ea
  obtain ⟨mA, hns, _⟩ := hx
  obtain ⟨od, ho, _⟩ := lookIn_ns hns
  have J : PySem.W.InstAt s.heap a oe C (some od) := ⟨hget, hz.1, by unfold PySem.W.notCls; rw [hv] <;> rfl, by rw [hz.2]; exact ho⟩
  exact PySem.W.kia_one (DLQ.err_kit T) I.kIn J e (fun z => nomatch z) fun tk => ⟨.bl b, H, I.tok tk, rfl, q⟩

/-! ### errors with one field, with two: their __init__ -/
def spI1 (K : PySem.W.Frag) (C : Addr) (f : Str) : Sp := fun vs H Q _ => ∃ a x, vs = [.ref a, x] ∧ OexC K C ∧ PySem.W.findIn K (.ref C) f = some none ∧ H a = some (exo a C none) ∧
  ∀ dx, H dx = none → dx ≠ a → Q .non (upd (upd H dx (exd dx [(f, x)])) a (exo a C (some dx)))
def spI2 (K : PySem.W.Frag) (C : Addr) (f g : Str) : Sp := fun vs H Q _ => ∃ a x y, vs = [.ref a, x, y] ∧ OexC K C ∧ PySem.W.findIn K (.ref C) f = some none ∧ PySem.W.findIn K (.ref C) g = some none ∧ H a = some (exo a C none) ∧
  ∀ dx, H dx = none → dx ≠ a → Q .non (upd (upd (upd H dx (exd dx [(f, x)])) a (exo a C (some dx))) dx (exd dx [(g, y), (f, x)]))
section
variable {T : Tab} {P : Program} {w : World} {K : PySem.W.Frag} {mg : Str → Option Value} {base : Heap} {x qual : Str} {params : Arguments} {scope : Scope} {dvs : List V} {kws : List (Str × V)} {f C : Addr} {fd : FuncData} {N ps : List Str} {k : Nat}
theorem init1 {st : Stmt} {fn : Str} (F : FunD K x qual params [st] scope dvs kws f fd) (S : FnScope N ps scope) (hp : ps.length = 2)
    (hb : ∀ (cdv : Value) (A : Around) (outer : List Env) (s : Shared) (H : Hp) (E : XK), Room k (A.deeper (envOfC qual scope s.heap.objs.size f cdv)) → PS (cxOf (L2.CX P w) P w K mg base N qual scope f cdv A outer s H E) st (tOst K fn (tVar 0) (tVar 1))) :
    FnOk P w K mg base (L2.CX P w) (k + 1) f fd ps (spI1 K C fn) := by
  refine FunD.ok F S (fun vs H Q E h => ?_) fun cdv A outer s H vs Q E hr h => ?_
  · obtain ⟨a, y, rfl, _⟩ := h
    exact hp.symm
  · obtain ⟨a, y, rfl, T, hf, ha, q⟩ := h
    refine ⟨_, pss_one (hb cdv A outer s H E hr), ?_⟩
    exact ⟨y, rfl, .ref a, rfl, a, C, rfl, T, hf, .inl ⟨ha, fun dx n ne => q dx n ne⟩⟩
theorem init2 {st su : Stmt} {fn gn : Str} (F : FunD K x qual params [st, su] scope dvs kws f fd) (S : FnScope N ps scope) (hp : ps.length = 3)
    (hb : ∀ (cdv : Value) (A : Around) (outer : List Env) (s : Shared) (H : Hp) (E : XK), Room k (A.deeper (envOfC qual scope s.heap.objs.size f cdv)) → PS (cxOf (L2.CX P w) P w K mg base N qual scope f cdv A outer s H E) st (tOst K fn (tVar 0) (tVar 1)))
    (hc : ∀ (cdv : Value) (A : Around) (outer : List Env) (s : Shared) (H : Hp) (E : XK), Room k (A.deeper (envOfC qual scope s.heap.objs.size f cdv)) → PS (cxOf (L2.CX P w) P w K mg base N qual scope f cdv A outer s H E) su (tOst K gn (tVar 0) (tVar 2))) :
    FnOk P w K mg base (L2.CX P w) (k + 1) f fd ps (spI2 K C fn gn) := by
  refine FunD.ok F S (fun vs H Q E h => ?_) fun cdv A outer s H vs Q E hr h => ?_
  · obtain ⟨a, y, z, rfl, _⟩ := h
    exact hp.symm
  · obtain ⟨a, y, z, rfl, T, hf, hg, ha, q⟩ := h
    refine ⟨_, pss_cons (hb cdv A outer s H E hr) (pss_one (hc cdv A outer s H E hr)), ?_⟩
    refine ⟨y, rfl, .ref a, rfl, a, C, rfl, T, hf, .inl ⟨ha, fun dx n ne => ?_⟩⟩
    refine ⟨z, rfl, .ref a, rfl, a, C, rfl, T, hg, .inr ⟨dx, [(fn, y)], upd_same, ?_, Nat.le_trans (Nat.le_refl 1) (by decide), q dx n ne⟩⟩
    rw [upd_ne ne, upd_same]
end
/-- an error class of the text: its name, its number, its fields -/
structure Err (T : Tab) (P : Program) (w : World) (K : PySem.W.Frag) (mg : Str → Option Value) (base : Heap) (x : Str) (c : Nat) (k : Nat) (ns : List Nat) : Prop where
  at_ : mg x = some (.ref (T.exc c))
  ox : OexC K (T.exc c)
  ex : ∃ fI fd ps, PySem.W.findIn K (.ref (T.exc c)) "__init__" = some (some (.ref fI)) ∧ PySem.W.typeIn K (.ref fI) = some (.type "function") ∧ Binds K fd ps [] ∧
    ((∃ n, ns = [n] ∧ FnOk P w K mg base (L2.CX P w) k fI fd ps (spI1 K (T.exc c) (T.fld n))) ∨ ∃ n m, ns = [n, m] ∧ FnOk P w K mg base (L2.CX P w) k fI fd ps (spI2 K (T.exc c) (T.fld n) (T.fld m)))
  no : ∀ n ∈ ns, PySem.W.findIn K (.ref (T.exc c)) (T.fld n) = some none
/-- the error's own fields, the last one first -/
def errF : List Nat → List D → List (Nat × D) → List (Nat × D)
  | n :: ns, d :: ds, acc => errF ns ds ((n, d) :: acc)
  | _, _, acc => acc
def dRaise (c : Nat) (ns : List Nat) (mt : DA) : DS := fun env μ K => mt env μ (fun ds μ1 => Nat.beq ds.length ns.length = true ∧ K.ex (c, errF ns ds []) env μ1) (fun x μ1 => K.ex x env μ1)
section
variable {T : Tab} {X : Cx} {x : Str} {c k : Nat} {ns : List Nat} {e : Expr} {es : List Expr} {mt : DA} {p pos pos' : Pos}
theorem passF : Passes (L2.CX X.prog X.w) X (fun _ _ _ => False) := fun pins σ H s e s' I q => passAt (W := fun _ _ _ _ => False) takesF σ pins H s e s' I q
/-- one more object, the dict of an error -/
theorem StR.xd {K : PySem.W.Frag} {G F H H' : Hp} {μ : Sto} {a dx : Addr} {vs : List (Str × V)} (h : StR T K G F H μ) (na : H a = none) (nd : H dx = none) (hd : H' dx = some (.xd vs)) (ho : ∀ b, b ≠ a → b ≠ dx → H' b = H b) : StR T K G (upd F dx (.xd vs)) H' μ := by
  have nF := h.fresh nd
  refine ⟨fun b o e => ?_, fun b m e => ?_, fun b o e => ?_⟩
  · by_cases hb : b = dx
    · subst hb; rw [upd_same] at e; cases e; exact hd
    · rw [upd_ne hb] at e
      have z := h.sub b o e
      rw [ho b (ne_of_none z na) hb]; exact z
  · obtain ⟨h1, u, h2, h3⟩ := h.cell b m e
    have hb : b ≠ dx := ne_of_none h2 nd
    exact ⟨by rw [upd_ne hb]; exact h1, u, by rw [ho b (ne_of_none h2 na) hb]; exact h2, h3.mono (Le.new nF)⟩
  · obtain ⟨h1, h2, h3⟩ := h.fr b o e
    have hb : b ≠ dx := ne_of_none h1 nd
    exact ⟨by rw [ho b (ne_of_none h1 na) hb]; exact h1, by rw [upd_ne hb]; exact h2, h3⟩
theorem ss_raise (hc : X.calm = true) (R : Err T X.prog X.w X.K X.mg X.base x c k ns) (hr : Room (k + 1) X.A) (hg : Gl X x) (ha : SA T X (e :: es) mt) (hdb : (x == ("__debug__" : Str)) = false := by decide)
    (he : starEach (e :: es) X.env = (false, eval e X.env) :: starEach es X.env := by rfl) (hpl : (backTo p (starEach es X.env)).any (·.1) = false := by rfl) : SS T X (.Raise (some (.Call (.Name x pos') (e :: es) [] p)) none pos) (dRaise c ns mt) := by
  obtain ⟨fI, fd, ps, h1, h2, hb, h3⟩ := R.ex
  have rs : Raises X (.ref (T.exc c)) := raises_own R.ox.exC R.ox.tyC
  -- the heap behind the making
  have fin : ∀ {W : WG} {env : Env'} {k : DEnds} {Z : Ends} {F F1 H1 H' : Hp} {μ1 : Sto} {σ : L2.St} {a dx : Addr} {vs : List (Str × V)} {fs : List (Nat × D)}, EndsR T X.K W F k Z → EnvR T X.K F σ env → Le F F1 → StR T X.K W.G F1 H1 μ1 → H1 a = none → H1 dx = none → dx ≠ a → RepF T X.K F1 vs fs → k.ex (c, fs) env μ1 →
      H' dx = some (.xd vs) → (∀ b, b ≠ a → b ≠ dx → H' b = H1 b) → W.W (.ref (T.exc c)) (some dx) σ H' := fun {W env k Z F F1 H1 H' μ1 σ a dx vs fs} hK hE l hS na nd ne rf q hd ho => by
    have nF := hS.fresh nd
    have e := Le.new (o := .xd vs) nF
    exact hK.ex _ _ _ _ _ _ _ _ q (l.trans e) (hE.mono (l.trans e)) (hS.xd na nd hd ho) ⟨rfl, .inr ⟨dx, _, rfl, upd_same, rf.mono e⟩⟩
  rcases h3 with ⟨n, en, F0⟩ | ⟨n, m, en, F0⟩
  · subst en
    refine ⟨fun W tk => PS.imp (ps_raise hc tk.tk (pmk_oex (dvs := []) (ds := []) R.ox h1 h2 F0 hr hb .nil passF hg R.at_ (ha.run W tk) hdb he hpl)) fun D σ H h => ?_⟩
    obtain ⟨F, env, μ, kk, hE, hS, hm, hK⟩ := h
    refine ⟨F, env, μ, _, _, hE, hS, hm, fun ds μ1 q F1 H1 us l hS1 rs => ?_, hK.kx hE⟩
    obtain ⟨hl, q⟩ := q
    have hl := Nat.eq_of_beq_eq_true hl
    cases rs with
    | nil => cases hl
    | @cons v1 d1 _ _ r1 rr =>
      cases rr with
      | cons _ _ => simp at hl
      | nil =>
        refine ⟨by simp, fun a na => ⟨a, _, rfl, R.ox, R.no n (by simp), upd_same, fun dx nd ne => ⟨rfl, dx, [(T.fld n, v1)], upd_same, ?_, ?_, ?_⟩⟩⟩
        · rw [upd_ne ne, upd_same]
        · rw [upd_ne ne] at nd; exact nd
        · rw [upd_ne ne] at nd
          refine fin hK hE l hS1 na nd ne (.cons r1 .nil) q upd_same fun b hba hbd => ?_
          rw [upd_ne hbd, del_ne hba, upd_ne hba, upd_ne hbd, upd_ne hba]
  · subst en
    refine ⟨fun W tk => PS.imp (ps_raise hc tk.tk (pmk_oex (dvs := []) (ds := []) R.ox h1 h2 F0 hr hb .nil passF hg R.at_ (ha.run W tk) hdb he hpl)) fun D σ H h => ?_⟩
    obtain ⟨F, env, μ, kk, hE, hS, hm, hK⟩ := h
    refine ⟨F, env, μ, _, _, hE, hS, hm, fun ds μ1 q F1 H1 us l hS1 rs => ?_, hK.kx hE⟩
    obtain ⟨hl, q⟩ := q
    have hl := Nat.eq_of_beq_eq_true hl
    cases rs with
    | nil => cases hl
    | @cons v1 d1 _ _ r1 rr =>
      cases rr with
      | nil => simp at hl
      | @cons v2 d2 _ _ r2 rr =>
        cases rr with
        | cons _ _ => simp at hl
        | nil =>
          refine ⟨by simp, fun a na => ⟨a, _, _, rfl, R.ox, R.no n (by simp), R.no m (by simp), upd_same, fun dx nd ne => ⟨rfl, dx, [(T.fld m, v2), (T.fld n, v1)], ?_, upd_same, ?_, ?_⟩⟩⟩
          · rw [upd_ne (Ne.symm ne), upd_same]
          · rw [upd_ne ne] at nd; exact nd
          · rw [upd_ne ne] at nd
            refine fin hK hE l hS1 na nd ne (.cons r2 (.cons r1 .nil)) q upd_same fun b hba hbd => ?_
            rw [upd_ne hbd, del_ne hba, upd_ne hbd, upd_ne hba, upd_ne hbd, upd_ne hba]
end
end DL

/-! DL17: try .. except X as n, the caught error. -/
namespace DL
open PySem PySem.Spec PyProof.Rows L2
/-- what the error classes must have -/
structure TabX (T : Tab) (K : PySem.W.Frag) (nF : Nat) : Prop where
  xf : ∀ c, XfC K (T.exc c)
  ec : ∀ c, ExcC K (T.exc c)
  no : ∀ c n, n < nF → PySem.W.findIn K (.ref (T.exc c)) (T.fld n) = some none
/-- e.f of the caught error -/
def dXf (a : Addr) (dd : Option Addr) (c n : Nat) (ma : DM) : DM := fun env μ Q E => ma env μ (fun x μ1 => match x with
  | .exn a' dd' c' fs => a' = a ∧ dd' = dd ∧ c' = c ∧ onS (lk fs n) fun d => Q d μ1
  | _ => False) E
def dIsX (a : Addr) (dd : Option Addr) (c : Nat) (q : Nat → Option Bool) (ma : DM) : DM := fun env μ Q E => ma env μ (fun x μ1 => match x with
  | .exn a' dd' c' fs => a' = a ∧ dd' = dd ∧ c' = c ∧ fs.isEmpty = false ∧ onS2 (q c) fun b => Q (.bl b) μ1
  | _ => False) E
/-- the ends of the suite: the name is unset behind it, nothing is raised -/
def gone (i : Nat) (K : DEnds) : DEnds := ⟨fun e m => K.nx (e.set i none) m, K.rt, fun e m => K.bk (e.set i none) m, fun e m => K.ct (e.set i none) m, fun _ _ _ => False⟩
/-- try: body / except X as n: suite -/
def dTryAs (q : Nat → Option Bool) (i : Nat) (mb : DS) (ms : Addr → Option Addr → Nat → DS) : DS := fun env μ K =>
  mb env μ ⟨K.nx, K.rt, K.bk, K.ct, fun x env' μ' => onS2 (q x.1) fun b => br b (∀ a dd, ms a dd x.1 (env'.set i (some (.exn a dd x.1 x.2))) μ' (gone i K)) (K.ex x env' μ')⟩
theorem PSs.ex {ι : Type} {X : Cx} {b : List Stmt} {t : ι → TS} (h : ∀ i, PSs X b (t i)) : PSs X b (fun D σ H => ∃ i, t i D σ H) := ⟨fun pins s σ H D I ⟨i, q⟩ => (h i).run pins s σ H D I q⟩
section
variable {T : Tab} {X : Cx} {e : Expr} {ma : DM} {pos p p2 np pos' : Pos} {nF : Nat} {a : Addr} {dd : Option Addr} {c : Nat} {oe : Obj} {pn : List (Addr × Obj)}
theorem tk_suite {G : Hp} {pn : List (Addr × Obj)} : TK (X.suite a pn) (WF G) := ⟨takesF, PassesOwn.never⟩
theorem se_xf (n : Nat) {f : Str} (tx : TabX T X.K nF) (hn : n < nF) (hz : Zc (.ref (T.exc c)) dd oe) (hf : ∃ vs, oe.data = .fields vs) (he : SE T (X.suite a ((a, oe) :: pn)) e ma) (hfn : f = T.fld n := by rfl)
    (hb : attributeBase e f X.env (eval e X.env) = eval e X.env := by rfl) : SE T (X.suite a ((a, oe) :: pn)) (.Attribute e f pos) (dXf a dd c n ma) := by
  subst hfn
  refine ⟨fun W tk => PE.imp (pe_xf (tx.xf c) (tx.no c n hn) hz hf (he.run W tk) hb) fun σ H Q h => ?_⟩
  obtain ⟨F, env, μ, Q0, E0, hE, hS, hm, hQ, hX⟩ := h
  refine ⟨F, env, μ, _, E0, hE, hS, hm, fun x μ1 q F1 H1 v l hS1 rv => ?_, hX⟩
  cases x with
  | exn a' dd' c' fs =>
    obtain ⟨e1, e2, e3, q⟩ := q
    subst e1; subst e2; subst e3
    obtain ⟨d, e4, q⟩ := onS_of q
    cases rv with
    | exn0 => cases e4
    | exn h r =>
      obtain ⟨w, e5, r2⟩ := r.lk e4
      exact ⟨rfl, rfl, _, _, w, rfl, hS1.sub _ _ h, e5, hQ d μ1 q F1 H1 w l hS1 r2⟩
  | _ => exact q.elim
theorem se_isX {q : Nat → Option Bool} {cv : Value} {v : V} {x : Str} (tx : TabX T X.K nF) (hz : Zc (.ref (T.exc c)) dd oe) (hf : ∃ vs, oe.data = .fields vs) (hg : Gl X "isinstance") (hm : X.mg "isinstance" = none) (he : SE T (X.suite a ((a, oe) :: pn)) e ma)
    (hx : PE (X.suite a ((a, oe) :: pn)) (.Name x p2) (tC v)) (hv : ∀ u, RelV v u → u = cv) (hq : ∀ b, q c = some b → PySem.W.kitOne X.K (.ref (T.exc c)) cv = some b)
    (hs : starEach [e, .Name x p2] X.env = (false, eval e X.env) :: starEach [.Name x p2] X.env := by rfl) (hs2 : starEach [.Name x p2] X.env = (false, eval (.Name x p2) X.env) :: starEach [] X.env := by rfl)
    (hpl : (backTo pos (starEach [.Name x p2] X.env)).any (·.1) = false := by rfl) : SE T (X.suite a ((a, oe) :: pn)) (.Call (.Name "isinstance" p) [e, .Name x p2] [] pos) (dIsX a dd c q ma) := by
  refine ⟨fun W tk => PE.imp (pe_callB (X := X.suite a ((a, oe) :: pn)) (call_isX (tx.ec c) hz hf) hg hm rfl (pa_cons (he.run W tk) (pa_cons hx pa_nil hs2) hs) (by decide) (by decide) hs hpl) fun σ H Q h => ?_⟩
  obtain ⟨F, env, μ, Q0, E0, hE, hS, hm, hQ, hX⟩ := h
  refine ⟨F, env, μ, _, E0, hE, hS, hm, fun x μ1 q F1 H1 w l hS1 rv => ?_, hX⟩
  cases x with
  | exn a' dd' c' fs =>
    obtain ⟨e1, e2, e3, e4, q⟩ := q
    subst e1; subst e2; subst e3
    obtain ⟨b, e5, q⟩ := onS2_of q
    cases rv with
    | exn0 => cases e4
    | exn h r => exact ⟨v, cv, b, _, _, rfl, hv, hq b e5, rfl, hS1.sub _ _ h, hQ _ μ1 q F1 H1 _ l hS1 (.bl b)⟩
  | _ => exact q.elim
theorem ss_tryAs (q : Nat → Option Bool) (i : Nat) {n x : Str} {cv : Value} {body suite : List Stmt} {b₀ : Stmt} {mb : DS} {ms : Addr → Option Addr → Nat → DS} (hs : X.stack = X.env :: X.outer) (hf : X.env.frame = some X.env.locals) (hN : X.N.Nodup) (hc : Names X x cv)
    (hq : ∀ c b, q c = some b → PySem.W.exmOne X.K (.ref (T.exc c)) cv = some b)
    (hb : ∀ (pn : List (Addr × Obj)) (xe : Value → Shared → Prop), SB T (X.tr pn xe) body mb)
    (hsu : ∀ (a : Addr) (oe : Obj) (c : Nat) (d : Option Addr) (pn : List (Addr × Obj)), Zc (.ref (T.exc c)) d oe → (∃ vs, oe.data = .fields vs) → SB T (X.suite a ((a, oe) :: pn)) (b₀ :: suite) (ms a d c))
    (hi : X.N[i]? = some n := by rfl) (hln : X.env.kindOf n = some .local := by rfl) :
    SS T X (.Try body [.ExceptHandler (some (.Name x np)) (some n) (b₀ :: suite) pos'] [] [] pos) (dTryAs q i mb ms) := by
  refine ⟨fun W tk => PS.imp (ps_try_as (tb := fun W0 D σ H => ∃ G, tS T X.K ⟨W0, G⟩ mb D σ H) (ts := fun a cls d D σ H => ∃ c, ∃ G, cls = .ref (T.exc c) ∧ tS T X.K (WF G) (ms a d c) D σ H) hs hf hN hi hln hc tk.tk
    (fun W0 pn xe h1 h2 => PSs.ex fun G => (hb pn xe).run ⟨W0, G⟩ ⟨h1, h2⟩) (fun a oe cls d pn hz hv => ⟨fun pins s σ H D I h => ?_⟩)) fun D σ H h => ?_⟩
  · obtain ⟨c, G, ec, h⟩ := h
    subst ec
    exact ((hsu a oe c d pn hz hv).run (WF G) tk_suite).run pins s σ H D I h
  · obtain ⟨F, env, μ, k, hE, hS, hm, hK⟩ := h
    refine ⟨W.G, F, env, μ, _, hE, hS, hm, hK.nx, hK.rt, hK.bk, hK.ct, ?_⟩
    intro x env' μ' F' H' σ' cls d qq l hE' hS' hx
    obtain ⟨b, eb, qq⟩ := onS2_of qq
    have ec := hx.cls
    subst ec
    refine ⟨b, hq _ _ eb, fun hb a na => ?_, fun hb => hK.ex x env' μ' F' H' σ' _ d (qq.2 hb) l hE' hS' hx⟩
    refine ⟨x.1, W.G, rfl, F', _, μ', _, hE'.set (v := .ref a) ?_, hS', qq.1 hb a d, ?_⟩
    · obtain ⟨x1, x2⟩ := x
      rcases hx.fs with e | ⟨d', vs, e1, e2, r⟩
      · have e : x2 = [] := e
        subst e; exact .exn0 a d x1
      · subst e1; exact .exn e2 r
    · have hK' := hK.mono l
      exact ⟨fun e m F2 H2 σ2 q l2 hE2 hS2 => hK'.nx _ m F2 H2 _ q l2 hE2.unset hS2, hK'.rt, fun e m F2 H2 σ2 q l2 hE2 hS2 => hK'.bk _ m F2 H2 _ q l2 hE2.unset hS2, fun e m F2 H2 σ2 q l2 hE2 hS2 => hK'.ct _ m F2 H2 _ q l2 hE2.unset hS2,
        fun x env μ F2 H2 σ2 cls dd q _ _ _ _ => q.elim⟩
end
end DL

/-! DL18: enumerate and zip over lists and tuples alike. -/
namespace DLI
open PySem PySem.Builtin
/-- a walk of a tuple (t) or a list -/
def StA (t : Bool) (h : Heap) (it a : Addr) (i : Nat) : Prop := match t with
  | true => h.IsTupleIter it a i
  | false => h.IsListIter it a i
def IsA (t : Bool) (h : Heap) (a : Addr) (items : Array Value) : Prop := match t with
  | true => h.IsTuple a items
  | false => h.IsList a items
def tyA (t : Bool) : String := match t with
  | true => "tuple"
  | false => "list"
def objA (t : Bool) (a : Addr) : Obj := match t with
  | true => { cls := .type "tuple_iterator", data := .fields #[.ref a, .int 0 0] }
  | false => { cls := .type "list_iterator", data := .fields #[.ref a, .int 0 0] }
theorem StA.obj {t : Bool} {h : Heap} {it a : Addr} {i : Nat} (s : StA t h it a i) : ∃ o vs c, h.get? it = some o ∧ o.cls = .type c ∧ o.data = .fields vs ∧ c ≠ "list" ∧ c ≠ "tuple" ∧ c ≠ "enumerate" ∧ c ≠ "zip" := by
  cases t with
  | true => obtain ⟨o, e, c, d⟩ := s; exact ⟨o, _, _, e, c, d, by decide, by decide, by decide, by decide⟩
  | false => obtain ⟨o, e, c, d⟩ := s; exact ⟨o, _, _, e, c, d, by decide, by decide, by decide, by decide⟩
theorem IsA.obj {t : Bool} {h : Heap} {a : Addr} {items : Array Value} (s : IsA t h a items) : ∃ o, h.get? a = some o ∧ o.cls = .type (tyA t) := by
  cases t with
  | true => obtain ⟨o, e, c, _⟩ := s; exact ⟨o, e, c⟩
  | false => obtain ⟨o, e, c, _⟩ := s; exact ⟨o, e, c⟩
theorem StA.keep {t : Bool} {h h' : Heap} {it a : Addr} {i : Nat} (s : StA t h it a i) (k : ∀ o, h.get? it = some o → h'.get? it = some o) : StA t h' it a i := by
  cases t with
  | true => exact Heap.IsTupleIter.at s k
  | false => exact Heap.IsListIter.at s k
theorem ne_of_cls {h : Heap} {a b : Addr} {c d : String} (x : ∃ o, h.get? a = some o ∧ o.cls = .type c) (y : ∃ o, h.get? b = some o ∧ o.cls = .type d) (n : c ≠ d) : a ≠ b := fun z => by
  subst z
  obtain ⟨o, e, hc⟩ := x
  obtain ⟨o', e', hc'⟩ := y
  rw [e] at e'
  cases e'
  exact n (Value.type.inj (hc.symm.trans hc'))
theorem StA.ne {t u : Bool} {h : Heap} {it a b : Addr} {i : Nat} {items : Array Value} (s : StA t h it a i) (q : IsA u h b items) : b ≠ it := by
  obtain ⟨o, _, c, e, hc, _, n1, n2, _, _⟩ := s.obj
  refine ne_of_cls q.obj ⟨o, e, hc⟩ ?_
  cases u with
  | true => exact Ne.symm n2
  | false => exact Ne.symm n1
theorem draws {prog : Program} {w : World} {A : Around} (t : Bool) (hh : A.handled = none) (it a : Addr) (hne : a ≠ it) (items : Array Value) :
    Draws prog w A it [it, a] items.size (fun i v => items[i]? = some v) (fun i h => StA t h it a i ∧ IsA t h a items) := by
  cases t with
  | true => exact Draws.tuple hh it a hne items
  | false => exact Draws.list hh it a hne items
theorem begins (t : Bool) (a : Addr) (items : Array Value) : Begins (.ref a) (objA t a) (fun h => IsA t h a items) := by
  cases t with
  | true => exact begins_tuple a items
  | false => exact begins_list a items
theorem st_new {t : Bool} {h : Heap} {it a : Addr} (e : h.get? it = some (objA t a)) : StA t h it a 0 := by
  cases t with
  | true => exact ⟨_, e, rfl, rfl⟩
  | false => exact ⟨_, e, rfl, rfl⟩
theorem enum_new1 {v : Value} {o : Obj} {H : Heap → Prop} (B : Begins v o H) :
    Meets (Builtin.«enumerate.__new__» ⟨[.type "enumerate", v], []⟩) (fun _ R s => H s.heap ∧
      R (.ok (.ret (.ref (s.heap.push o).objs.size))) { s with heap := (s.heap.push o).push { cls := .type "enumerate", data := .fields #[.none, .bool false, .ref s.heap.objs.size, rawInt 0, .none, .none] } }) :=
  .of_wp fun prog w A R s h => by
    obtain ⟨hp, g, d, tk, os⟩ := s; obtain ⟨h1, h⟩ := h
    have hsub := sub_enumerate
    have q1 : ∀ {A' : Around} {E : Value → Shared → Prop} {Q : Value → Shared → Prop}, Q (.ref hp.objs.size) ⟨hp.push o, g, d, tk, os⟩ → wpAny (model prog w) A' (pyIter v) Q E ⟨hp, g, d, tk, os⟩ :=
      fun q => B.iter prog w _ _ ⟨hp, g, d, tk, os⟩ _ h1 q
    wp_walk using q1
    refine wpAny_stack_any fun st => wpAny_pure ?_
    split
    · rename_i c _ _ _ _ _
      cases (c == Value.type "enumerate")
      · wp_walk using q1
        exact ⟨_, rfl, h⟩
      · wp_walk using q1
        exact ⟨_, rfl, h⟩
    · wp_walk using q1
      exact ⟨_, rfl, h⟩
theorem enum_begins1 {prog : Program} {w : World} {A : Around} {E : Value → Shared → Prop} {s : Shared} {v : Value} {o : Obj} {H : Heap → Prop} {Q : Value → Shared → Prop} (B : Begins v o H) (h1 : H s.heap)
    (h : ∀ h', IsEnum h' (s.heap.objs.size + 1) s.heap.objs.size 0 .none → h'.get? s.heap.objs.size = some o → (∀ b o, s.heap.get? b = some o → h'.get? b = some o) → Q (.ref (s.heap.objs.size + 1)) { s with heap := h' }) :
    wpAny (model prog w) A (call (.type "enumerate") [v]) Q E s := by
  refine callType_new F.called_enumerate (by decide) (F.typeCall_enumerate_1 _) (F.newCall_enumerate_1 _) (fun obj => F.args_object_init_2 obj _) F.entry_enumerate_new (enum_new1 B) ⟨h1, ?_⟩
  have hz : (s.heap.push o).objs.size = s.heap.objs.size + 1 := Heap.size_push ..
  show _ ∧ _
  rw [hz]
  have he : IsEnum ((s.heap.push o).push { cls := .type "enumerate", data := .fields #[.none, .bool false, .ref s.heap.objs.size, rawInt 0, .none, .none] }) (s.heap.objs.size + 1) s.heap.objs.size 0 .none := by
    have := Heap.get?_push_size (s.heap.push o) (o := { cls := .type "enumerate", data := .fields #[.none, .bool false, .ref s.heap.objs.size, rawInt 0, .none, .none] }) rfl
    rw [hz] at this; exact this
  exact ⟨⟨_, he, rfl⟩, h _ he (Heap.get?_push_of_some _ (Heap.get?_push_size _ B.free)) fun b o x => Heap.get?_push_of_some _ (Heap.get?_push_of_some _ x)⟩
end DLI
namespace DL
open PySem PySem.Spec PyProof.Rows L2 DLI
def SqA (t : Bool) (K : PySem.W.Frag) (H : Hp) (a : Addr) (xs : List V) : Prop := match t with
  | true => SqT K H a xs
  | false => SqL K H a xs
section
variable {X : Cx} {pins : List (Addr × Obj)} {σ : L2.St} {H : Hp} {s : Shared} {a : Addr} {xs ys : List V} {t : Bool}
theorem seqA (I : Inv X pins σ H s) (h : SqA t X.K H a xs) : ∃ its : List Value, Vals xs its ∧ IsA t s.heap a its.toArray := by
  cases t with
  | true => obtain ⟨its, r, p, _⟩ := I.tuple h; exact ⟨its, r, p⟩
  | false => obtain ⟨its, r, p, _⟩ := I.list h; exact ⟨its, r, p.isList⟩
theorem seqA_inj (I : Inv X pins σ H s) (h : SqA t X.K H a xs) (h' : SqA t X.K H a ys) : xs = ys := by
  cases t with
  | true => exact I.tuple_inj h h'
  | false => exact I.list_inj h h'
end
/-- each item with its place, in a new pair -/
def IteA (t : Bool) (K : PySem.W.Frag) (a : Addr) : It :=
  ⟨fun i H => ∃ (xs : List V) (x : V), SqA t K H a xs ∧ xs[i]? = some x, fun i H v H' => ∃ T x, v = .ref T ∧ H T = none ∧ H' = upd H T (.tup [.int (i : Nat), x]) ∧ ∀ xs, SqA t K H a xs → xs[i]? = some x, fun i H => ∃ xs : List V, SqA t K H a xs ∧ xs.length = i⟩
theorem turn_enumA {P : Program} {w : World} {K : PySem.W.Frag} {elts : List Expr} {kk : Nat} {tpos : Pos} (t : Bool) (a e it : Addr) :
    Turn P w K (.Tuple elts kk tpos) (IteA t K a) [e, it] e (fun i h => (∃ old, IsEnum h e it ((i : Nat) : Int) old) ∧ StA t h it a i ∧ e ≠ it) where
  mem := by simp
  obj := fun i h st b hb => by
    obtain ⟨⟨old, he⟩, hi, _⟩ := st
    obtain ⟨o, vs, c, ho, hc, hd, _⟩ := hi.obj
    rcases List.mem_cons.mp hb with z | z
    · subst z; exact ⟨_, he, fun v q => nomatch q⟩
    · have z := List.mem_singleton.mp z
      subst z; exact ⟨o, ho, fun v q => by rw [hd] at q; cases q⟩
  keep := fun i h h' st k => ⟨⟨st.1.choose, k e (by simp) _ st.1.choose_spec⟩, st.2.1.keep fun o q => k it (by simp) o q, st.2.2⟩
  item := by
    intro X hP hw hK hc i pins s σ H E I hf st hg
    subst hP hw hK
    obtain ⟨⟨old, he⟩, hit, hne⟩ := st
    obtain ⟨xs, x, hq, hx⟩ := hg
    obtain ⟨its, rv, p⟩ := seqA I hq
    obtain ⟨u, hu, ru⟩ := rv.get hx
    have hil : it < s.heap.objs.size := by obtain ⟨_, _, _, q, _⟩ := hit.obj; exact Heap.lt_size q
    have hel : e < s.heap.objs.size := Heap.lt_size he
    have hai : a ≠ it := hit.ne p
    have hea : e ≠ a := ne_of_cls ⟨_, he, rfl⟩ p.obj (by cases t <;> decide)
    have hlt : i < its.toArray.size := by
      rw [List.size_toArray]
      exact (List.getElem?_eq_some_iff.mp hu).1
    refine wpAny_pyNext_enum_itemD (draws (prog := X.prog) (w := X.w) (A := X.A.in1) t (I.ok.hd hc) it a hai its.toArray) he ⟨hit, p⟩ hlt hne (by simp [hne, hea]) fun y h' tk hP ho st' hT hsz hk => ?_
    have ey : u = y := Option.some.inj (hu.symm.trans (by simpa using hP))
    subst ey
    refine ⟨_, rfl, wpAny_letOwnedTupleGo_enum (s := { s with heap := h', toks := tk + 1 }) ho fun h'' he' sb => ?_⟩
    have hT2 : h''.get? s.heap.objs.size = some { cls := .type "tuple", data := .seq #[.int i tk, u] } := (sb.2 _ (Nat.ne_of_gt hel)).trans hT
    have I1 : Inv X pins σ (upd H s.heap.objs.size (.tup [.int (i : Nat), x])) { s with heap := h'', toks := tk + 1 } :=
      I.turnedNew (ch := [e, it]) (fun b ob hb q => (sb.2 b (fun z => hb (by simp [z]))).trans (hk b ob (fun z => hb (by simp [z])) (fun z => hb (by simp [z])) q)) hf (Nat.le_refl _)
        ⟨by show 2 ≤ sizeLine; decide, [.int i tk, u], .cons ⟨_, rfl⟩ (.cons ru .nil), ⟨_, hT2, rfl, _, rfl⟩⟩
    refine ⟨.ref s.heap.objs.size, _, I1, rfl, ⟨_, x, rfl, I.hok.fresh (Nat.le_refl _), rfl, fun zs hz => by rw [seqA_inj I hz hq]; exact hx⟩, ⟨⟨u, ?_⟩, st'.1.keep fun o q => (sb.2 it (Ne.symm hne)).trans q, hne⟩, fun b hb => ?_⟩
    · rw [show ((i + 1 : Nat) : Int) = (i : Int) + 1 from by omega]; exact he'
    · have hb' : b < s.heap.objs.size := by
        rcases List.mem_cons.mp hb with z | z
        · rw [z]; exact hel
        · rw [List.mem_singleton.mp z]; exact hil
      rw [upd_ne (Nat.ne_of_lt hb')]
      exact (hf b hb).1
  done := by
    intro X hP hw hK hc i pins s σ H E I hf st hg
    subst hP hw hK
    obtain ⟨⟨old, he⟩, hit, hne⟩ := st
    obtain ⟨xs, hq, hx⟩ := hg
    obtain ⟨its, rv, p⟩ := seqA I hq
    have hi : its.toArray.size = i := by rw [List.size_toArray, ← rv.length]; exact hx
    have D := draws (prog := X.prog) (w := X.w) (A := X.A.in1) t (I.ok.hd hc) it a (hit.ne p) its.toArray
    rw [hi] at D
    obtain ⟨f0, f1, f2, f3, f4, f5⟩ := hf it (by simp)
    exact wpAny_pyNext_enum_endD D he ⟨hit, p⟩ fun h' eb => ⟨rfl, I.turned (t' := s.toks) (fun b o hb q => eb b o hb q) f0 f1 f3 f4 f5⟩
  self := fun A i s Q E st h => wpAny_pyIter_enum st.1.choose_spec h
/-- enumerate(l), l a list or a tuple -/
def iEnumA (K : PySem.W.Frag) (ta : TA) : TI := fun σ H R => ta σ H fun vs H1 => ∃ t a xs, vs = [.ref a] ∧ SqA t K H1 a xs ∧ R (IteA t K a) H1
theorem pi_enumA {X : Cx} {e : Expr} {ta : TA} {p pos tpos : Pos} {elts : List Expr} {kk : Nat} (hg : Gl X "enumerate") (hm : X.mg "enumerate" = none) (ha : PA X [e] ta) (hs : starEach [e] X.env = [(false, eval e X.env)] := by rfl) :
    PI X (.Tuple elts kk tpos) (.Call (.Name "enumerate" p) [e] [] pos) (iEnumA X.K ta) := by
  refine ⟨fun pins s σ H R I h => Call_ (ld_blt I hg hm boot_enumerate (PyProof.Rows.callWith_type1 (thn (ha.run pos pins s σ H _ I h) fun us s1 ⟨vs, H1, I1, r1, t, a, xs, ex, hq, q⟩ => ?_) hs rfl))⟩
  subst ex
  obtain rfl := Vals.ref1 r1
  obtain ⟨its, rv, p'⟩ := seqA I1 hq
  refine enum_begins1 (begins t a its.toArray) p' fun h' he hit hk => wpAny_pyIter_enum he ?_
  refine ⟨s1.heap.objs.size + 1, [s1.heap.objs.size + 1, s1.heap.objs.size], _, _, H1, rfl, I1.kept (t' := s1.toks) hk, turn_enumA t a (s1.heap.objs.size + 1) s1.heap.objs.size, ⟨⟨.none, he⟩, st_new hit, Nat.succ_ne_self _⟩, fun b hb => ?_, q⟩
  have hle : s1.heap.objs.size ≤ b := by
    rcases List.mem_cons.mp hb with z | z
    · rw [z]; exact Nat.le_add_right _ _
    · rw [List.mem_singleton.mp z]; exact Nat.le_refl _
  exact I1.fpOk hle (I1.hok.fresh hle)
end DL

/-! DL19: zip over lists and tuples alike; enumerate and zip as walks of data; len and the like. -/
namespace DL
open PySem PySem.Spec PyProof.Rows L2 DLI
def ItzA (t u : Bool) (K : PySem.W.Frag) (a b : Addr) : It :=
  ⟨fun i H => ∃ (xs ys : List V) (x y : V), SqA t K H a xs ∧ SqA u K H b ys ∧ xs[i]? = some x ∧ ys[i]? = some y,
    fun i H v H' => ∃ T x y, v = .ref T ∧ H T = none ∧ H' = upd H T (.tup [x, y]) ∧ (∀ xs, SqA t K H a xs → xs[i]? = some x) ∧ ∀ ys, SqA u K H b ys → ys[i]? = some y,
    fun i H => ∃ xs ys : List V, SqA t K H a xs ∧ SqA u K H b ys ∧ i ≤ xs.length ∧ i ≤ ys.length ∧ (i = xs.length ∨ i = ys.length)⟩
theorem turn_zipA2 {P : Program} {w : World} {K : PySem.W.Frag} {elts : List Expr} {kk : Nat} {tpos : Pos} (t u : Bool) {a b z TI TO i1 i2 : Addr} (S : ZipSep2 z TI TO i1 i2 [i1, a] [i2, b]) (h12 : i1 ≠ i2) :
    Turn P w K (.Tuple elts kk tpos) (ItzA t u K a b) [z, TI, TO, i1, i2] z (fun i h => IsZip h z TI TO .none ∧ IsTupOf2 h TI (.ref i1) (.ref i2) ∧ (∃ x y, IsTupOf2 h TO x y) ∧ StA t h i1 a i ∧ StA u h i2 b i) where
  mem := by simp
  obj := fun i h st c hc => by
    obtain ⟨hz, hTI, ⟨x, y, hTO⟩, h1, h2⟩ := st
    obtain ⟨o1, v1, _, e1, _, d1, _⟩ := h1.obj
    obtain ⟨o2, v2, _, e2, _, d2, _⟩ := h2.obj
    have e' : c = z ∨ c = TI ∨ c = TO ∨ c = i1 ∨ c = i2 := by simpa using hc
    rcases e' with rfl | rfl | rfl | rfl | rfl
    · exact ⟨_, hz, fun v q => nomatch q⟩
    · exact ⟨_, hTI, fun v q => nomatch q⟩
    · exact ⟨_, hTO, fun v q => nomatch q⟩
    · exact ⟨o1, e1, fun v q => by rw [d1] at q; cases q⟩
    · exact ⟨o2, e2, fun v q => by rw [d2] at q; cases q⟩
  keep := fun i h h' st k => by
    obtain ⟨hz, hTI, ⟨x, y, hTO⟩, h1, h2⟩ := st
    exact ⟨k z (by simp) _ hz, k TI (by simp) _ hTI, ⟨x, y, k TO (by simp) _ hTO⟩, h1.keep fun o q => k i1 (by simp) o q, h2.keep fun o q => k i2 (by simp) o q⟩
  item := by
    intro X hP hw hK hc i pins s σ H E I hf st hg
    subst hP hw hK
    obtain ⟨hz, hTI, ⟨x0, y0, hTO⟩, h1, h2⟩ := st
    obtain ⟨xs, ys, x, y, hqx, hqy, hx, hy⟩ := hg
    obtain ⟨its, rv, p⟩ := seqA I hqx
    obtain ⟨its2, rv2, p2⟩ := seqA I hqy
    obtain ⟨m, hm, rm⟩ := rv.get hx
    obtain ⟨n, hn, rn⟩ := rv2.get hy
    have l1 : i < its.toArray.size := by rw [List.size_toArray]; exact (List.getElem?_eq_some_iff.mp hm).1
    have l2 : i < its2.toArray.size := by rw [List.size_toArray]; exact (List.getElem?_eq_some_iff.mp hn).1
    have hzl : z < s.heap.objs.size := Heap.lt_size hz
    refine wpAny_pyNext_zipD2_item S (draws (prog := X.prog) (w := X.w) (A := X.A.in1) t (I.ok.hd hc) i1 a (h1.ne p) its.toArray) (draws (prog := X.prog) (w := X.w) (A := X.A.in1) u (I.ok.hd hc) i2 b (h2.ne p2) its2.toArray) hz hTI hTO ⟨h1, p⟩ ⟨h2, p2⟩ l1 l2 fun y1 y2 h' tk hP1 hP2 z' TO' s1' s2' hT hsz hk => ?_
    have e1 : m = y1 := Option.some.inj (hm.symm.trans (by simpa using hP1))
    have e2 : n = y2 := Option.some.inj (hn.symm.trans (by simpa using hP2))
    subst e1; subst e2
    refine ⟨_, rfl, wpAny_letOwnedTupleGo_zip (s := { s with heap := h', toks := tk }) z' fun h'' z'' sb => ?_⟩
    have hT2 : h''.get? s.heap.objs.size = some { cls := .type "tuple", data := .seq #[m, n] } := (sb.2 _ (Nat.ne_of_gt hzl)).trans hT
    have I1 : Inv X pins σ (upd H s.heap.objs.size (.tup [x, y])) { s with heap := h'', toks := tk } :=
      I.turnedNew (ch := [z, TI, TO, i1, i2]) (fun c o hb q => (sb.2 c (fun q' => hb (by simp [q']))).trans (hk c o (fun q' => hb (by simp [q'])) (fun q' => hb (by simp [q'])) (fun q' => hb (by simp [q'])) (fun q' => hb (by simp [q'])) q)) hf (Nat.le_refl _)
        ⟨by show 2 ≤ sizeLine; decide, [m, n], .cons rm (.cons rn .nil), ⟨_, hT2, rfl, _, rfl⟩⟩
    have n1 : i1 ≠ z := fun q => S.zf1 (by rw [q]; simp)
    have n2 : i2 ≠ z := fun q => S.zf2 (by rw [q]; simp)
    refine ⟨.ref s.heap.objs.size, _, I1, rfl, ⟨_, x, y, rfl, I.hok.fresh (Nat.le_refl _), rfl, fun l hl => by rw [seqA_inj I hl hqx]; exact hx, fun l hl => by rw [seqA_inj I hl hqy]; exact hy⟩, ⟨z'', ?_, ⟨m, n, ?_⟩, s1'.1.keep fun o q => (sb.2 _ n1).trans q, s2'.1.keep fun o q => (sb.2 _ n2).trans q⟩, fun c hcm => ?_⟩
    · exact (sb.2 _ S.TIz).trans (hk _ _ S.TIz S.TITO S.TIi1 S.TIi2 hTI)
    · exact (sb.2 _ S.TOz).trans TO'
    · have hlt : c < s.heap.objs.size := by
        have e' : c = z ∨ c = TI ∨ c = TO ∨ c = i1 ∨ c = i2 := by simpa using hcm
        rcases e' with rfl | rfl | rfl | rfl | rfl
        · exact hzl
        · exact Heap.lt_size hTI
        · exact Heap.lt_size hTO
        · obtain ⟨_, _, _, e1, _⟩ := h1.obj; exact Heap.lt_size e1
        · obtain ⟨_, _, _, e2, _⟩ := h2.obj; exact Heap.lt_size e2
      rw [upd_ne (Nat.ne_of_lt hlt)]
      exact (hf c hcm).1
  done := by
    intro X hP hw hK hc i pins s σ H E I hf st hg
    subst hP hw hK
    obtain ⟨hz, hTI, ⟨x0, y0, hTO⟩, h1, h2⟩ := st
    obtain ⟨xs, ys, hqx, hqy, l1, l2, hend⟩ := hg
    obtain ⟨its, rv, p⟩ := seqA I hqx
    obtain ⟨its2, rv2, p2⟩ := seqA I hqy
    have z1 : its.toArray.size = xs.length := by rw [List.size_toArray, rv.length]
    have z2 : its2.toArray.size = ys.length := by rw [List.size_toArray, rv2.length]
    refine wpAny_pyNext_zipD2_end S (draws (prog := X.prog) (w := X.w) (A := X.A.in1) t (I.ok.hd hc) i1 a (h1.ne p) its.toArray) (draws (prog := X.prog) (w := X.w) (A := X.A.in1) u (I.ok.hd hc) i2 b (h2.ne p2) its2.toArray) hz hTI hTO ⟨h1, p⟩ ⟨h2, p2⟩ (by omega) (by omega) (by omega) fun h' tk hk => ?_
    exact ⟨rfl, I.turnedL (t' := tk) (ch := [z, TI, TO, i1, i2]) (fun c o hb q => hk c o (fun q' => hb (by simp [q'])) (fun q' => hb (by simp [q'])) (fun q' => hb (by simp [q'])) (fun q' => hb (by simp [q'])) q) hf⟩
  self := fun A i s Q E st h => wpAny_pyIter_zip st.1 h
def iZipB (K : PySem.W.Frag) (ta : TA) : TI := fun σ H R => ta σ H fun vs H1 => ∃ t u a b xs ys, vs = [.ref a, .ref b] ∧ SqA t K H1 a xs ∧ SqA u K H1 b ys ∧ R (ItzA t u K a b) H1
theorem pi_zipB {X : Cx} {e e2 : Expr} {ta : TA} {p pos tpos : Pos} {elts : List Expr} {kk : Nat} (hg : Gl X "zip") (hm : X.mg "zip" = none) (ha : PA X [e, e2] ta)
    (hs : starEach [e, e2] X.env = (false, eval e X.env) :: starEach [e2] X.env := by rfl) (hpl : (backTo pos (starEach [e2] X.env)).any (·.1) = false := by rfl) :
    PI X (.Tuple elts kk tpos) (.Call (.Name "zip" p) [e, e2] [] pos) (iZipB X.K ta) := by
  refine ⟨fun pins s σ H R I h => Call_ (ld_blt I hg hm PyProof.Rows.boot_zip (PyProof.Rows.callWith_type1 (thn (ha.run pos pins s σ H _ I h) fun us s1 ⟨vs, H1, I1, r1, t, u, a, b, xs, ys, ex, hqx, hqy, q⟩ => ?_) hs hpl))⟩
  subst ex
  obtain ⟨v1, v2, rfl, ra, rb⟩ := vals2 r1
  cases (show v1 = Value.ref a from ra)
  cases (show v2 = Value.ref b from rb)
  obtain ⟨its, rv, p1⟩ := seqA I1 hqx
  obtain ⟨its2, rv2, p2⟩ := seqA I1 hqy
  have la : a < s1.heap.objs.size := by obtain ⟨_, e, _⟩ := p1.obj; exact Heap.lt_size e
  have lb : b < s1.heap.objs.size := by obtain ⟨_, e, _⟩ := p2.obj; exact Heap.lt_size e
  refine zip_begins2 (begins t a its.toArray) (begins u b its2.toArray) p1 p2 fun h' hz hTI hTO h1 h2 hsz hk => wpAny_pyIter_zip hz ?_
  refine ⟨s1.heap.objs.size + 4, [s1.heap.objs.size + 4, s1.heap.objs.size + 2, s1.heap.objs.size + 3, s1.heap.objs.size, s1.heap.objs.size + 1], _, _, H1, rfl, I1.kept (t' := s1.toks) hk,
    turn_zipA2 t u (zip_sep2 (fp1 := [a]) (fp2 := [b]) (fun c hc => by rw [List.mem_singleton.mp hc]; exact la) (fun c hc => by rw [List.mem_singleton.mp hc]; exact lb)) (Nat.ne_of_lt (Nat.lt_succ_self _)), ⟨hz, hTI, ⟨_, _, hTO⟩, st_new h1, st_new h2⟩, fun c hcm => ?_, q⟩
  have e' : c = s1.heap.objs.size + 4 ∨ c = s1.heap.objs.size + 2 ∨ c = s1.heap.objs.size + 3 ∨ c = s1.heap.objs.size ∨ c = s1.heap.objs.size + 1 := by simpa using hcm
  have hle : s1.heap.objs.size ≤ c := by
    rcases e' with z | z | z | z | z <;> rw [z] <;> first | exact Nat.le_refl _ | exact Nat.le_add_right _ _
  exact I1.fpOk hle (I1.hok.fresh hle)

/-! ### as walks of data -/
section
variable {T : Tab} {X : Cx}
theorem getS_kd {K : PySem.W.Frag} {F : Hp} {v : V} {d : D} (r : Rep T K F v d) : ∃ t, ∀ G F' H μ xs, Le F F' → StR T K G F' H μ → getS μ d = some xs → ∃ a vs, v = .ref a ∧ SqA t K H a vs ∧ Reps T K F' vs xs := by
  cases d with
  | tup ys =>
    refine ⟨true, fun G F' H μ xs l h e => ?_⟩
    cases e
    cases r with
    | tup h1 r1 => exact ⟨_, _, rfl, h.sqT (l.sqT h1), r1.mono l⟩
  | lst ys => exact ⟨false, fun G F' H μ xs l h e => let ⟨a, vs, h1, h2, h3⟩ := getL_ok h (r.mono l) e; ⟨a, vs, h1, h2, h3⟩⟩
  | cell a => exact ⟨false, fun G F' H μ xs l h e => let ⟨a, vs, h1, h2, h3⟩ := getL_ok h (r.mono l) e; ⟨a, vs, h1, h2, h3⟩⟩
  | _ => exact ⟨false, fun G F' H μ xs l h e => by cases e⟩
def enumD (xs : List D) : List D := xs.mapIdx fun i x => .tup [.int i, x]
def zipD (xs ys : List D) : List D := List.zipWith (fun x y => .tup [x, y]) xs ys
def dEnum (m : DM) : DI := fun env μ Q E => m env μ (fun d μ1 => onS2 (getS μ1 d) fun xs => Q ⟨enumD xs, fun μ2 => getS μ2 d = some xs⟩ μ1) E
def dZip (ma mb : DM) : DI := fun env μ Q E => ma env μ (fun d μ1 => mb env μ1 (fun e μ2 => onS2 (getS μ2 d) fun xs => onS2 (getS μ2 e) fun ys => Q ⟨zipD xs ys, fun μ3 => getS μ3 d = some xs ∧ getS μ3 e = some ys⟩ μ2) E) E
theorem new_tup {K : PySem.W.Frag} {G F H : Hp} {μ : Sto} {p : Addr} {vs : List V} {ds : List D} (h : StR T K G F H μ) (n : H p = none) (r : Reps T K F vs ds) : ∃ F', Le F F' ∧ StR T K G F' (upd H p (.tup vs)) μ ∧ Rep T K F' (.ref p) (.tup ds) := by
  have e := Le.new (o := .tup vs) (h.fresh n)
  exact ⟨_, e, h.new n, .tup (SqT.of upd_same) (r.mono e)⟩
theorem si_enum {e : Expr} {m : DM} {p pos tpos : Pos} {elts : List Expr} {kk : Nat} (hg : Gl X "enumerate") (hm : X.mg "enumerate" = none) (h : SE T X e m) (hs : starEach [e] X.env = [(false, eval e X.env)] := by rfl) : SI T X (.Tuple elts kk tpos) (.Call (.Name "enumerate" p) [e] [] pos) (dEnum m) := by
  refine ⟨fun W tk => PI.imp (pi_enumA hg hm (pa_cons (h.run W tk) pa_nil hs) hs) fun σ H R h => ?_⟩
  obtain ⟨F, env, μ, Q0, E0, hE, hS, hm, hQ, hX⟩ := h
  refine ⟨F, env, μ, _, E0, hE, hS, hm, fun d μ1 q F1 H1 v l hS1 rv => ?_, hX⟩
  obtain ⟨xs, e1, q⟩ := onS2_of q
  obtain ⟨t, kd⟩ := getS_kd rv
  obtain ⟨a, vs, rfl, hq, r1⟩ := kd _ F1 H1 μ1 xs (Le.refl _) hS1 e1
  have hl : (enumD xs).length = xs.length := by simp [enumD]
  refine ⟨t, a, vs, rfl, hq, hQ _ μ1 q F1 H1 _ l hS1 ⟨fun i H2 hi ⟨G, F', μ2, l2, s2, k2⟩ => ?_, fun H2 ⟨G, F', μ2, l2, s2, k2⟩ => ?_, fun i H2 v2 H3 hi _ y G F' μ2 l2 s2 k2 => ?_⟩⟩
  · obtain ⟨a', vs', e', hq', r'⟩ := kd G F' H2 μ2 xs l2 s2 k2
    cases e'
    have hi' : i < vs'.length := by rw [r'.length, ← hl]; exact hi
    exact ⟨vs', vs'[i], hq', by simp [hi']⟩
  · obtain ⟨a', vs', e', hq', r'⟩ := kd G F' H2 μ2 xs l2 s2 k2
    cases e'
    exact ⟨vs', hq', by rw [r'.length, hl]⟩
  · obtain ⟨p, x, rfl, n, rfl, hx⟩ := y
    obtain ⟨a', vs', e', hq', r'⟩ := kd G F' H2 μ2 xs l2 s2 k2
    cases e'
    obtain ⟨dx, hdx, rx⟩ := r'.getV (hx vs' hq')
    obtain ⟨F2, lF, sF, rF⟩ := new_tup (ds := [.int i, dx]) s2 n (.cons (.int _) (.cons rx .nil))
    exact ⟨F2, lF, sF, _, by simp [enumD, hdx], rF⟩
theorem si_zip {a b : Expr} {ma mb : DM} {p pos tpos : Pos} {elts : List Expr} {kk : Nat} (hg : Gl X "zip") (hm : X.mg "zip" = none) (h : SE T X a ma) (h' : SE T X b mb) (hs : starEach [a, b] X.env = (false, eval a X.env) :: starEach [b] X.env := by rfl)
    (hs2 : starEach [b] X.env = (false, eval b X.env) :: starEach [] X.env := by rfl) (hpl : (backTo pos (starEach [b] X.env)).any (·.1) = false := by rfl) : SI T X (.Tuple elts kk tpos) (.Call (.Name "zip" p) [a, b] [] pos) (dZip ma mb) := by
  refine ⟨fun W tk => PI.imp (pi_zipB hg hm (pa_cons (h.run W tk) (pa_cons (h'.run W tk) pa_nil hs2) hs) hs hpl) fun σ H R h => ?_⟩
  obtain ⟨F, env, μ, Q0, E0, hE, hS, hm, hQ, hX⟩ := h
  refine ⟨F, env, μ, _, E0, hE, hS, hm, fun d μ1 q F1 H1 v l hS1 rv => ?_, hX⟩
  refine ⟨F1, env, μ1, _, E0, hE.mono l, hS1, q, fun e μ2 q2 F2 H2 w l2 hS2 rw' => ?_, hX.mono l⟩
  obtain ⟨xs, e1, q3⟩ := onS2_of q2
  obtain ⟨ys, e2, q3⟩ := onS2_of q3
  obtain ⟨t, kd⟩ := getS_kd (rv.mono l2)
  obtain ⟨u, ke⟩ := getS_kd rw'
  obtain ⟨a, vs, rfl, hq, r1⟩ := kd _ F2 H2 μ2 xs (Le.refl _) hS2 e1
  obtain ⟨b, ws, rfl, hp, r2⟩ := ke _ F2 H2 μ2 ys (Le.refl _) hS2 e2
  have hl : (zipD xs ys).length = min xs.length ys.length := by simp [zipD]
  refine ⟨t, u, a, b, vs, ws, rfl, hq, hp, hQ _ μ2 q3 F2 H2 _ (l.trans l2) hS2 ⟨fun i H3 hi ⟨G, F', μ3, l3, s3, k3, k4⟩ => ?_, fun H3 ⟨G, F', μ3, l3, s3, k3, k4⟩ => ?_, fun i H3 v3 H4 hi _ y G F' μ3 l3 s3 k3 => ?_⟩⟩
  · obtain ⟨a', vs', e', hq', r'⟩ := kd G F' H3 μ3 xs l3 s3 k3
    cases e'
    obtain ⟨b', ws', e', hp', r''⟩ := ke G F' H3 μ3 ys l3 s3 k4
    cases e'
    have hi : i < (zipD xs ys).length := hi
    have hi1 : i < vs'.length := by rw [r'.length]; omega
    have hi2 : i < ws'.length := by rw [r''.length]; omega
    exact ⟨vs', ws', vs'[i], ws'[i], hq', hp', by simp [hi1], by simp [hi2]⟩
  · obtain ⟨a', vs', e', hq', r'⟩ := kd G F' H3 μ3 xs l3 s3 k3
    cases e'
    obtain ⟨b', ws', e', hp', r''⟩ := ke G F' H3 μ3 ys l3 s3 k4
    cases e'
    refine ⟨vs', ws', hq', hp', ?_⟩
    rw [r'.length, r''.length]
    show (zipD xs ys).length ≤ xs.length ∧ (zipD xs ys).length ≤ ys.length ∧ ((zipD xs ys).length = xs.length ∨ (zipD xs ys).length = ys.length)
    omega
  · obtain ⟨k3, k4⟩ := k3
    obtain ⟨p, x, y, rfl, n, rfl, hx, hy⟩ := y
    obtain ⟨a', vs', e', hq', r'⟩ := kd G F' H3 μ3 xs l3 s3 k3
    cases e'
    obtain ⟨b', ws', e', hp', r''⟩ := ke G F' H3 μ3 ys l3 s3 k4
    cases e'
    obtain ⟨dx, hdx, rx⟩ := r'.getV (hx vs' hq')
    obtain ⟨dy, hdy, ry⟩ := r''.getV (hy ws' hp')
    obtain ⟨F4, lF, sF, rF⟩ := new_tup (ds := [dx, dy]) s3 n (.cons rx (.cons ry .nil))
    exact ⟨F4, lF, sF, _, by simp [zipD, List.getElem?_zipWith, hdx, hdy], rF⟩
end
end DL

/-! DL20: a new instance by keywords alone. -/
namespace DL
open PySem PySem.Spec PyProof.Rows L2
/-- the values at these places -/
def pick {α : Type} : List Nat → List α → List α
  | [], _ => []
  | i :: is, ws => match ws[i]? with
    | some x => x :: pick is ws
    | none => pick is ws
theorem Reps.pick {T : Tab} {K : PySem.W.Frag} {F : Hp} {vs : List V} {ds : List D} (r : Reps T K F vs ds) : ∀ is : List Nat, Reps T K F (DL.pick is vs) (DL.pick is ds)
  | [] => .nil
  | i :: is => by
    unfold DL.pick
    cases e : ds[i]? with
    | some d =>
      obtain ⟨v, e2, r2⟩ := r.get e
      rw [e2]
      exact .cons r2 (Reps.pick r is)
    | none =>
      have : vs[i]? = none := by
        rw [List.getElem?_eq_none_iff] at e ⊢
        rw [r.length]; exact e
      rw [this]
      exact Reps.pick r is
theorem Vals.pick {vs : List V} {us : List Value} (r : Vals vs us) : ∀ is : List Nat, Vals (DL.pick is vs) (DL.pick is us)
  | [] => .nil
  | i :: is => by
    unfold DL.pick
    cases e : vs[i]? with
    | some d =>
      obtain ⟨v, e2, r2⟩ := Vals.get r e
      rw [e2]
      exact .cons r2 (Vals.pick r is)
    | none =>
      have : us[i]? = none := by
        rw [List.getElem?_eq_none_iff] at e ⊢
        rw [← Vals.length r]; exact e
      rw [this]
      exact Vals.pick r is
theorem kbn_of {K : PySem.W.Frag} {x qual : Str} {params : Arguments} {body : List Stmt} {scope : Scope} {kws : List (Str × V)} {f : Addr} {fd : FuncData} {ps : List Str} (F : FunD K x qual params body scope [] kws f fd) (n : Nat) (ks : List Str) (is : List Nat)
    (h : ∀ (kV doc pm : Value) (an : Option Addr) (cdv ct : Value) (us ws : List Value), us.length = n → ws.length = ks.length → bindArgs (PySem.W.fnOf x qual params body scope .none kV doc pm an cdv ct) ⟨us, ks.zip ws⟩ = pure (ps.zip (us ++ pick is ws))) :
    KBn K fd ps n ks (fun us ws => us ++ pick is ws) (fun vs zs => vs ++ pick is zs) := by
  obtain ⟨oc, od, dV, kV, doc, pm, an, cdv, ct, osl, rfl, lk, hcd, hD, hK⟩ := F.ex
  rcases hD with ⟨_, rfl⟩ | ⟨e, _⟩
  · exact ⟨fun s us ws X l1 l2 => BindsTo.of_looks fun M => PySem.W.Looks.of_pure (h kV doc pm an cdv ct us ws l1 l2), fun r1 r2 => r1.append (Vals.pick r2 is)⟩
  · exact absurd rfl e
/-- a class with its __init__, for calls by these keywords -/
structure MkrK (T : Tab) (P : Program) (w : World) (K : PySem.W.Frag) (mg : Str → Option Value) (base : Heap) (x : Str) (c : Nat) (k : Nat) (ks : List Str) (is : List Nat) (fm : DF) : Prop where
  ex : ∃ f fd ps, mg x = some (.ref (T.cls c)) ∧ Mk K (T.cls c) f ∧ KBn K fd ps 1 ks (fun us ws => us ++ pick is ws) (fun vs zs => vs ++ pick is zs) ∧ FnOk P w K mg base (L2.CX P w) k f fd ps (spD T K fm)
structure SKw (T : Tab) (X : Cx) (kws : List Keyword) (m : DA) : Prop where
  run : ∀ W, TK X W → PK X kws (tA T X.K W m)
theorem PK.imp {X : Cx} {e : List Keyword} {t t' : TA} (h : PK X e t) (k : ∀ σ H Q, t' σ H Q → t σ H Q) : PK X e t' := ⟨fun p pins s σ H Q I q => h.run p pins s σ H Q I (k _ _ _ q)⟩
def dPick (n : Nat) (is : List Nat) (mt : DA) : DA := fun env μ Q E => mt env μ (fun ds μ1 => Nat.beq ds.length n = true ∧ Q (pick is ds) μ1) E
section
variable {T : Tab} {X : Cx} {x : Str} {c k : Nat} {ks : List Str} {is : List Nat} {fm : DF} {e : Expr} {ma : DM} {mt : DA} {p pos kpos : Pos} {nm : Option Str} {kws : List Keyword}
theorem sk_nil : SKw T X [] dNil := ⟨fun W _ => PK.imp pk_nil fun σ H Q ⟨F, env, μ, Q0, E0, hE, hS, hm, hQ, _⟩ => hQ [] μ hm F H [] (Le.refl F) hS .nil⟩
theorem sk_cons (ha : SE T X e ma) (hr : SKw T X kws mt) : SKw T X (⟨nm, e, kpos⟩ :: kws) (dCons ma mt) := by
  refine ⟨fun W tk => PK.imp (pk_cons (ha.run W tk) (hr.run W tk)) fun σ H Q h => ?_⟩
  obtain ⟨F, env, μ, Q0, E0, hE, hS, hm, hQ, hX⟩ := h
  refine ⟨F, env, μ, _, E0, hE, hS, hm, fun d μ1 q F1 H1 v l hS1 rv => ?_, hX⟩
  refine ⟨F1, env, μ1, _, E0, hE.mono l, hS1, q, fun xs μ2 q2 F2 H2 vs l2 hS2 rs => ?_, hX.mono l⟩
  exact hQ _ μ2 q2 F2 H2 _ (l.trans l2) hS2 (.cons (rv.mono l2) rs)
theorem tA_pick {K : PySem.W.Frag} {W : WG} {n : Nat} {σ : L2.St} {H : Hp} {Q : List V → Hp → Prop} (h : tA T K W (dPick n is mt) σ H Q) : tA T K W mt σ H (fun zs H1 => zs.length = n ∧ Q (pick is zs) H1) := by
  obtain ⟨F, env, μ, Q0, E0, hE, hS, hm, hQ, hX⟩ := h
  exact ⟨F, env, μ, _, E0, hE, hS, hm, fun ds μ1 q F1 H1 zs l hS1 rs => ⟨rs.length.trans (Nat.eq_of_beq_eq_true q.1), hQ _ μ1 q.2 F1 H1 _ l hS1 (rs.pick is)⟩, hX⟩
theorem se_makeK (fr : Bool) {n : Nat} (G : MkrK T X.prog X.w X.K X.mg X.base x c k ks is fm) (hr : Room (k + 1) X.A) (hg : Gl X x) (hkw : SKw T X kws mt) (hall : (backToKw pos (keywordEach kws X.env)).all (·.1.isSome) = true := by rfl)
    (hks : (backToKw pos (keywordEach kws X.env)).filterMap (·.1) = ks := by rfl) (hdb : (x == ("__debug__" : Str)) = false := by decide) (hn : n = ks.length := by rfl)
    (hpl : ((backTo pos (starEach [] X.env)).any (·.1) || (backToKw pos (keywordEach kws X.env)).any (·.1.isNone)) = false := by rfl) : SE T X (.Call (.Name x p) [] kws pos) (dMake fr c fm (dPick n is mt)) := by
  subst hn
  obtain ⟨f, fd, ps, hm, M, hb, F0⟩ := G.ex
  refine ⟨fun W tk => ⟨fun pins s σ H Q I h => ?_⟩⟩
  refine wpAny_Call_Name_kw (ld_glob I hg hm ?_ hdb)
  refine PySem.W.callWith_KW0 (h₀ := X.base) I.ok.mod.kin M.kp hall (thn ((hkw.run W tk).run pos pins s σ H _ I (tA_pick (tE_make h))) fun ws s2 ⟨zs, H2, I2, rz, l1, q2⟩ => ⟨I2.kIn, ?_⟩) hpl
  rw [hks]
  show wpAny _ _ (call (.ref (T.cls c)) [] (ks.zip ws)) _ _ _
  have hq := q2 (s2.heap.objs.size + 1) s2.heap.objs.size (I2.hok.fresh (Nat.le_succ _)) (I2.hok.fresh (Nat.le_refl _)) (Nat.ne_of_lt (Nat.lt_succ_self _))
  have J := Inv.made (C := T.cls c) I2
  have r2 : Vals (V.ref (s2.heap.objs.size + 1) :: pick is zs) (Value.ref (s2.heap.objs.size + 1) :: pick is ws) := .cons rfl (Vals.pick rz is)
  have e2 : ws.length = ks.length := rz.length.symm.trans l1
  refine wpAny_call (make_map (f := f) I2.kIn M.makes M.init (beq_iff_eq.mp M.fn) (codeAny_mono (F0.run _ X.stack _ _ ⟨[Value.ref (s2.heap.objs.size + 1)], ks.zip ws⟩ (Value.ref (s2.heap.objs.size + 1) :: pick is ws) _ _ (WE W.W σ) (hr.make _ [] (ks.zip ws))
    (J.env0.make _ [] (ks.zip ws)) (hb.to _ [Value.ref (s2.heap.objs.size + 1)] ws J.kIn rfl e2) r2 hq) fun r s' hq' => ?_))
  cases r with
  | error e => exact passAt tk.tk σ pins _ _ e s' J hq'
  | ok fl =>
    cases fl with
    | ret u =>
      obtain ⟨v, H', I3, rv, ev, q3⟩ := J.after hq'
      subst ev
      exact ⟨rv, ⟨V.ref (s2.heap.objs.size + 1), H', I3, rfl, q3⟩⟩
    | next => exact False.elim hq'
    | brk => exact False.elim hq'
    | cont => exact False.elim hq'
end
end DL

/-! DL21: constants, freezing, an empty dict, tables of fields, own == by fields. -/
namespace DL
open PySem PySem.Spec PyProof.Rows L2
section
variable {T : Tab} {X : Cx} {e : Expr} {m : DM} {pos : Pos}
/-- a constant expression -/
theorem se_cst {v : Int} (h : SE T X e m) (k : ∀ env μ (Q : DQ) (E : DX), Q (.int v) μ → m env μ Q E) : SE T X e (dC (.int v)) :=
  ⟨fun W tk => PE.imp (h.run W tk) fun σ H Q ⟨F, env, μ, Q0, E0, hE, hS, hm, hQ, hX⟩ => ⟨F, env, μ, Q0, E0, hE, hS, k env μ Q0 E0 hm, hQ, hX⟩⟩
/-- a cell is frozen: it is not changed from here on -/
def dFrz (m : DM) : DM := fun env μ Q E => m env μ (fun d μ1 => match d with
  | .cell a => (match μ1 a with
    | some (.lst xs) => Q (.lst xs) (delm μ1 a)
    | some (.dK kvs) => Q (.dK kvs) (delm μ1 a)
    | _ => False)
  | d => Q d μ1) E
theorem se_frz (h : SE T X e m) : SE T X e (dFrz m) := by
  refine ⟨fun W tk => PE.imp (h.run W tk) fun σ H Q h => ?_⟩
  obtain ⟨F, env, μ, Q0, E0, hE, hS, hm, hQ, hX⟩ := h
  refine ⟨F, env, μ, _, E0, hE, hS, hm, fun d μ1 q F1 H1 v l hS1 rv => ?_, hX⟩
  cases d with
  | cell a =>
    cases rv
    cases ec : μ1 a with
    | none => simp only [ec] at q
    | some c =>
      obtain ⟨hF, o, eo, hc⟩ := hS1.cell a c ec
      cases c with
      | lst xs =>
        simp only [ec] at q
        obtain ⟨vs, h1, r1⟩ := hS1.cellL ec
        have e := Le.new (o := .lst vs) hF
        exact hQ _ _ q _ H1 _ (l.trans e) (hS1.freeze ec h1) (.lst (SqL.of upd_same) (r1.mono e))
      | dK kvs =>
        simp only [ec] at q
        obtain ⟨vs, h1, r1⟩ := hS1.cellK ec
        have e := Le.new (o := .dK vs) hF
        exact hQ _ _ q _ H1 _ (l.trans e) (hS1.freeze ec h1) (.dK upd_same (r1.mono e))
      | _ => simp only [ec] at q
  | _ => exact hQ _ μ1 q F1 H1 v l hS1 rv
/-- {} -/
def dNewK (m : Bool) : DM := fun _ μ Q _ => newK m [] μ Q
theorem se_dnew (m : Bool) : SE T X (.Dict [] [] pos) (dNewK m) := by
  refine ⟨fun W tk => PE.imp pe_dnewK fun σ H Q h p hp => ?_⟩
  obtain ⟨F, env, μ, Q0, E0, hE, hS, hm, hQ, hX⟩ := h
  cases m with
  | false =>
    have e := Le.new (o := .dK []) (hS.fresh hp)
    exact hQ _ μ hm _ _ _ e (hS.new hp) (.dK upd_same .nil)
  | true => exact hQ _ _ (hm p (hS.noCell hp)) F _ _ (Le.refl F) (hS.newCell (c := .dK []) (o := .dK []) hp .nil) (.cell p)
end
/-! ### no own == -/
theorem own0 {T : Tab} {P : Program} {w : World} {K : PySem.W.Frag} {mg : Str → Option Value} {base : Heap} : ∀ c q, (fun _ => none : ETab) c = some q → OwnE T P w K mg base 0 c q := fun _ _ h => by cases h
theorem no0 : ∀ c q, (fun _ => none : ETab) c = some q → False := fun _ _ h => by cases h
theorem yes {S : ETab} : ∀ c q, S c = some q → True := fun _ _ _ => trivial

/-! ### comprehensions' scopes -/
def blkB (N : List Str) (sc scope : Scope) (own : List (Str × Nat)) : Bool := decide (scope.kind = .function) && (scope.names.all (fun y => decide (scope.names.lookup y.1 = some y.2)) && (own.all (fun p => decide (N[p.2]? = some p.1)) &&
  (scope.names.all (fun y => !decide (y.2 = .free) || (decide (sc.names.lookup y.1 = some .cell) || decide (sc.names.lookup y.1 = some .free))) &&
    scope.names.all (fun y => !(decide (y.2 = .local) || decide (y.2 = .cell)) || (decide (y.1 ∈ own.map (·.1)) || decide (y.1 ∉ N))))))
theorem blkB_ok {N : List Str} {sc scope : Scope} {own : List (Str × Nat)} (h : blkB N sc scope own = true) : BlkOk N sc scope own := by
  unfold blkB at h
  simp only [Bool.and_eq_true, List.all_eq_true, decide_eq_true_eq, Bool.or_eq_true, Bool.not_eq_true', decide_eq_false_iff_not] at h
  obtain ⟨h1, h2, h3, h4, h5⟩ := h
  refine ⟨h1, h2, h3, fun y hy hf => ?_, fun y hy hl => ?_⟩
  · rcases h4 y hy with q | q
    · exact absurd hf q
    · exact q
  · rcases h5 y hy with q | q
    · rcases hl with e | e
      · rw [e] at q; simp at q
      · rw [e] at q; simp at q
    · exact q

section
variable {T : Tab} {X : Cx} {g : DG} {t : DT} {me : DM} {ws vs : List Nat}
theorem se_lcV (m : Bool) {tg iter elt : Expr} {ifs : List Expr} {scope : Scope} {own : List (Str × Nat)} {pos : Pos} {mi : DI} (hc : X.calm = true) (hN : X.N.Nodup) (hi : SI T X tg iter mi) (ok : BlkOk X.N X.env.scope scope own)
    (hg : ∀ s H C cl fp, SG T (X.blk s H scope (compEnvC scope cl C X.env) fp) tg ws g) (ht : ∀ s H C cl fp, STs T (X.blk s H scope (compEnvC scope cl C X.env) fp) ifs t)
    (he : ∀ s H C cl fp, SE T (X.blk s H scope (compEnvC scope cl C X.env) fp) elt me) (hv : own.map (·.2) = vs := by rfl) (hsub : ∀ i ∈ ws, i ∈ vs := by decide) (hs : ∀ x, foldedSetIterable iter X.env x = pure x := by intro _; rfl) :
    SE T X (.ListComp elt [⟨tg, iter, ifs, 0⟩] scope pos) (dLc m mi g t me vs) := by
  subst hv
  exact se_lc m hc hN hi ok hg ht he hsub hs
theorem ss_setLcV (m : Bool) (i : Nat) {y : Str} {py : Pos} {tg iter elt : Expr} {ifs : List Expr} {scope : Scope} {own : List (Str × Nat)} {pos spos : Pos} {mi : DI} (hc : X.calm = true) (hN : X.N.Nodup) (hi : SI T X tg iter mi) (ok : BlkOk X.N X.env.scope scope own)
    (hg : ∀ s H C cl fp, SG T (X.blk s H scope (compEnvC scope cl C X.env) fp) tg ws g) (ht : ∀ s H C cl fp, STs T (X.blk s H scope (compEnvC scope cl C X.env) fp) ifs t)
    (he : ∀ s H C cl fp, SE T (X.blk s H scope (compEnvC scope cl C X.env) fp) elt me)
    (hsw : swapsWith (.ListComp elt [⟨tg, iter, ifs, 0⟩] scope pos) (some (.Name y py)) spos.line X.env = pure true) (hy : X.N[i]? = some y := by rfl) (hyl : X.env.scope.names.lookup y = some .local := by rfl) (hv : own.map (·.2) = vs := by rfl)
    (hsub : ∀ i ∈ ws, i ∈ vs := by decide) (hs : ∀ x, foldedSetIterable iter X.env x = pure x := by intro _; rfl) :
    SS T X (.Assign [.Name y py] (.ListComp elt [⟨tg, iter, ifs, 0⟩] scope pos) spos) (dAsg (dLc m mi g t me vs) (gdName i)) := by
  subst hv
  exact ss_setLc m i hc hN hi ok hg ht he hsw hy hyl hsub hs
end
/-! ### names of fields -/
/-- the n-th name; past the last one, a name of its own -/
def fldOf (l : List Str) (n : Nat) : Str := match l[n]? with
  | some s => s
  | none => ⟨Array.replicate (1000 + n) 0⟩
def fldsB (l : List Str) : Bool := decide l.Nodup && l.all fun s => decide (s.length < 1000)
theorem fldOf_inj {l : List Str} (h : fldsB l = true) : ∀ i j, fldOf l i = fldOf l j → i = j := fun i j e => by
  obtain ⟨h1, h2⟩ := Bool.and_eq_true_iff.mp h
  have h1 := of_decide_eq_true h1
  have sz : ∀ {k : Nat} {s : Str}, l[k]? = some s → s.length < 1000 := fun {k s} q => of_decide_eq_true (List.all_eq_true.mp h2 s (List.mem_of_getElem? q))
  have rp : ∀ k : Nat, (⟨Array.replicate (1000 + k) 0⟩ : Str).length = 1000 + k := fun k => Array.size_replicate
  unfold fldOf at e
  cases hi : l[i]? with
  | some s =>
    cases hj : l[j]? with
    | some t =>
      rw [hi, hj] at e
      have e : s = t := e
      subst e
      have li : i < l.length := (List.getElem?_eq_some_iff.mp hi).1
      have lj : j < l.length := (List.getElem?_eq_some_iff.mp hj).1
      exact nd_ix h1 hi hj
    | none =>
      rw [hi, hj] at e
      have e : s = ⟨Array.replicate (1000 + j) 0⟩ := e
      have := sz hi
      rw [e, rp] at this
      omega
  | none =>
    cases hj : l[j]? with
    | some t =>
      rw [hi, hj] at e
      have e : (⟨Array.replicate (1000 + i) 0⟩ : Str) = t := e
      have := sz hj
      rw [← e, rp] at this
      omega
    | none =>
      rw [hi, hj] at e
      have e : (⟨Array.replicate (1000 + i) 0⟩ : Str) = ⟨Array.replicate (1000 + j) 0⟩ := e
      have := congrArg Str.length e
      rw [rp, rp] at this
      omega
theorem fldOf_no {l : List Str} {m : Str} (h : (decide (m ∉ l) && decide (m.length < 1000)) = true) : ∀ i, fldOf l i ≠ m := fun i e => by
  obtain ⟨h1, h2⟩ := Bool.and_eq_true_iff.mp h
  have h1 := of_decide_eq_true h1
  have h2 := of_decide_eq_true h2
  unfold fldOf at e
  cases hi : l[i]? with
  | some s => rw [hi] at e; have e : s = m := e; subst e; exact h1 (List.mem_of_getElem? hi)
  | none =>
    rw [hi] at e
    have e : (⟨Array.replicate (1000 + i) 0⟩ : Str) = m := e
    rw [← e] at h2
    have rp : (⟨Array.replicate (1000 + i) 0⟩ : Str).length = 1000 + i := Array.size_replicate
    rw [rp] at h2
    omega
/-! ### own == by fields -/
def fldsD : List Nat → List (Nat × D) → Option (List D)
  | [], _ => some []
  | n :: ns, fs => match lk fs n with
    | some d => (fldsD ns fs).map (d :: ·)
    | none => none
def qFld (S : ETab) (n : Nat) (fl : List Nat) : QF := fun fs gs => match fldsD fl fs, fldsD fl gs with
  | some xs, some ys => eqL (eqD S n) xs ys
  | _, _ => none
theorem fldsD_rep {T : Tab} {K : PySem.W.Frag} {F : Hp} {vs : List (Str × V)} {fs gs : List (Nat × D)} (r : RepF T K F vs fs) (r' : RepF T K F vs gs) : ∀ {fl : List Nat} {xs ys : List D}, fldsD fl fs = some xs → fldsD fl gs = some ys → ∃ us, Reps T K F us xs ∧ Reps T K F us ys
  | [], xs, ys, h, h' => by cases h; cases h'; exact ⟨[], .nil, .nil⟩
  | n :: fl, xs, ys, h, h' => by
    unfold fldsD at h h'
    cases e : lk fs n with
    | none => rw [e] at h; cases h
    | some d =>
      rw [e] at h
      cases e' : lk gs n with
      | none => rw [e'] at h'; cases h'
      | some d' =>
        rw [e'] at h'
        obtain ⟨v, hv, rd⟩ := r.lk e
        obtain ⟨v', hv', rd'⟩ := r'.lk e'
        rw [hv] at hv'
        cases hv'
        obtain ⟨xs', hx, rfl⟩ := Option.map_eq_some_iff.mp h
        obtain ⟨ys', hy, rfl⟩ := Option.map_eq_some_iff.mp h'
        obtain ⟨us, r1, r2⟩ := fldsD_rep r r' hx hy
        exact ⟨v :: us, .cons rd r1, .cons rd' r2⟩
theorem qFld_same {T : Tab} {K : PySem.W.Frag} {S : ETab} {n : Nat} {fl : List Nat} (sm : ∀ c q, S c = some q → SameQ T K q) : SameQ T K (qFld S n fl) := by
  intro fs gs b h X pins σ F H s eK I l vs r r'
  subst eK
  unfold qFld at h
  cases e : fldsD fl fs with
  | none => simp only [e] at h; cases h
  | some xs =>
    cases e' : fldsD fl gs with
    | none => simp only [e, e'] at h; cases h
    | some ys =>
      simp only [e, e'] at h
      obtain ⟨us, r1, r2⟩ := fldsD_rep r r' e e'
      exact same_eqL (X := X) (fun h rd re => same_run sm I l h rd re) h r1 r2
end DL

/-! DL22: the readings, taken apart from the front (plain Lean, no program). -/
namespace DL
open PySem PySem.Spec L2
/-- the ends with another next -/
def KN (K : DEnds) (n : Env' → Sto → Prop) : DEnds := ⟨n, K.rt, K.bk, K.ct, K.ex⟩
/-- the ends of a def -/
def KD (Q : DQ) (E : DX) : DEnds := ⟨fun _ μ' => fin Q .non μ', fun d μ' => fin Q d μ', fun _ _ => False, fun _ _ => False, fun x _ μ' => finX E x μ'⟩
/-- behind a list's method's receiver -/
def lmK (r : DMt) (mt : DA) (env : Env') (Q : DQ) (E : DX) : DQ := fun x μ1 => match x with
  | .cell a => (∃ xs, μ1 a = some (.lst xs)) ∧ mt env μ1 (fun ds μ2 => ∃ xs, μ2 a = some (.lst xs) ∧ r xs ds μ2 (fun d ys => Q d (upm μ2 a (.lst ys)))) E
  | _ => False
def fzK (Q : DQ) : DQ := fun d μ1 => match d with
  | .cell a => (match μ1 a with
    | some (.lst xs) => Q (.lst xs) (delm μ1 a)
    | some (.dK kvs) => Q (.dK kvs) (delm μ1 a)
    | _ => False)
  | d => Q d μ1
/-- a bool -/
def tB (Q : Bool → Sto → Prop) : DQ := fun d μ1 => match d with
  | .bl b => Q b μ1
  | _ => False
section
variable {K : DEnds} {n : Env' → Sto → Prop} {env : Env'} {μ : Sto} {Q : DQ} {E : DX} {d x y : D} {xs ys : List D} {i j : Int} {k : Nat} {a : Addr} {b : Bool} {A B : Prop} {s sb : DS} {m ma mb mc : DM} {mt : DA} {t u : DT} {S : ETab} {f : Bool → Bool} {P : Bool → Sto → Prop}
theorem I_KNnx (h : n env μ) : (KN K n).nx env μ := h
theorem I_KNrt (h : K.rt d μ) : (KN K n).rt d μ := h
theorem I_KNbk (h : K.bk env μ) : (KN K n).bk env μ := h
theorem I_KNct (h : K.ct env μ) : (KN K n).ct env μ := h
theorem I_KNex {x : Exn} (h : K.ex x env μ) : (KN K n).ex x env μ := h
theorem I_KDnx (h : fin Q .non μ) : (KD Q E).nx env μ := h
theorem I_KDrt (h : fin Q d μ) : (KD Q E).rt d μ := h
theorem I_KDex {x : Exn} (h : finX E x μ) : (KD Q E).ex x env μ := h
theorem I_def {p N : Nat} {ds : List D} (h : ds.length = p) (q : s (stE N ds) μ (KD Q E)) : dDef p N s ds μ Q E := ⟨h, q⟩
theorem I_seq (h : s env μ (KN K fun e m => sb e m K)) : dSeq s sb env μ K := h
theorem I_next (h : K.nx env μ) : dNext env μ K := h
theorem I_asg {g : DG} (h : m env μ (fun d μ1 => g d env μ1 K.nx) (fun x μ1 => K.ex x env μ1)) : dAsg m g env μ K := h
theorem I_drop (h : m env μ (fun _ μ1 => K.nx env μ1) (fun x μ1 => K.ex x env μ1)) : dDrop m env μ K := h
theorem I_ret (h : m env μ K.rt (fun x μ1 => K.ex x env μ1)) : dRet m env μ K := h
theorem I_ifs (h : t env μ (fun c μ1 => br c (s env μ1 K) (sb env μ1 K)) (fun x μ1 => K.ex x env μ1)) : dIfS t s sb env μ K := h
theorem I_gname {i : Nat} {n : Env' → Sto → Prop} (h : n (env.set i (some d)) μ) : gdName i d env μ n := h
theorem I_var {i : Nat} (e : env[i]? = some (some d)) (h : Q d μ) : dVar i env μ Q E := by unfold dVar; rw [e]; exact h
theorem I_c (h : Q d μ) : dC d env μ Q E := h
theorem I_op {g : DR2} (h : ma env μ (fun x μ1 => mb env μ1 (fun y μ2 => g x y μ2 Q) E) E) : dOp g ma mb env μ Q E := h
theorem I_tst (h : m env μ (tB P) E) : dTst m env μ P E := h
theorem I_tB (h : P b μ) : tB P (.bl b) μ := h
theorem I_and (h : t env μ (fun b μ1 => br b (u env μ1 P E) (P false μ1)) E) : dAnd t u env μ P E := h
theorem I_or (h : t env μ (fun b μ1 => br b (P true μ1) (u env μ1 P E)) E) : dOr t u env μ P E := h
theorem I_not (h : t env μ (fun b μ1 => P (!b) μ1) E) : dNot t env μ P E := h
theorem I_br (h : b = true → A) (k : b = false → B) : br b A B := ⟨h, k⟩
theorem I_brT (h : A) : br true A B := ⟨fun _ => h, fun z => by cases z⟩
theorem I_brF (h : B) : br false A B := ⟨(fun z => by cases z), fun _ => h⟩
theorem I_nil {R : List D → Sto → Prop} (h : R [] μ) : dNil env μ R E := h
theorem I_cons {R : List D → Sto → Prop} (h : m env μ (fun x μ1 => mt env μ1 (fun xs μ2 => R (x :: xs) μ2) E) E) : dCons m mt env μ R E := h
theorem I_tup (h : mt env μ (fun xs μ1 => Nat.ble xs.length 1000 = true ∧ Q (.tup xs) μ1) E) : dTup mt env μ Q E := h
theorem I_lst {c : Bool} (h : mt env μ (fun xs μ1 => Nat.ble xs.length 1000 = true ∧ newL c xs μ1 Q) E) : dLst c mt env μ Q E := h
theorem I_newF (h : Q (.lst xs) μ) : newL false xs μ Q := h
theorem I_newT (h : ∀ a, μ a = none → Q (.cell a) (upm μ a (.lst xs))) : newL true xs μ Q := h
theorem I_call {fm : DF} (h : mt env μ (fun ds μ1 => fm ds μ1 Q E) E) : dCall fm mt env μ Q E := h
theorem I_B {r : DR} (h : mt env μ (fun ds μ1 => r ds μ1 Q) E) : dB r mt env μ Q E := h
/-! arithmetic -/
theorem I_add {c : Bool} (h : Q (.int (i + j)) μ) : gAdd c (.int i) (.int j) μ Q := h
theorem I_sub (h : Q (.int (i - j)) μ) : gSub (.int i) (.int j) μ Q := h
theorem I_mul (c : CMul i j) (h : Q (.int (i * j)) μ) : gMulI (.int i) (.int j) μ Q := ⟨.inl c, h⟩
theorem I_mulR (c : -(2 ^ 64) < j ∧ j < 2 ^ 64) (h : Q (.int (i * j)) μ) : gMulI (.int i) (.int j) μ Q := ⟨.inl (.inr c), h⟩
theorem I_mulL (c : -(2 ^ 64) < i ∧ i < 2 ^ 64) (h : Q (.int (i * j)) μ) : gMulI (.int i) (.int j) μ Q := ⟨.inl (.inl c), h⟩
theorem I_div (c : 0 < j) (c2 : j.natAbs.log2 < 9000) (h : Q (.int (i / j)) μ) : gDiv (.int i) (.int j) μ Q := ⟨⟨c, c2⟩, h⟩
theorem I_mod (c : 0 < j) (h : Q (.int (i % j)) μ) : gMod (.int i) (.int j) μ Q := ⟨c, h⟩
theorem I_lt (h : Q (.bl (decide (i < j))) μ) : gLt (.int i) (.int j) μ Q := h
theorem I_le (h : Q (.bl (decide (i ≤ j))) μ) : gLe (.int i) (.int j) μ Q := h
theorem I_gt (h : Q (.bl (decide (j < i))) μ) : gGt (.int i) (.int j) μ Q := h
theorem I_ge (h : Q (.bl (decide (j ≤ i))) μ) : gGe (.int i) (.int j) μ Q := h
theorem I_eqI (h : Q (.bl (f (i == j))) μ) : gEqF S (k + 1) f (.int i) (.int j) μ Q := h
theorem I_eq (e : eqD S k (rsv μ x) (rsv μ y) = some b) (h : Q (.bl (f b)) μ) : gEqF S k f x y μ Q := by unfold gEqF; rw [e]; exact h
/-! subscripts -/
theorem I_ixT (e : atI xs i = some d) (h : Q d μ) : gIx (.tup xs) (.int i) μ Q := by show onS (atI xs i) _; rw [e]; exact h
theorem I_ixL (e : atI xs i = some d) (h : Q d μ) : gIx (.lst xs) (.int i) μ Q := by show onS (atI xs i) _; rw [e]; exact h
theorem I_ixC (c : μ a = some (.lst xs)) (e : atI xs i = some d) (h : Q d μ) : gIx (.cell a) (.int i) μ Q := by
  show onS (subD μ (.cell a) (.int i)) _
  have : subD μ (.cell a) (.int i) = some d := by simp only [subD, c, e]
  rw [this]; exact h
theorem I_len {n : Nat} (e : lenD μ d = some n) (h : Q (.int n) μ) : bLen [d] μ Q := by show bLen.onN (lenD μ d) _; rw [e]; exact h
theorem I_abs (h : Q (.int (if i < 0 then -i else i)) μ) : bAbs [.int i] μ Q := h
theorem I_seti {mo mi mv : DM} (h : mv env μ (fun v μ1 => mo env μ1 (fun o μ2 => mi env μ2 (fun i μ3 => setD o i v μ3 fun μ4 => K.nx env μ4) (fun x μ1 => K.ex x env μ1)) (fun x μ1 => K.ex x env μ1)) (fun x μ1 => K.ex x env μ1)) : dSetI mo mi mv env μ K := h
theorem I_setL {v : D} {R : Sto → Prop} {j : Nat} (c : μ a = some (.lst xs)) (e : ixN xs.length i = some j) (h : R (upm μ a (.lst (xs.set j v)))) : setD (.cell a) (.int i) v μ R := by
  simp only [setD, c, e]; exact h
theorem I_ixC0 (e : atI xs i = some d) (h : Q d (upm μ a (.lst xs))) : gIx (.cell a) (.int i) (upm μ a (.lst xs)) Q := I_ixC upm_same e h
theorem I_setL0 {v : D} {R : Sto → Prop} {j : Nat} (e : ixN xs.length i = some j) (h : R (upm (upm μ a (.lst xs)) a (.lst (xs.set j v)))) : setD (.cell a) (.int i) v (upm μ a (.lst xs)) R := I_setL upm_same e h
/-! methods of lists -/
theorem I_lm {r : DMt} {mo : DM} (h : mo env μ (lmK r mt env Q E) E) : dLM r mo mt env μ Q E := h
theorem I_lmc {r : DMt} (c : μ a = some (.lst xs)) (h : mt env μ (fun ds μ2 => ∃ xs, μ2 a = some (.lst xs) ∧ r xs ds μ2 (fun d ys => Q d (upm μ2 a (.lst ys)))) E) : lmK r mt env Q E (.cell a) μ := ⟨⟨xs, c⟩, h⟩
end
theorem I_list {c : Bool} {μ : Sto} {Q : DQ} {d : D} {xs : List D} (e : getS μ d = some xs) (h : newL c xs μ Q) : bList c [d] μ Q := by show onS2 (getS μ d) _; rw [e]; exact h
theorem I_tuple {μ : Sto} {Q : DQ} {d : D} {xs : List D} (e : getS μ d = some xs) (h : Q (.tup xs) μ) : bTuple [d] μ Q := by show onS2 (getS μ d) _; rw [e]; exact h
/-! loops: what is to be shown of a turn is told for any continuation R -/
/-- the ends inside a loop -/
def KL (K : DEnds) (R : Env' → Sto → Prop) : DEnds := ⟨R, K.rt, K.nx, R, K.ex⟩
section
variable {K : DEnds} {R : Env' → Sto → Prop} {env : Env'} {μ : Sto} {d : D}
theorem I_KLnx (h : R env μ) : (KL K R).nx env μ := h
theorem I_KLct (h : R env μ) : (KL K R).ct env μ := h
theorem I_KLrt (h : K.rt d μ) : (KL K R).rt d μ := h
theorem I_KLbk (h : K.nx env μ) : (KL K R).bk env μ := h
theorem I_KLex {x : Exn} (h : K.ex x env μ) : (KL K R).ex x env μ := h
end
theorem forD_i {keep : Sto → Prop} {g : DG} {body : DS} {K : DEnds} (I : List D → Env' → Sto → Prop)
    (step : ∀ x r env μ, I (x :: r) env μ → ∀ R : Env' → Sto → Prop, (∀ e m, keep m → I r e m → R e m) → g x env μ fun e1 m1 => body e1 m1 (KL K R)) (kp : ∀ x r env μ, I (x :: r) env μ → True)
    (hk : ∀ r env μ, I r env μ → keep μ) (done : ∀ env μ, I [] env μ → K.nx env μ) : ∀ xs env μ, I xs env μ → forD keep g body xs env μ K
  | [], env, μ, h => done env μ h
  | x :: r, env, μ, h => step x r env μ h (fun e m => keep m ∧ forD keep g body r e m K) fun e m q1 q2 => ⟨q1, forD_i I step kp hk done r e m q2⟩
theorem for_i {mi : DI} {g : DG} {body : DS} {K : DEnds} {env : Env'} {μ : Sto} (h : mi env μ (fun d μ1 => d.keep μ1 ∧ forD d.keep g body d.xs env μ1 K) (fun x μ1 => K.ex x env μ1)) : dFor mi g body env μ K := h
theorem while_i {t : DT} {b : DS} {K : DEnds} (I : Nat → Env' → Sto → Prop)
    (step : ∀ m env μ, I m env μ → ∀ R : Env' → Sto → Prop, (∀ j e m', j < m → I j e m' → R e m') → t env μ (fun c μ1 => br c (b env μ1 (KL K R)) (K.nx env μ1)) (fun x μ1 => K.ex x env μ1))
    {m : Nat} {env : Env'} {μ : Sto} (h : I m env μ) : dWhile t b env μ K := by
  have go : ∀ n m env μ, m < n → I m env μ → whileD t b n env μ K := fun n => by
    induction n with
    | zero => intro m env μ h; exact absurd h (Nat.not_lt_zero m)
    | succ n ih => exact fun m env μ hm hI => step m env μ hI (fun e m' => whileD t b n e m' K) fun j e m' hj q => ih j e m' (by omega) q
  exact ⟨m + 1, go (m + 1) m env μ (Nat.lt_succ_self m) h⟩
theorem lc_i {c : Bool} {keep : Sto → Prop} {g : DG} {t : DT} {e : DM} {wenv : Env'} {Q : DQ} (I : List D → List D → Sto → Prop)
    (step : ∀ x r acc μ, I (x :: r) acc μ → ∀ R : List D → Sto → Prop, (∀ acc' μ', keep μ' → I r acc' μ' → R acc' μ') → g x wenv μ fun env2 μ2 => t env2 μ2 (fun b μ3 => br b (e env2 μ3 (fun y μ4 => R (acc ++ [y]) μ4) fun _ _ => False) (R acc μ3)) fun _ _ => False)
    (done : ∀ acc μ, I [] acc μ → newL c acc μ Q) : ∀ xs acc μ, I xs acc μ → lcD c keep g t e wenv Q xs acc μ
  | [], acc, μ, h => done acc μ h
  | x :: r, acc, μ, h => step x r acc μ h (fun acc' μ' => keep μ' ∧ lcD c keep g t e wenv Q r acc' μ') fun acc' μ' q1 q2 => ⟨q1, lc_i I step done r acc' μ' q2⟩
/-- behind a def, nothing but the cell at a has changed -/
theorem fin_off {Q : DQ} {d : D} {μ0 μ' : Sto} {a : Addr} (h : ∀ b, b ≠ a → ∀ c, μ0 b = some c → μ' b = some c) (k : ∀ μ'', μ'' a = μ' a → (∀ b, b ≠ a → μ'' b = μ0 b) → Q d μ'') : fin Q d μ' := by
  refine ⟨fun b => if b = a then μ' a else μ0 b, fun b c e => ?_, k _ (if_pos rfl) fun b hb => if_neg hb⟩
  by_cases hb : b = a
  · subst hb; simpa using e
  · simp only [if_neg hb] at e
    exact h b hb c e
theorem fin_i {Q : DQ} {d : D} {μ : Sto} (h : Q d μ) : fin Q d μ := ⟨μ, Sub.refl μ, h⟩
/-- nothing at all has changed of what was there -/
theorem fin_0 {Q : DQ} {d : D} {μ0 μ' : Sto} (h : Sub μ0 μ') (k : Q d μ0) : fin Q d μ' := ⟨μ0, h, k⟩
theorem I_frz {m : DM} {env : Env'} {μ : Sto} {Q : DQ} {E : DX} (h : m env μ (fzK Q) E) : dFrz m env μ Q E := h
theorem fzK_L {Q : DQ} {μ : Sto} {a : Addr} {xs : List D} (c : μ a = some (.lst xs)) (h : Q (.lst xs) (delm μ a)) : fzK Q (.cell a) μ := by simp only [fzK, c]; exact h
theorem fzK_K {Q : DQ} {μ : Sto} {a : Addr} {xs : List (Key × D)} (c : μ a = some (.dK xs)) (h : Q (.dK xs) (delm μ a)) : fzK Q (.cell a) μ := by simp only [fzK, c]; exact h
/-! ranges -/
def rgK (c : Bool) (Q : DQ) : DQ := fun d μ1 => match d with
  | .int n => RgOk 0 n ∧ newL c (rangeD 0 (n - 0).toNat) μ1 Q
  | _ => False
theorem I_lstRg1 {c : Bool} {ma : DM} {env : Env'} {μ : Sto} {Q : DQ} {E : DX} (h : ma env μ (rgK c Q) E) : dLstRg c (dRg1 ma) env μ Q E := by
  have e : (rgK c Q) = fun d μ1 => match d with
    | .int n => RgOk 0 n ∧ newL c (rangeD 0 (n - 0).toNat) μ1 Q
    | _ => False := rfl
  rw [e] at h
  exact h
theorem I_rgK {c : Bool} {n : Int} {μ : Sto} {Q : DQ} (b : RgOk 0 n) (h : newL c (rangeD 0 n.toNat) μ Q) : rgK c Q (.int n) μ := ⟨b, by rw [Int.sub_zero]; exact h⟩
def rg1K (Q : DIt → Sto → Prop) : List D → Sto → Prop := fun ds μ1 => match ds with
  | [.int j] => (-(2 ^ 62) ≤ j ∧ j < 2 ^ 62) ∧ Q ⟨rangeD 0 j.toNat, fun _ => True⟩ μ1
  | _ => False
def rg2K (Q : DIt → Sto → Prop) : List D → Sto → Prop := fun ds μ1 => match ds with
  | [.int i, .int j] => (-(2 ^ 62) ≤ i ∧ i < 2 ^ 62 ∧ -(2 ^ 62) ≤ j ∧ j < 2 ^ 62) ∧ Q ⟨rangeD i (j - i).toNat, fun _ => True⟩ μ1
  | _ => False
theorem I_range1 {mt : DA} {env : Env'} {μ : Sto} {Q : DIt → Sto → Prop} {E : DX} (h : mt env μ (rg1K Q) E) : dRange1 mt env μ Q E := h
theorem I_range2 {mt : DA} {env : Env'} {μ : Sto} {Q : DIt → Sto → Prop} {E : DX} (h : mt env μ (rg2K Q) E) : dRange2 mt env μ Q E := h
theorem I_rg1K {j : Int} {μ : Sto} {Q : DIt → Sto → Prop} (b : -(2 ^ 62) ≤ j ∧ j < 2 ^ 62) (h : Q ⟨rangeD 0 j.toNat, fun _ => True⟩ μ) : rg1K Q [.int j] μ := ⟨b, h⟩
theorem I_rg2K {i j : Int} {μ : Sto} {Q : DIt → Sto → Prop} (b : -(2 ^ 62) ≤ i ∧ i < 2 ^ 62 ∧ -(2 ^ 62) ≤ j ∧ j < 2 ^ 62) (h : Q ⟨rangeD i (j - i).toNat, fun _ => True⟩ μ) : rg2K Q [.int i, .int j] μ := ⟨b, h⟩
/-- a range walked: k turns are done -/
theorem for_range {lo : Int} {n : Nat} {g : DG} {body : DS} {K : DEnds} (I : Nat → Env' → Sto → Prop)
    (step : ∀ k env μ, k < n → I k env μ → ∀ R : Env' → Sto → Prop, (∀ e m, I (k + 1) e m → R e m) → g (.int (lo + k)) env μ fun e1 m1 => body e1 m1 (KL K R)) (done : ∀ env μ, I n env μ → K.nx env μ) {env : Env'} {μ : Sto} (h : I 0 env μ) :
    forD (fun _ => True) g body (rangeD lo n) env μ K := by
  refine forD_i (fun r env μ => ∃ k, k ≤ n ∧ r = (rangeD lo n).drop k ∧ I k env μ) ?_ (fun _ _ _ _ _ => trivial) (fun _ _ _ _ => trivial) ?_ _ env μ ⟨0, Nat.zero_le _, rfl, h⟩
  · rintro x r env μ ⟨k, hk, e, hI⟩ R hR
    have hl : (rangeD lo n).length = n := by simp [rangeD]
    rcases Nat.lt_or_ge k n with hlt | hge
    · rw [List.drop_eq_getElem_cons (by rw [hl]; exact hlt)] at e
      injection e with e1 e2
      have ex : x = .int (lo + k) := by rw [e1]; simp [rangeD]
      subst ex
      exact step k env μ hlt hI R fun e m q => hR e m trivial ⟨k + 1, hlt, e2, q⟩
    · rw [List.drop_of_length_le (by rw [hl]; exact hge)] at e; cases e
  · rintro env μ ⟨k, hk, e, hI⟩
    have hl : (rangeD lo n).length = n := by simp [rangeD]
    have : k = n := by
      rcases Nat.lt_or_ge k n with hlt | hge
      · rw [List.drop_eq_getElem_cons (by rw [hl]; exact hlt)] at e; cases e
      · omega
    subst this
    exact done env μ hI
end DL

/-! DL23: the readings, taken apart from the front: fields, makers, displays, errors. -/
namespace DL
open PySem PySem.Spec L2
def parK (i j : Nat) (env : Env') (K : DEnds) : List D → Sto → Prop := fun ds μ1 => match ds with
  | [d, e] => K.nx ((env.set i (some d)).set j (some e)) μ1
  | _ => False
def fldK (n : Nat) (Q : DQ) : DQ := fun x μ1 => match x with
  | .ins _ fs => onS (lk fs n) fun d => Q d μ1
  | .cell a => ∃ c fs, μ1 a = some (.ins c fs) ∧ onS (lk fs n) fun d => Q d μ1
  | _ => False
def sfK (n : Nat) (y : D) (env : Env') (K : DEnds) : DQ := fun x μ2 => match x with
  | .cell a => ∃ c fs, μ2 a = some (.ins c fs) ∧ Nat.ble fs.length 900 = true ∧ K.nx env (upm μ2 a (.ins c (put fs n y)))
  | _ => False
def mkK (fr : Bool) (c : Nat) (a : Addr) (Q : DQ) : DQ := fun r μ2 => r = .non ∧ match fr with
  | true => ∃ fs μ3, μ2 a = some (.ins c fs) ∧ Sub μ3 μ2 ∧ μ3 a = none ∧ Q (.ins c fs) μ3
  | false => Q (.cell a) μ2
def avK (mb : DM) (env : Env') (Q : DQ) (E : DX) : DQ := fun x μ1 => match x with
  | .bl b => br b (mb env μ1 Q E) (Q (.bl false) μ1)
  | _ => False
def ovK (mb : DM) (env : Env') (Q : DQ) (E : DX) : DQ := fun x μ1 => match x with
  | .bl b => br b (Q (.bl true) μ1) (mb env μ1 Q E)
  | _ => False
def nvK (Q : DQ) : DQ := fun x μ1 => match x with
  | .bl b => Q (.bl (!b)) μ1
  | _ => False
def xfK (a : Addr) (dd : Option Addr) (c n : Nat) (Q : DQ) : DQ := fun x μ1 => match x with
  | .exn a' dd' c' fs => a' = a ∧ dd' = dd ∧ c' = c ∧ onS (lk fs n) fun d => Q d μ1
  | _ => False
def ixK (a : Addr) (dd : Option Addr) (c : Nat) (q : Nat → Option Bool) (Q : DQ) : DQ := fun x μ1 => match x with
  | .exn a' dd' c' fs => a' = a ∧ dd' = dd ∧ c' = c ∧ fs.isEmpty = false ∧ onS2 (q c) fun b => Q (.bl b) μ1
  | _ => False
def ptK (Q : Option Int → Sto → Prop) : DQ := fun d μ1 => match d with
  | .int i => Q (some i) μ1
  | _ => False
def chK (g' : DR2) (mc : DM) (y : D) (env : Env') (Q : DQ) (E : DX) : DQ := fun z μ3 => match z with
  | .bl k => (k = true → mc env μ3 (fun u μ4 => g' y u μ4 Q) E) ∧ (k = false → Q (.bl false) μ3)
  | _ => False
section
variable {K : DEnds} {n : Env' → Sto → Prop} {env : Env'} {μ : Sto} {Q : DQ} {E : DX} {d x y : D} {xs ys : List D} {i j k c : Nat} {a : Addr} {b : Bool} {s : DS} {m ma mb mc mo mv : DM} {mt : DA} {fs : List (Nat × D)} {fm : DF}
theorem I_par (h : mt env μ (parK i j env K) (fun x μ1 => K.ex x env μ1)) : dPar i j mt env μ K := h
theorem I_parK (h : K.nx ((env.set i (some x)).set j (some y)) μ) : parK i j env K [x, y] μ := h
theorem I_fld (h : m env μ (fldK k Q) E) : dFld k m env μ Q E := h
theorem I_fldI (e : lk fs k = some d) (h : Q d μ) : fldK k Q (.ins c fs) μ := by show onS (lk fs k) _; rw [e]; exact h
theorem I_fldC (q : μ a = some (.ins c fs)) (e : lk fs k = some d) (h : Q d μ) : fldK k Q (.cell a) μ := ⟨c, fs, q, by rw [e]; exact h⟩
theorem I_fldC0 (e : lk fs k = some d) (h : Q d (upm μ a (.ins c fs))) : fldK k Q (.cell a) (upm μ a (.ins c fs)) := I_fldC upm_same e h
theorem I_setf (h : mv env μ (fun y μ1 => mo env μ1 (sfK k y env K) (fun x μ1 => K.ex x env μ1)) (fun x μ1 => K.ex x env μ1)) : dSetF k mo mv env μ K := h
theorem I_sfK (q : μ a = some (.ins c fs)) (e : Nat.ble fs.length 900 = true) (h : K.nx env (upm μ a (.ins c (put fs k y)))) : sfK k y env K (.cell a) μ := ⟨c, fs, q, e, h⟩
theorem I_make {fr : Bool} (h : mt env μ (fun ds μ1 => ∀ a, μ1 a = none → fm (.cell a :: ds) (upm μ1 a (.ins c [])) (mkK fr c a Q) E) E) : dMake fr c fm mt env μ Q E := h
theorem I_pick {is : List Nat} {R : List D → Sto → Prop} (h : mt env μ (fun ds μ1 => Nat.beq ds.length k = true ∧ R (pick is ds) μ1) E) : dPick k is mt env μ R E := h
theorem I_andV (h : ma env μ (avK mb env Q E) E) : dAndV ma mb env μ Q E := h
theorem I_avK (h : br b (mb env μ Q E) (Q (.bl false) μ)) : avK mb env Q E (.bl b) μ := h
theorem I_orV (h : ma env μ (ovK mb env Q E) E) : dOrV ma mb env μ Q E := h
theorem I_ovK (h : br b (Q (.bl true) μ) (mb env μ Q E)) : ovK mb env Q E (.bl b) μ := h
theorem I_notV (h : ma env μ (nvK Q) E) : dNotV ma env μ Q E := h
theorem I_nvK (h : Q (.bl (!b)) μ) : nvK Q (.bl b) μ := h
theorem I_if {t : DT} (h : t env μ (fun b μ1 => br b (ma env μ1 Q E) (mb env μ1 Q E)) E) : dIf t ma mb env μ Q E := h
theorem I_isi {q : Ty → Option Bool} (h : m env μ (fun x μ1 => onS2 ((tyD μ1 x).bind q) fun b => Q (.bl b) μ1) E) : dIsi q m env μ Q E := h
theorem I_onS2 {α : Type} {o : Option α} {P : α → Prop} {v : α} (e : o = some v) (h : P v) : onS2 o P := by rw [e]; exact h
theorem I_xf {dd : Option Addr} (h : m env μ (xfK a dd c k Q) E) : dXf a dd c k m env μ Q E := h
theorem I_xfK {dd : Option Addr} (e : lk fs k = some d) (h : Q d μ) : xfK a dd c k Q (.exn a dd c fs) μ := ⟨rfl, rfl, rfl, by rw [e]; exact h⟩
theorem I_isX {dd : Option Addr} {q : Nat → Option Bool} (h : m env μ (ixK a dd c q Q) E) : dIsX a dd c q m env μ Q E := h
theorem I_ixK {dd : Option Addr} {q : Nat → Option Bool} (e : fs.isEmpty = false) (z : q c = some b) (h : Q (.bl b) μ) : ixK a dd c q Q (.exn a dd c fs) μ := ⟨rfl, rfl, rfl, e, by rw [z]; exact h⟩
theorem I_raise {ns : List Nat} (h : mt env μ (fun ds μ1 => Nat.beq ds.length ns.length = true ∧ K.ex (c, errF ns ds []) env μ1) (fun x μ1 => K.ex x env μ1)) : dRaise c ns mt env μ K := h
theorem I_chain {g g' : DR2} (h : ma env μ (fun x μ1 => mb env μ1 (fun y μ2 => g x y μ2 (chK g' mc y env Q E)) E) E) : dChain g g' ma mb mc env μ Q E := h
theorem I_chK {g' : DR2} (h : b = true → mc env μ (fun u μ4 => g' y u μ4 Q) E) (z : b = false → Q (.bl false) μ) : chK g' mc y env Q E (.bl b) μ := ⟨h, z⟩
theorem I_seqI {P : DIt → Sto → Prop} (h : m env μ (fun d μ1 => ∃ xs, getS μ1 d = some xs ∧ P ⟨xs, fun μ2 => getS μ2 d = some xs⟩ μ1) E) : dSeqI m env μ P E := h
theorem I_enum {P : DIt → Sto → Prop} (h : m env μ (fun d μ1 => onS2 (getS μ1 d) fun xs => P ⟨enumD xs, fun μ2 => getS μ2 d = some xs⟩ μ1) E) : dEnum m env μ P E := h
theorem I_zip {P : DIt → Sto → Prop} (h : ma env μ (fun d μ1 => mb env μ1 (fun e μ2 => onS2 (getS μ2 d) fun xs => onS2 (getS μ2 e) fun ys => P ⟨zipD xs ys, fun μ3 => getS μ3 d = some xs ∧ getS μ3 e = some ys⟩ μ2) E) E) : dZip ma mb env μ P E := h
theorem I_lc {c : Bool} {mi : DI} {g : DG} {t : DT} {e : DM} {vs : List Nat} (h : mi env μ (fun d μ1 => d.xs.length ≤ 1000000 ∧ d.keep μ1 ∧ lcD c d.keep g t e (wipeD env vs) Q d.xs [] μ1) E) : dLc c mi g t e vs env μ Q E := h
theorem I_yes {P : Bool → Sto → Prop} (h : P true μ) : dYes env μ P E := h
theorem I_tryAs {q : Nat → Option Bool} {i : Nat} {ms : Addr → Option Addr → Nat → DS} (h : s env μ ⟨K.nx, K.rt, K.bk, K.ct, fun x env' μ' => onS2 (q x.1) fun b => br b (∀ a dd, ms a dd x.1 (env'.set i (some (.exn a dd x.1 x.2))) μ' (gone i K)) (K.ex x env' μ')⟩) : dTryAs q i s ms env μ K := h
theorem I_sl {c : Bool} {ml mh : DO} (h : mo env μ (fun x μ1 => ml env μ1 (fun l μ2 => mh env μ2 (fun h μ3 => gSl c x l h μ3 Q) E) E) E) : dSl c mo ml mh env μ Q E := h
theorem I_noPart {P : Option Int → Sto → Prop} (h : P none μ) : dNoPart env μ P E := h
theorem I_part {P : Option Int → Sto → Prop} (h : m env μ (ptK P) E) : dPart m env μ P E := h
theorem I_ptK {P : Option Int → Sto → Prop} {z : Int} (h : P (some z) μ) : ptK P (.int z) μ := h
theorem I_gtup {gs : DGs} (e : getS μ d = some xs) (l : xs.length = k) (h : gs xs env μ n) : gdTup k gs d env μ n := ⟨xs, e, l, h⟩
theorem I_gcons {g : DG} {gs : DGs} (h : g x env μ fun e1 m1 => gs xs e1 m1 n) : gdCons g gs (x :: xs) env μ n := h
theorem I_gnil (h : n env μ) : gdNil [] env μ n := h
theorem I_goneN (h : K.nx (env.set i none) μ) : (gone i K).nx env μ := h
theorem I_goneR (h : K.rt d μ) : (gone i K).rt d μ := h
theorem I_in {S : ETab} {f : Bool → Bool} (g : getK μ y = none) (t : getS μ y = some ys) (e : inL (eqD S k) (rsv μ x) ys = some b) (h : Q (.bl (f b)) μ) : gInF S k f x y μ Q := by
  unfold gInF
  rw [g]
  show onS2 (getS μ y) _
  rw [t]
  show onS2 (inL (eqD S k) (rsv μ x) ys) _
  rw [e]; exact h
end
end DL
namespace DL
open PySem PySem.Spec L2
section
variable {μ : Sto} {Q : DQ} {E : DX} {env : Env'} {x y d v : D} {kvs : List (Key × D)} {k : Key} {a : Addr} {n : Nat}
theorem I_disp {c : Bool} {ms : List (DM × DM)} (h : dPairs ms env μ (fun ps μ1 => newK c (mergeD [] ps) μ1 Q) E) : dDisp c ms env μ Q E := h
theorem I_pair {mk mv : DM} {r : List (DM × DM)} {R : List (Key × D) → Sto → Prop} (h : mk env μ (fun x μ1 => mv env μ1 (fun y μ2 => onS2 (keyD x) fun k => dPairs r env μ2 (fun ps μ3 => R ((k, y) :: ps) μ3) E) E) E) : dPairs ((mk, mv) :: r) env μ R E := h
theorem I_pair0 {R : List (Key × D) → Sto → Prop} (h : R [] μ) : dPairs [] env μ R E := h
theorem I_newKT (h : ∀ a, μ a = none → Q (.cell a) (upm μ a (.dK kvs))) : newK true kvs μ Q := h
theorem I_newKF (h : Q (.dK kvs) μ) : newK false kvs μ Q := h
theorem I_inK {S : ETab} {f : Bool → Bool} (g : getK μ y = some kvs) (e : keyD x = some k) (h : Q (.bl (f (vD kvs k).isSome)) μ) : gInF S n f x y μ Q := by
  unfold gInF
  rw [g]
  show onS2 (keyD x) _
  rw [e]; exact h
theorem I_ixKC {i : Int} (c : μ a = some (.dK kvs)) (e : vD kvs (.inl i) = some d) (h : Q d μ) : gIx (.cell a) (.int i) μ Q := by
  show onS (subD μ (.cell a) (.int i)) _
  have : subD μ (.cell a) (.int i) = some d := by simp only [subD, c, keyD, Option.bind_some, e]
  rw [this]; exact h
theorem I_setK {i : Int} {R : Sto → Prop} (c : μ a = some (.dK kvs)) (l : kvs.length ≤ 1000000) (h : R (upm μ a (.dK (putD kvs (.inl i) v)))) : setD (.cell a) (.int i) v μ R := by
  show setD (.cell a) (.int i) v μ R
  simp only [setD, c]
  exact ⟨l, h⟩
end
end DL
namespace DL
open PySem PySem.Spec L2
/-- the ends inside a try -/
def KT (q : Nat → Option Bool) (i : Nat) (ms : Addr → Option Addr → Nat → DS) (K : DEnds) : DEnds := ⟨K.nx, K.rt, K.bk, K.ct, fun x env' μ' => onS2 (q x.1) fun b => br b (∀ a dd, ms a dd x.1 (env'.set i (some (.exn a dd x.1 x.2))) μ' (gone i K)) (K.ex x env' μ')⟩
section
variable {q : Nat → Option Bool} {i c : Nat} {ms : Addr → Option Addr → Nat → DS} {K : DEnds} {env : Env'} {μ : Sto} {d : D} {fs : List (Nat × D)} {s : DS}
theorem I_tryK (h : s env μ (KT q i ms K)) : dTryAs q i s ms env μ K := h
theorem I_KTnx (h : K.nx env μ) : (KT q i ms K).nx env μ := h
theorem I_KTrt (h : K.rt d μ) : (KT q i ms K).rt d μ := h
theorem I_KTex (e : q c = some true) (h : ∀ a dd, ms a dd c (env.set i (some (.exn a dd c fs))) μ (gone i K)) : (KT q i ms K).ex (c, fs) env μ := by
  show onS2 (q c) _
  rw [e]
  exact I_brT h
end
end DL

/-! DL24: loops over few items, comprehensions that change nothing. -/
namespace DL
open PySem PySem.Spec L2
theorem I_forC {keep : Sto → Prop} {g : DG} {body : DS} {K : DEnds} {x : D} {r : List D} {env : Env'} {μ : Sto} (h : g x env μ fun e1 m1 => body e1 m1 (KL K fun e m => keep m ∧ forD keep g body r e m K)) : forD keep g body (x :: r) env μ K := h
theorem I_for0 {keep : Sto → Prop} {g : DG} {body : DS} {K : DEnds} {env : Env'} {μ : Sto} (h : K.nx env μ) : forD keep g body [] env μ K := h
theorem lc_map {c : Bool} {keep : Sto → Prop} {g : DG} {e : DM} {wenv : Env'} {Q : DQ} {μ : Sto} (h : D → D) (hk : keep μ) : ∀ (xs acc : List D), (∀ x ∈ xs, ∀ R : DQ, R (h x) μ → g x wenv μ fun env2 μ2 => e env2 μ2 R fun _ _ => False) → newL c (acc ++ xs.map h) μ Q → lcD c keep g dYes e wenv Q xs acc μ
  | [], acc, _, q => by rw [List.map_nil, List.append_nil] at q; exact q
  | x :: r, acc, s, q => by
    have k := s x (List.mem_cons_self ..) (fun y μ4 => keep μ4 ∧ lcD c keep g dYes e wenv Q r (acc ++ [y]) μ4) ⟨hk, lc_map h hk r (acc ++ [h x]) (fun y hy => s y (List.mem_cons_of_mem _ hy)) (by rw [List.append_assoc]; exact q)⟩
    have e0 : (fun env2 μ2 => dYes env2 μ2 (fun b μ3 => br b (e env2 μ3 (fun y μ4 => keep μ4 ∧ lcD c keep g dYes e wenv Q r (acc ++ [y]) μ4) fun _ _ => False) (keep μ3 ∧ lcD c keep g dYes e wenv Q r acc μ3)) fun _ _ => False) = fun env2 μ2 => e env2 μ2 (fun y μ4 => keep μ4 ∧ lcD c keep g dYes e wenv Q r (acc ++ [y]) μ4) fun _ _ => False := by
      funext env2 μ2
      exact propext ⟨fun z => z.1 rfl, fun z => I_brT z⟩
    show g x wenv μ _
    rw [e0]
    exact k
end DL

/-! DL25: methods that only read (count); isinstance of a caught error, more. -/
namespace DL
open PySem PySem.Spec PyProof.Rows L2
abbrev DPt := D → DR
def rDP (T : Tab) (K : PySem.W.Frag) (r : DPt) : V → List V → Hp → VK → Prop := fun x xs H Q => ∃ G F μ d ds Q0, StR T K G F H μ ∧ Rep T K F x d ∧ Reps T K F xs ds ∧ r d ds μ Q0 ∧ Kon T K G F (Rep T K) Q0 Q
def PtD (T : Tab) (X : Cx) (id : String) (r : DPt) : Prop := MtR X id (rDP T X.K r)
/-- l.m(..) of a list, that only reads -/
def dPL (r : DPt) (mo : DM) (mt : DA) : DM := fun env μ Q E => mo env μ (fun x μ1 => (∃ xs, getL μ1 x = some xs) ∧ mt env μ1 (fun ds μ2 => r x ds μ2 Q) E) E
section
variable {T : Tab} {X : Cx} {x m id : String} {p pos apos : Pos} {e o : Expr} {es : List Expr} {mo : DM} {mt : DA} {rp : DPt}
theorem tE_PL {W : WG} {K : PySem.W.Frag} {σ : L2.St} {H : Hp} {Q : VK} (h : tE T K W (dPL rp mo mt) σ H Q) : tBM K "list" (rDP T K rp) (tE T K W mo) (tA T K W mt) σ H Q := by
  obtain ⟨F, env, μ, Q0, E0, hE, hS, hm, hQ, hX⟩ := h
  refine ⟨F, env, μ, _, E0, hE, hS, hm, fun x μ1 q F1 H1 v l hS1 rv => ?_, hX⟩
  obtain ⟨⟨xs, e0⟩, q⟩ := q
  obtain ⟨a, vs, rfl, h1, r1⟩ := getL_ok hS1 rv e0
  exact ⟨.inl ⟨rfl, vs, h1⟩, F1, env, μ1, _, E0, hE.mono l, hS1, q, fun ds μ2 q2 F2 H2 ws l2 hS2 rs => ⟨W.G, F2, μ2, x, ds, Q0, hS2, rv.mono l2, rs, q2, hQ.mono (l.trans l2)⟩, hX.mono l⟩
theorem se_pl {m : Str} (slot : Slot "list" m id) (hm : PtD T X id rp) (ho : SE T X o mo) (ha : SA T X (e :: es) mt) (hty : typeOf (.builtin id) = pure (.type "method_descriptor") := by kernel_rfl)
    (hbase : attributeBase o m X.env (eval o X.env) = eval o X.env := by rfl)
    (hfew : ((backTo pos (starEach (e :: es) X.env)).all (fun x => !x.1) && (backToKw pos (keywordEach [] X.env)).all (fun x => x.1.isSome)
      && decide ((e :: es).length + ([] : List Keyword).length + (if ([] : List Keyword).isEmpty then 0 else 1) < 30)) = true := by rfl)
    (hline : (apos.endLine == pos.line) = true := by rfl) (hs : starEach (e :: es) X.env = (false, eval e X.env) :: starEach es X.env := by rfl) (hplain : (backTo pos (starEach es X.env)).any (·.1) = false := by rfl) :
    SE T X (.Call (.Attribute o m apos) (e :: es) [] pos) (dPL rp mo mt) :=
  ⟨fun W tk => PE.imp (pe_bm PySem.F.plainAttrs_list slot hty hm (ho.run W tk) (ha.run W tk) hbase hfew hline hs hplain) fun _ _ _ h => tE_PL h⟩
end
/-! ### count -/
def boolsD : List D → Option (List Bool)
  | [] => some []
  | .bl b :: r => (boolsD r).map (b :: ·)
  | _ => none
def lpCount : DPt := fun x ds μ Q => match ds with
  | [.bl b] => onS2 ((getL μ x).bind boolsD) fun bs => Q (.int (bs.count b : Nat)) μ
  | _ => False
def isB (k : Bool) (v : Value) : Bool := match v with
  | .bool b => b == k
  | _ => false
section
variable {T : Tab} {X : Cx}
theorem bools_vals {K : PySem.W.Frag} {F : Hp} : ∀ {vs : List V} {ds : List D} {bs : List Bool}, Reps T K F vs ds → boolsD ds = some bs → vs = bs.map V.bl
  | _, _, _, .nil, e => by cases e; rfl
  | _, _, bs, .cons (d := d) h r, e => by
    cases d <;> first | cases e | skip
    obtain ⟨cs, h1, rfl⟩ := Option.map_eq_some_iff.mp (show (boolsD _).map _ = some bs from e)
    cases h
    rw [bools_vals r h1]; rfl
theorem vals_bools : ∀ {bs : List Bool} {us : List Value}, Vals (bs.map V.bl) us → us = bs.map Value.bool
  | [], us, r => by cases r; rfl
  | b :: bs, us, r => by
    cases r with
    | cons h r =>
      cases h
      rw [vals_bools r]; rfl
theorem isB_count {k : Bool} : ∀ {bs : List Bool}, (bs.map Value.bool).countP (isB k) = bs.count k
  | [] => rfl
  | b :: bs => by
    have ih := isB_count (k := k) (bs := bs)
    rw [List.map_cons, List.countP_cons, List.count_cons, ih]; rfl
theorem ptd_count : PtD T X "list.count" lpCount := by
  intro pins s σ H x xs v us Q I rx rxs h
  obtain ⟨G, F, μ, d, ds, Q0, hS, rd, rs, q, hQ⟩ := h
  unfold lpCount at q
  split at q
  · rename_i b
    obtain ⟨bs, e, q⟩ := onS2_of q
    obtain ⟨ys, e1, e2⟩ := Option.bind_eq_some_iff.mp e
    obtain ⟨a, vs, rfl, h1, r1⟩ := getL_ok hS rd e1
    have ev := bools_vals r1 e2
    subst ev
    cases rs with
    | cons hb rr =>
      cases rr
      cases hb
      cases rx
      obtain ⟨u, rfl, ru⟩ := rxs.one
      cases ru
      obtain ⟨its, rv, ⟨⟨cls, dd, data, sl⟩, n, ho, hc, hdn, hd⟩, hlen⟩ := I.list h1
      simp only at hc hd
      subst hc hd
      have hi := vals_bools rv
      subst hi
      refine call_meets PySem.F.slot_list_count ⟨_, ho, rfl⟩ PySem.F.entry_list_count (PySem.F.args_list_count_2 _ _)
        (SeqAt.list_countAt a (bs.map Value.bool).toArray n dd sl (.bool b) (isB b)) ⟨ho, fun y hy => ?_, ?_⟩
      · have hy : y ∈ bs.map Value.bool := by simpa using hy
        obtain ⟨c, _, rfl⟩ := List.mem_map.mp hy
        exact SeqAt.EqAt.bool_bool c b
      · have ec : (bs.map Value.bool).toArray.toList.countP (isB b) = bs.count b := isB_count
        refine ⟨.int (bs.count b : Nat), H, I.tok _, ⟨s.toks, ?_⟩, hQ _ μ q F H _ (Le.refl F) hS (.int _)⟩
        show Value.int (((bs.map Value.bool).toArray.toList.countP (isB b) : Nat) : Int) s.toks = Value.int ((bs.count b : Nat) : Int) s.toks
        rw [ec]
  · exact q.elim
end
end DL

/-! DLH: the head by Bool tests; what the tests give. -/
namespace DL
open PySem PySem.Spec PyProof.Rows L2 He

def nmAt (d : Str) : List Str → Nat → Str
  | [], _ => d
  | x :: _, 0 => x
  | _ :: r, n + 1 => nmAt d r n
theorem nmAt_all {d : Str} {P : Str → Prop} (h0 : P d) : ∀ {l : List Str}, (∀ x ∈ l, P x) → ∀ c, P (nmAt d l c)
  | [], _, _ => h0
  | x :: _, h, 0 => h x (List.mem_cons_self ..)
  | _ :: _, h, c + 1 => nmAt_all h0 (fun y hy => h y (List.mem_cons_of_mem _ hy)) c
abbrev gaAt (K : PySem.W.Frag) (l : List Str) (c : Nat) : Addr := ga K (nmAt (l.headD Str.empty) l c)
theorem gaAt_all {K : PySem.W.Frag} {l : List Str} {P : Addr → Prop} (n : l ≠ []) (h : ∀ x ∈ l, P (ga K x)) (c : Nat) : P (gaAt K l c) := by
  cases l with
  | nil => exact absurd rfl n
  | cons x r => exact nmAt_all (P := fun y => P (ga K y)) (h x (List.mem_cons_self ..)) h c

/-! ### tests -/
def clsB (K : PySem.W.Frag) (fl : List Str) (x : Str) : Bool := (Fa.cls x).ok K && (fl.all (fun f => (Fa.noat x f).ok K) && (decide (PySem.W.findIn K (.ref (ga K x)) "__class__" = some (some (.builtin "object.__class__"))) && decide (PySem.W.mroIn K (ga K x) (.type "object") = some true)))
def hnB (K : PySem.W.Frag) : Bool := decide (PySem.W.specialIn K (.builtin "object.__class__") "__get__" = some (some (.builtin "getset_descriptor.__get__"))) && decide (PySem.W.takesIn K (.builtin "object.__class__") = some true)
def oexS (K : PySem.W.Frag) (C : Addr) : Bool := match K.lookup C with
  | some ⟨.type "type", _, .cls cd, sl⟩ => (match cd.mro, sl.toList with
    | .ref C' :: bm, [_, _, _, _, some (.builtin n), _] => decide (C' = C) && (decide (n = "ValueError.__new__") && (!cd.hasDel && (cd.hasDict && PySem.HandSPX.refsVE bm)))
    | _, _ => false)
  | _ => false
def oexB (K : PySem.W.Frag) (C : Addr) : Bool := oexS K C && (decide (PySem.W.findIn K (.ref C) "__setattr__" = some (some (.builtin "object.__setattr__"))) && (decide (PySem.W.subIn K (.ref C) (.type "BaseException") = some true) && (decide (PySem.W.typeIn K (.ref C) = some (.type "type")) && PySem.W.keepIn K (.ref C))))
def excB (K : PySem.W.Frag) (fl : List Str) (x : Str) : Bool := oexB K (ga K x) && (xfB K (ga K x) && (decide (PySem.W.findIn K (.ref (ga K x)) "__class__" = some (some (.builtin "object.__class__"))) && (decide (PySem.W.mroIn K (ga K x) (.type "object") = some true) && fl.all (fun f => decide (PySem.W.findIn K (.ref (ga K x)) f = some none)))))
def einB (K : PySem.W.Frag) (x : Str) : Bool := decide (PySem.W.findIn K (.ref (ga K x)) "__init__" = some (some (.ref (ma K (ga K x) "__init__")))) && decide (PySem.W.typeIn K (.ref (ma K (ga K x) "__init__")) = some (.type "function"))
def ownB (K : PySem.W.Frag) (x : Str) : Bool := decide (PySem.W.findIn K (.ref (ga K x)) "__ne__" = some (some (.builtin "object.__ne__"))) && (decide (PySem.W.mroIn K (ga K x) (.type "object") = some true) && (decide (PySem.W.mroIn K (ga K x) (.type "tuple") = some false) && (decide (PySem.W.mroIn K (ga K x) (.type "list") = some false) && decide (PySem.W.mroIn K (ga K x) (.type "NoneType") = some false))))
def bNames : List String := ["NoneType", "bool", "int", "str", "tuple", "list", "dict"]
def tys (n : Nat) : List Ty := bNames.map Ty.b ++ (List.range n).map Ty.o
/-- what isinstance tells of every type at hand -/
def kitB (K : PySem.W.Frag) (v : Ty → Value) (n : Nat) (q : Ty → Option Bool) (u : Value) : Bool := (tys n).all fun t => decide (PySem.W.kitOne K (v t) u = q t)
def qOwn (n k : Nat) : Ty → Option Bool
  | .b s => if s ∈ bNames then some false else none
  | .o c => if c < n then some (Nat.beq c k) else none
def qBlt (n : Nat) (nm : String) : Ty → Option Bool
  | .b s => if s ∈ bNames then some (decide (s = nm) || (decide (nm = "int") && decide (s = "bool"))) else none
  | .o c => if c < n then some false else none
theorem tys_own {n k : Nat} {t : Ty} {b : Bool} (h : qOwn n k t = some b) : t ∈ tys n := by
  unfold tys
  cases t with
  | b s =>
    simp only [qOwn] at h
    split at h
    · exact List.mem_append_left _ (List.mem_map_of_mem (by assumption))
    · cases h
  | o c =>
    simp only [qOwn] at h
    split at h
    · exact List.mem_append_right _ (List.mem_map_of_mem (List.mem_range.mpr (by assumption)))
    · cases h
theorem tys_blt {n : Nat} {nm : String} {t : Ty} {b : Bool} (h : qBlt n nm t = some b) : t ∈ tys n := by
  unfold tys
  cases t with
  | b s =>
    simp only [qBlt] at h
    split at h
    · exact List.mem_append_left _ (List.mem_map_of_mem (by assumption))
    · cases h
  | o c =>
    simp only [qBlt] at h
    split at h
    · exact List.mem_append_right _ (List.mem_map_of_mem (List.mem_range.mpr (by assumption)))
    · cases h
theorem kitB_own {K : PySem.W.Frag} {v : Ty → Value} {n k : Nat} {u : Value} (h : kitB K v n (qOwn n k) u = true) : ∀ t b, qOwn n k t = some b → PySem.W.kitOne K (v t) u = some b := fun t b e => by
  rw [← e]; exact of_decide_eq_true (List.all_eq_true.mp h t (tys_own e))
theorem kitB_blt {K : PySem.W.Frag} {v : Ty → Value} {n : Nat} {nm : String} {u : Value} (h : kitB K v n (qBlt n nm) u = true) : ∀ t b, qBlt n nm t = some b → PySem.W.kitOne K (v t) u = some b := fun t b e => by
  rw [← e]; exact of_decide_eq_true (List.all_eq_true.mp h t (tys_blt e))
/-- errors by number -/
def qExc (l : List Bool) (c : Nat) : Option Bool := l[c]?
def kexB (K : PySem.W.Frag) (ex : Nat → Addr) (l : List Bool) (u : Addr) : Bool := (List.range l.length).all fun c => decide (PySem.W.kitOne K (.ref (ex c)) (.ref u) = qExc l c) && decide (PySem.W.exmOne K (.ref (ex c)) (.ref u) = qExc l c)
theorem kexB_k {K : PySem.W.Frag} {ex : Nat → Addr} {l : List Bool} {u : Addr} (h : kexB K ex l u = true) : ∀ c b, qExc l c = some b → PySem.W.kitOne K (.ref (ex c)) (.ref u) = some b := fun c b e => by
  obtain ⟨hc, _⟩ := List.getElem?_eq_some_iff.mp e
  rw [← e]; exact of_decide_eq_true (ba (List.all_eq_true.mp h c (List.mem_range.mpr hc))).1
theorem kexB_x {K : PySem.W.Frag} {ex : Nat → Addr} {l : List Bool} {u : Addr} (h : kexB K ex l u = true) : ∀ c b, qExc l c = some b → PySem.W.exmOne K (.ref (ex c)) (.ref u) = some b := fun c b e => by
  obtain ⟨hc, _⟩ := List.getElem?_eq_some_iff.mp e
  rw [← e]; exact of_decide_eq_true (ba (List.all_eq_true.mp h c (List.mem_range.mpr hc))).2
theorem de {p : Prop} [Decidable p] (h : decide p = true) : p := of_decide_eq_true h
section
variable {K : PySem.W.Frag} {h : Heap} {fl : List Str} {x : Str} {cn xn : List Str}
theorem clsB_ok (c : clsB K fl x = true) : Cls K (ga K x) ∧ (∀ f ∈ fl, NoAttr K (ga K x) f) ∧ PySem.W.findIn K (.ref (ga K x)) "__class__" = some (some (.builtin "object.__class__")) ∧ PySem.W.mroIn K (ga K x) (.type "object") = some true := by
  obtain ⟨c1, c⟩ := ba c
  obtain ⟨c2, c⟩ := ba c
  obtain ⟨c3, c4⟩ := ba c
  exact ⟨cls_ok c1, fun f hf => noat_ok (List.all_eq_true.mp c2 f hf), de c3, de c4⟩
theorem oexB_ok {C : Addr} (X : K.In h) (q : oexB K C = true) : OexC K C := by
  obtain ⟨q1, q⟩ := ba q
  obtain ⟨q2, q⟩ := ba q
  obtain ⟨q3, q⟩ := ba q
  obtain ⟨q4, q5⟩ := ba q
  refine ⟨?_, de q2, de q3, de q4, q5⟩
  unfold oexS at q1
  split at q1
  · rename_i dd cd sl ho
    split at q1
    · rename_i C' bm k0 k1 k2 k3 n k5 hm hs
      obtain ⟨a1, a⟩ := ba q1
      obtain ⟨a2, a⟩ := ba a
      obtain ⟨a3, a⟩ := ba a
      obtain ⟨a4, a5⟩ := ba a
      have b1 := de a1
      have b2 := de a2
      have a6 : cd.hasDel = false := by simpa using a3
      subst b1 b2
      obtain ⟨nm, bs, mro, ns, qn, hd, sn, sub, ab, col, del⟩ := cd
      dsimp only at hm a6 a4
      subst hm a6 a4
      have hsl : sl = #[k0, k1, k2, k3, some (.builtin "ValueError.__new__"), k5] := by
        obtain ⟨l⟩ := sl
        simp only at hs
        rw [hs]
      subst hsl
      exact ⟨nm, qn, ns, bs, bm, sn, sub, ab, col, dd, k0, k1, k2, k3, k5, ho, a5⟩
    · cases q1
  · cases q1
theorem excB_ok (X : K.In h) (hn : hnB K = true) (q : excB K fl x = true) : OexC K (ga K x) ∧ XfC K (ga K x) ∧ ExcC K (ga K x) ∧ ∀ f ∈ fl, PySem.W.findIn K (.ref (ga K x)) f = some none := by
  obtain ⟨q1, q⟩ := ba q
  obtain ⟨q2, q⟩ := ba q
  obtain ⟨q3, q⟩ := ba q
  obtain ⟨q4, q5⟩ := ba q
  obtain ⟨n1, n2⟩ := ba hn
  have xf := xfB_ok q2
  exact ⟨oexB_ok X q1, xf, ⟨xf.ga, xf.gg, xf.exC, xf.hdC, de q3, de n1, de n2, de q4⟩, fun f hf => de (List.all_eq_true.mp q5 f hf)⟩
end
theorem fldOf_mem {l : List Str} {n : Nat} (h : n < l.length) : fldOf l n ∈ l := by
  unfold fldOf
  rw [List.getElem?_eq_getElem h]
  exact List.getElem_mem h
section
variable {K : PySem.W.Frag} {h : Heap} {fl cn xn : List Str} {e : ∀ i j, fldOf fl i = fldOf fl j → i = j}
theorem tabOk_of (n : cn ≠ []) (c : cn.all (clsB K fl) = true) {ex : Nat → Addr} : TabOk ⟨gaAt K cn, ex, fldOf fl, e⟩ K fl.length :=
  ⟨gaAt_all n fun x hx => (clsB_ok (List.all_eq_true.mp c x hx)).1, fun c' i hi => gaAt_all (P := fun a => NoAttr K a (fldOf fl i)) n (fun x hx => (clsB_ok (List.all_eq_true.mp c x hx)).2.1 _ (fldOf_mem hi)) c'⟩
theorem tabI_of (n : cn ≠ []) (hn : hnB K = true) (c : cn.all (clsB K fl) = true) {ex : Nat → Addr} : TabI ⟨gaAt K cn, ex, fldOf fl, e⟩ K :=
  ⟨gaAt_all (P := fun a => PySem.W.findIn K (.ref a) "__class__" = some (some (.builtin "object.__class__"))) n fun x hx => (clsB_ok (List.all_eq_true.mp c x hx)).2.2.1, de (ba hn).1, de (ba hn).2,
    gaAt_all (P := fun a => PySem.W.mroIn K a (.type "object") = some true) n fun x hx => (clsB_ok (List.all_eq_true.mp c x hx)).2.2.2⟩
theorem tabX_of (X : K.In h) (n : xn ≠ []) (hn : hnB K = true) (c : xn.all (excB K fl) = true) {cl : Nat → Addr} : TabX ⟨cl, gaAt K xn, fldOf fl, e⟩ K fl.length :=
  ⟨gaAt_all n fun x hx => (excB_ok X hn (List.all_eq_true.mp c x hx)).2.1, gaAt_all n fun x hx => (excB_ok X hn (List.all_eq_true.mp c x hx)).2.2.1,
    fun c' i hi => gaAt_all (P := fun a => PySem.W.findIn K (.ref a) (fldOf fl i) = some none) n (fun x hx => (excB_ok X hn (List.all_eq_true.mp c x hx)).2.2.2 _ (fldOf_mem hi)) c'⟩
end

/-! ### own == by facts -/
theorem onS2_some {α : Type} {o : Option α} {P : α → Prop} {a : α} (e : o = some a) (h : P a) : onS2 o P := by rw [e]; exact h
/-- (self.f, self.g, ..) -/
def flA : List Nat → DA
  | [] => dNil
  | n :: ns => dCons (dFld n (dVar 0)) (flA ns)
theorem flA_run {fs : List (Nat × D)} {c : Nat} {E : DX} {μ : Sto} : ∀ {fl : List Nat} {xs : List D} {R : List D → Sto → Prop}, fldsD fl fs = some xs → R xs μ → flA fl [some (.ins c fs)] μ R E
  | [], xs, R, e, h => by cases e; exact h
  | n :: ns, xs, R, e, h => by
    unfold fldsD at e
    cases q : lk fs n with
    | none => rw [q] at e; cases e
    | some d =>
      rw [q] at e
      obtain ⟨ys, h1, rfl⟩ := Option.map_eq_some_iff.mp e
      refine I_cons (I_fld (I_var rfl (I_fldI q ?_)))
      exact flA_run h1 h
theorem flA_len {fs : List (Nat × D)} : ∀ {fl : List Nat} {xs : List D}, fldsD fl fs = some xs → xs.length = fl.length
  | [], xs, e => by cases e; rfl
  | n :: ns, xs, e => by
    unfold fldsD at e
    cases q : lk fs n with
    | none => rw [q] at e; cases e
    | some d =>
      rw [q] at e
      obtain ⟨ys, h1, rfl⟩ := Option.map_eq_some_iff.mp e
      simp [flA_len h1]
theorem ownE_of {T : Tab} {P : Program} {w : World} {K : PySem.W.Frag} {mg : Str → Option Value} {base : Heap} {L k c : Nat} {x : Str} {S : ETab} {nF n : Nat} {fl : List Nat} {f : Addr} {fd : FuncData} {ps : List Str} {mf me : DF}
    (hf : mf = dDef 1 1 (dRet (dTup (flA fl)))) (he : me = dDef 2 2 (dRet (dAndV (dIsi (qOwn nF c) (dVar 1)) (dOp (gEq S (n + 1)) (dMeth c mf (dVar 0) dNil) (dMeth c mf (dVar 1) dNil))))) (hl : Nat.ble fl.length 1000 = true) (hc : c < nF)
    (hC : T.cls c = ga K x) (M : Meth K (ga K x) "__eq__" f) (B : Binds K fd ps []) (G : FnOk P w K mg base (L2.CX P w) k f fd ps (spD T K me)) (hk : k ≤ L) (O : ownB K x = true) (sm : ∀ c q, S c = some q → SameQ T K q) :
    OwnE T P w K mg base L c (qFld S n fl) := by
  rw [← hC] at M
  obtain ⟨o1, o⟩ := ba O
  obtain ⟨o2, o⟩ := ba o
  obtain ⟨o3, o⟩ := ba o
  obtain ⟨o4, o5⟩ := ba o
  rw [← hC] at o1 o2 o3 o4 o5
  have gc : (if c < nF then some (Nat.beq c c) else none) = some true := by rw [if_pos hc, Nat.beq_refl]
  refine ⟨⟨k, f, fd, ps, me, hk, M.at_, M.fn, B, G, fun fs gs b e μ => ?_, fun fs d e μ => ?_⟩, de o1, de o2, de o3, de o4, de o5, qFld_same sm⟩
  · subst he
    unfold qFld at e
    cases e1 : fldsD fl fs with
    | none => simp only [e1] at e; cases e
    | some xs =>
      cases e2 : fldsD fl gs with
      | none => simp only [e1, e2] at e; cases e
      | some ys =>
        simp only [e1, e2] at e
        refine I_def rfl (I_ret (I_andV (I_isi (I_var rfl (onS2_some (a := true) gc (I_avK (I_brT ?_)))))))
        subst hf
        have run : ∀ (zs : List D) (hs : List (Nat × D)), fldsD fl hs = some zs → ∀ (Q : DQ) (E : DX) (μ : Sto), Q (.tup zs) μ → dDef 1 1 (dRet (dTup (flA fl))) [.ins c hs] μ Q E := fun zs hs ez Q E μ q =>
          I_def rfl (I_ret (I_tup (flA_run ez ⟨by rw [flA_len ez]; exact hl, fin_i q⟩)))
        refine I_op (I_var rfl ⟨rfl, run _ _ e1 _ _ _ ?_⟩)
        refine (I_var rfl ⟨rfl, run _ _ e2 _ _ _ ?_⟩)
        refine I_eq (b := b) ?_ (show fin (fun r _ => r = D.bl b) (.bl b) μ from ⟨μ, Sub.refl μ, rfl⟩)
        exact e
  · subst he
    have hd : ∃ s, tyD μ d = some (.b s) ∧ s ∈ bNames := by
      cases d <;> first | exact ⟨_, rfl, by decide⟩ | cases e
    obtain ⟨s, h1, h2⟩ := hd
    refine I_def rfl (I_ret (I_andV (I_isi (I_var rfl (onS2_some (a := false) ?_ (I_avK (I_brF ?_)))))))
    · rw [h1]; show (if s ∈ bNames then some false else none) = _; rw [if_pos h2]
    · exact (show fin (fun r _ => r = D.bl false) (.bl false) μ from ⟨μ, Sub.refl μ, rfl⟩)

/-! ### the hook -/
/-- which addresses are seen: a mask -/
def grow1 (mk : List Addr × Nat) (a : Addr) : List Addr × Nat := match Nat.testBit mk.2 a with
  | true => mk
  | false => (a :: mk.1, mk.2 ||| (1 <<< a))
/-- a step outwards: all seen, the mask, the newest -/
def stepM (g : Addr → Option Obj) (st : List Addr × Nat × List Addr) : List Addr × Nat × List Addr := match (st.2.2.flatMap fun a => match g a with
  | some o => refsD o
  | none => []).foldl grow1 ([], st.2.1) with
  | (new, mk) => (new ++ st.1, mk, new)
def asM (g : Addr → Option Obj) : Nat → List Addr × Nat × List Addr
  | 0 => ([mainGlobals], 1 <<< mainGlobals, [mainGlobals])
  | n + 1 => stepM g (asM g n)
abbrev AlM : Type := Bool × List FnW
def obsM (ts : List (PySem.W.Frag → Bool)) (fn : List DefD) (K : PySem.W.Frag) : AlM := ((ts.all fun f => f K) && fn.all fun d => d.ok K, fn.map fun d => fnW K d.at_)
def SaysM (ts : List (PySem.W.Frag → Bool)) (fn : List DefD) (K : PySem.W.Frag) : Prop := obsM ts fn K = valD fn
def obsMG (n : Nat) (ts : List (PySem.W.Frag → Bool)) (fn : List DefD) (g : Addr → Option Obj) : AlM := obsM ts fn (frG g (asM g n).1)
def hookM (n : Nat) (ts : List (PySem.W.Frag → Bool)) (fn : List DefD) : PySem.W.Hook where
  α := AlM
  obs := fun s => obsMG n ts fn s.heap.get?
  val := fun _ => valD fn
  says := fun _ h => ∃ K : PySem.W.Frag, K.In h ∧ SaysM ts fn K
  of := fun _ _ e => ⟨_, frG_in, e⟩
  keeps := fun _ _ _ ⟨K, hK, c⟩ k => ⟨K, PySem.W.Frag.In.keeps hK k, c⟩
theorem obsMG_eq {n : Nat} {ts : List (PySem.W.Frag → Bool)} {fn : List DefD} {g : Addr → Option Obj} {s : Shared} (h : ∀ a, g a = s.heap.get? a) : obsMG n ts fn g = (hookM n ts fn).obs s := by
  have e : g = s.heap.get? := funext h
  rw [e] <;> rfl
section
variable {ts : List (PySem.W.Frag → Bool)} {fn : List DefD} {K : PySem.W.Frag}
theorem SaysM.fact (c : SaysM ts fn K) (i : Nat) {f : PySem.W.Frag → Bool} (h : ts[i]? = some f := by rfl) : f K = true := by
  have c1 := (ba (show ((ts.all fun f => f K) && fn.all fun d => d.ok K) = true from congrArg (fun z : AlM => z.1) c)).1
  exact List.all_eq_true.mp c1 f (List.mem_of_getElem? h)
theorem SaysM.def_ (c : SaysM ts fn K) (i : Nat) {d : DefD} (h : fn[i]? = some d := by rfl) : ∃ fd, FunD K d.name d.qual d.params d.body d.scope (d.dvs K) (d.kws K) (fAd K d.at_) fd := by
  have c2 := (ba (show ((ts.all fun f => f K) && fn.all fun d => d.ok K) = true from congrArg (fun z : AlM => z.1) c)).2
  have e : fn.map (fun d => fnW K d.at_) = fn.map DefD.val := congrArg (fun z : AlM => z.2) c
  have e2 : (fn.map fun d => fnW K d.at_)[i]? = (fn.map DefD.val)[i]? := by rw [e]
  rw [List.getElem?_map, List.getElem?_map, h] at e2
  exact DefD.funD (Option.some.inj e2) (List.all_eq_true.mp c2 d (List.mem_of_getElem? h))
end
end DL
namespace DL
open PySem PySem.Spec PyProof.Rows L2 He
/-- the end, with exceptions of own classes about -/
theorem walk_ofW {l : PySem.W.OpenLaw} {n k : Nat} {q : Program} {loose : List Str} {XP : (Str → Option Value) → Heap → Prop} {YP : World → Heap → Prop} {d : DefRec} {x : Str}
    (hn : l.most = some n) (hn2 : n ≤ sizeLine) (hdf : d.params.defaults = []) (hr : Room k callerA)
    (F : ∀ (w : World) (mg : Str → Option Value) (fa : Addr) (h : Heap), YP w h → h.Ns mainGlobals mg → mg d.name = some (.ref fa) →
      ∃ (K : PySem.W.Frag) (fd : FuncData) (sp : Sp), K.In h ∧ (∀ (s : Shared) (u : Value), BindsTo s fd ⟨[u], []⟩ [(x, u)]) ∧
        (∀ (H : Hp) (a : Addr) (ns : List Int), ns.length ≤ n → Only H → SqL K H a (ns.map V.int) → sp [.ref a] H (fun v _ => v = .bl true) fun _ _ _ => False) ∧
        ∀ base : Heap, K.In base → base.Ns mainGlobals mg → FnOk l.prog w K mg base (L2.CX l.prog w) k fa fd [x] sp) :
    PySem.W.WalkO q loose XP YP l.row.toRowW d [] (fun f vs => PySem.call f vs) := by
  refine Att.attach_call hn hdf fun w s₀ s₁ mg mb fa o pm cd doc a vs ns G Y ho hd hcd hmg hobj hints hlen hg => ?_
  obtain ⟨K, fd, sp, KX, hb, hsp, hF⟩ := F w mg fa _ Y G.T.g hmg
  exact law_call KX G.T.g G.T.b G.T.builtins G.T.nolimit hg hobj hints (Nat.le_trans hlen hn2) hr hF hb (fun H hO hS => hsp H a ns hlen hO hS) fun H e s' h => by
    obtain ⟨_, _, _, _, _, _, _, _, _, _, _, _, hE⟩ := h
    exact hE
/-- the script -/
theorem only_st {T : Tab} {K : PySem.W.Frag} {H : Hp} : StR T K (fun _ => none) H H (fun _ => none) := ⟨Le.refl H, (fun _ _ h => nomatch h), (fun _ _ h => nomatch h)⟩
theorem reps_ints {T : Tab} {K : PySem.W.Frag} {F : Hp} : ∀ ns : List Int, Reps T K F (ns.map V.int) (ns.map D.int)
  | [] => .nil
  | n :: r => .cons (.int n) (reps_ints r)
theorem law_sp {T : Tab} {K : PySem.W.Frag} {fm : DF} {H : Hp} {a : Addr} {ns : List Int} (h : fm [.lst (ns.map .int)] (fun _ => none) (fun d _ => d = .bl true) (fun _ _ => False)) (hS : SqL K H a (ns.map V.int)) : spD T K fm [.ref a] H (fun v _ => v = .bl true) fun _ _ _ => False :=
  ⟨fun _ => none, H, fun _ => none, [.lst (ns.map .int)], _, _, .cons (.lst hS (reps_ints ns)) .nil, only_st, h, fun d μ e F' H' v _ _ r => by subst e; cases r; rfl, fun x μ e => e.elim⟩
end DL

/-! DL26: isinstance(e, (A, B)) and isinstance(e, ValueError), e the caught error. -/
namespace DL
open PySem PySem.Spec PyProof.Rows L2
def rIsXT (K : PySem.W.Frag) (C a : Addr) (d : Option Addr) : List V → Hp → VK → Prop := fun xs H Q => ∃ (tp : Addr) (cs : List V) (us : List Value) (b : Bool) (dd : Addr) (fs : List (Str × V)), xs = [.ref a, .ref tp] ∧ H tp = some (.tup cs) ∧ Paired ClsV cs us ∧ PySem.W.kitAny K (.ref C) us = some b ∧ d = some dd ∧ H dd = some (.xd fs) ∧ Q (.bl b) H
theorem call_isXT {X : Cx} {a C : Addr} {d : Option Addr} {oe : Obj} {pn : List (Addr × Obj)} (T : ExcC X.K C) (hz : Zc (.ref C) d oe) (hf : ∃ vs, oe.data = .fields vs) : CallR (X.suite a ((a, oe) :: pn)) (.builtin "isinstance") (rIsXT X.K C a d) := by
  intro pins s σ H xs us Q I r h
  obtain ⟨tp, cs, ws, b, dd, fs, rfl, hT, k, e, ed, ea, q⟩ := h
  subst ed
  obtain ⟨u1, u2, rfl, rx, rt⟩ := vals2 r
  cases (show u1 = Value.ref a from rx)
  cases (show u2 = Value.ref tp from rt)
  obtain ⟨hget, _⟩ := I.pin (a, oe) (List.mem_append_left _ List.mem_cons_self)
  obtain ⟨vs, hv⟩ := hf
  have hx : ObjOk X.prog X.w H s.heap dd (.xd fs) := I.hok dd _ ea
  obtain ⟨mA, hns, _⟩ := hx
  obtain ⟨od, ho, _⟩ := lookIn_ns hns
  have J : PySem.W.InstAt s.heap a oe C (some od) := ⟨hget, hz.1, by unfold PySem.W.notCls; rw [hv] <;> rfl, by rw [hz.2]; exact ho⟩
  obtain ⟨_, its, rv, o, h1, h2, n, h3⟩ := (show ObjOk X.prog X.w H s.heap tp (.tup cs) from I.hok tp _ hT)
  have e3 := ClsV.all k rv
  subst e3
  obtain ⟨oc, od', dt, sl⟩ := o
  simp only at h2 h3
  subst h2 h3
  exact PySem.W.kia_tup (DLQ.err_kit T) I.kIn J h1 e (fun z => nomatch z) fun tk => ⟨.bl b, H, I.tok tk, rfl, q⟩
section
variable {T : Tab} {X : Cx} {e : Expr} {ma : DM} {pos p p2 np pos' : Pos} {nF : Nat} {a : Addr} {dd : Option Addr} {c : Nat} {oe : Obj} {pn : List (Addr × Obj)}
theorem se_isXT {q : Nat → Option Bool} {cs : List V} {us : List Value} {es : List Expr} {kt : Nat} (tx : TabX T X.K nF) (hz : Zc (.ref (T.exc c)) dd oe) (hf : ∃ vs, oe.data = .fields vs) (hg : Gl X "isinstance") (hm : X.mg "isinstance" = none) (he : SE T (X.suite a ((a, oe) :: pn)) e ma)
    {ta : TA} (hx : PA (X.suite a ((a, oe) :: pn)) es ta) (hta : ∀ σ H Q, Q cs H → ta σ H Q) (hl : Nat.ble cs.length 100 = true) (hv : Paired ClsV cs us) (hq : ∀ b, q c = some b → PySem.W.kitAny X.K (.ref (T.exc c)) us = some b)
    (hs : starEach [e, .Tuple es kt p2] X.env = (false, eval e X.env) :: starEach [.Tuple es kt p2] X.env := by rfl) (hs2 : starEach [.Tuple es kt p2] X.env = (false, eval (.Tuple es kt p2) X.env) :: starEach [] X.env := by rfl)
    (hpl : (backTo pos (starEach [.Tuple es kt p2] X.env)).any (·.1) = false := by rfl) : SE T (X.suite a ((a, oe) :: pn)) (.Call (.Name "isinstance" p) [e, .Tuple es kt p2] [] pos) (dIsX a dd c q ma) := by
  refine ⟨fun W tk => PE.imp (pe_callB (X := X.suite a ((a, oe) :: pn)) (call_isXT (tx.ec c) hz hf) hg hm rfl (pa_cons (he.run W tk) (pa_cons (pe_tup hx) pa_nil hs2) hs) (by decide) (by decide) hs hpl) fun σ H Q h => ?_⟩
  obtain ⟨F, env, μ, Q0, E0, hE, hS, hm, hQ, hX⟩ := h
  refine ⟨F, env, μ, _, E0, hE, hS, hm, fun x μ1 q F1 H1 w l hS1 rv => ?_, hX⟩
  cases x with
  | exn a' dd' c' fs =>
    obtain ⟨e1, e2, e3, e4, q⟩ := q
    subst e1; subst e2; subst e3
    obtain ⟨b, e5, q⟩ := onS2_of q
    cases rv with
    | exn0 => cases e4
    | exn h r =>
      refine hta _ _ _ ⟨Nat.le_trans (Nat.le_of_ble_eq_true hl) (by decide), fun tp n => ?_⟩
      have e := Le.new (o := .tup cs) (hS1.fresh n)
      have hd := hS1.sub _ _ h
      exact ⟨tp, cs, us, b, _, _, rfl, upd_same, hv, hq b e5, rfl, by rw [upd_ne (fun z => by rw [z] at hd; rw [n] at hd; cases hd)]; exact hd, hQ _ μ1 q _ _ _ (l.trans e) (hS1.new n) (.bl b)⟩
  | _ => exact q.elim
end
/-- the error classes against a built-in class; against one of several -/
def kexV (K : PySem.W.Frag) (ex : Nat → Addr) (l : List Bool) (n : String) : Bool := (List.range l.length).all fun c => decide (PySem.W.kitOne K (.ref (ex c)) (.type n) = qExc l c)
theorem kexV_k {K : PySem.W.Frag} {ex : Nat → Addr} {l : List Bool} {n : String} (h : kexV K ex l n = true) : ∀ c b, qExc l c = some b → PySem.W.kitOne K (.ref (ex c)) (.type n) = some b := fun c b e => by
  obtain ⟨hc, _⟩ := List.getElem?_eq_some_iff.mp e
  rw [← e]; exact of_decide_eq_true (List.all_eq_true.mp h c (List.mem_range.mpr hc))
def kexT (K : PySem.W.Frag) (ex : Nat → Addr) (l : List Bool) (us : List Value) : Bool := (List.range l.length).all fun c => decide (PySem.W.kitAny K (.ref (ex c)) us = qExc l c)
theorem kexT_k {K : PySem.W.Frag} {ex : Nat → Addr} {l : List Bool} {us : List Value} (h : kexT K ex l us = true) : ∀ c b, qExc l c = some b → PySem.W.kitAny K (.ref (ex c)) us = some b := fun c b e => by
  obtain ⟨hc, _⟩ := List.getElem?_eq_some_iff.mp e
  rw [← e]; exact of_decide_eq_true (List.all_eq_true.mp h c (List.mem_range.mpr hc))
end DL

/-! XL1: readings that can be run: a def as a function over trees. Cells are the slots' own; what is run in the slots is mirrored in the cells. -/
namespace DL
open PySem PySem.Spec L2
abbrev XEnv := List (Option D)
/-- a value, or the slot where it stands -/
inductive Rf where
  | v (d : D) | s (i : Nat)
inductive XR (α : Type) where
  | ok (a : α) (e : XEnv) | er (x : Exn) (e : XEnv)
abbrev XM (α : Type) := XEnv → Option (XR α)
abbrev XE := XM Rf
abbrev XA := XM (List Rf)
abbrev XT := XM Bool
def xb {α β : Type} (a : Option (XR α)) (k : α → XEnv → Option (XR β)) : Option (XR β) := match a with
  | some (.ok a e) => k a e
  | some (.er x e) => some (.er x e)
  | none => none
def drf (e : XEnv) : Rf → Option D
  | .v d => some d
  | .s i => (e[i]?).join
inductive XO where
  | nx (e : XEnv) | rt (d : D) (e : XEnv) | bk (e : XEnv) | ct (e : XEnv) | ex (x : Exn) (e : XEnv)
abbrev XS := XEnv → Option XO
/-- a step of a statement: an expression, then -/
def xo {α : Type} (a : Option (XR α)) (k : α → XEnv → Option XO) : Option XO := match a with
  | some (.ok a e) => k a e
  | some (.er x e) => some (.ex x e)
  | none => none
inductive XFR where
  | ok (d : D) (outs : List D) | er (x : Exn) (outs : List D)
abbrev XF := List D → Option XFR

/-! ### what a tree stands for -/
def mcD : D → Option MC
  | .lst xs => some (.lst xs)
  | .dK k => some (.dK k)
  | .dT k => some (.dT k)
  | .ins c fs => some (.ins c fs)
  | _ => none
/-- no cell -/
def nc : D → Bool
  | .cell _ => false
  | _ => true
inductive RV (μ : Sto) : D → D → Prop
  | eq (v : D) : RV μ v v
  | cl {a : Addr} {v : D} {c : MC} (h : μ a = some c) (e : mcD v = some c) : RV μ (.cell a) v
theorem RV.mono {μ μ' : Sto} {d v : D} (h : RV μ d v) (k : ∀ a, d = .cell a → ∀ c, μ a = some c → μ' a = some c) : RV μ' d v := by
  cases h with
  | eq => exact .eq _
  | cl h e => exact .cl (k _ rfl _ h) e
theorem nc_mc {v : D} {c : MC} (h : mcD v = some c) : nc v = true := by cases v <;> first | rfl | cases h
/-- the slots: with cells of their own; lent; parameters that are changed; errors; kept as they are; is a cell handed back -/
structure Sl where
  ow : List Nat
  bo : List Nat
  mp : List Nat
  xs : List Nat
  ct : List Nat
  rc : Bool
  hp : Option (Nat × Addr × Option Addr × Nat)
def Sl.lock (sl : Sl) (i : Nat) : Sl := { sl with ct := i :: sl.ct }
structure Fm where
  μ0 : Sto
  P : List (Nat × Addr)
  B : List (Nat × D × D)
structure ER (fm : Fm) (sl : Sl) (env : Env') (e : XEnv) (μ : Sto) : Prop where
  len : env.length = e.length
  fz : ∀ i v, i ∉ sl.ow → i ∉ sl.bo → i ∉ sl.xs → e[i]? = some (some v) → env[i]? = some (some v)
  bo : ∀ i v, i ∈ sl.bo → e[i]? = some (some v) → ∃ d, env[i]? = some (some d) ∧ RV μ d v ∧ nc v = true
  ow : ∀ i v, i ∈ sl.ow → e[i]? = some (some v) → ∃ a c, env[i]? = some (some (.cell a)) ∧ μ a = some c ∧ mcD v = some c
  di : ∀ i j a v w, i ∈ sl.ow → (j ∈ sl.ow ∨ j ∈ sl.bo) → i ≠ j → e[i]? = some (some v) → e[j]? = some (some w) → env[i]? = some (some (.cell a)) → env[j]? ≠ some (some (.cell a))
  fr : ∀ b c, fm.μ0 b = some c → (∀ p ∈ fm.P, p.2 ≠ b) → μ b = some c
  nw : ∀ i a v, i ∈ sl.ow → e[i]? = some (some v) → env[i]? = some (some (.cell a)) → fm.μ0 a = none ∨ (i, a) ∈ fm.P
  pa : ∀ p ∈ fm.P, p.1 ∈ sl.mp ∧ p.1 ∈ sl.ow ∧ (∃ v, e[p.1]? = some (some v)) ∧ env[p.1]? = some (some (.cell p.2))
  bc : ∀ q ∈ fm.B, q.1 ∈ sl.ct ∧ env[q.1]? = some (some q.2.1) ∧ e[q.1]? = some (some q.2.2)
  hx : ∀ q, sl.hp = some q → q.1 ∈ sl.xs ∧ ∀ v, e[q.1]? = some (some v) → ∃ fs, v = .exn 0 none q.2.2.2 fs ∧ env[q.1]? = some (some (.exn q.2.1 q.2.2.1 q.2.2.2 fs))
/-- what is left of it at a def's end -/
structure EndR (fm : Fm) (e : XEnv) (μ : Sto) : Prop where
  fr : ∀ b c, fm.μ0 b = some c → (∀ p ∈ fm.P, p.2 ≠ b) → μ b = some c
  pa : ∀ p ∈ fm.P, ∃ v c, e[p.1]? = some (some v) ∧ μ p.2 = some c ∧ mcD v = some c
section
variable {fm : Fm} {sl : Sl} {env : Env'} {e : XEnv} {μ : Sto}
theorem ER.end_ (h : ER fm sl env e μ) : EndR fm e μ := ⟨h.fr, fun p hp => by
  obtain ⟨_, h1, ⟨v, h2⟩, h3⟩ := h.pa p hp
  obtain ⟨a, c, e1, e2, e3⟩ := h.ow _ v h1 h2
  rw [h3] at e1; cases e1
  exact ⟨v, c, h2, e2, e3⟩⟩
/-- a new cell is new to all -/
theorem ER.free (h : ER fm sl env e μ) {a : Addr} (n : μ a = none) : fm.μ0 a = none ∧ (∀ p ∈ fm.P, p.2 ≠ a) := by
  have hp : ∀ p ∈ fm.P, p.2 ≠ a := fun p hp z => by
    obtain ⟨v, c, _, e2, _⟩ := h.end_.pa p hp
    rw [z, n] at e2; cases e2
  refine ⟨?_, hp⟩
  cases q : fm.μ0 a with
  | none => rfl
  | some c => have := h.fr a c q hp; rw [n] at this; cases this
theorem ER.grow (h : ER fm sl env e μ) {μ' : Sto} (k : ∀ a c, μ a = some c → μ' a = some c) : ER fm sl env e μ' :=
  ⟨h.len, h.fz, fun i v hi q => let ⟨d, h1, h2, h3⟩ := h.bo i v hi q; ⟨d, h1, h2.mono fun a _ c z => k a c z, h3⟩, fun i v hi q => let ⟨a, c, h1, h2, h3⟩ := h.ow i v hi q; ⟨a, c, h1, k a c h2, h3⟩, h.di, fun b c q z => k b c (h.fr b c q z), h.nw, h.pa, h.bc, h.hx⟩
theorem getSet {α : Type} {l : List α} {i : Nat} {x y : α} (h : (l.set i x)[i]? = some y) : y = x := by
  rw [List.getElem?_set, if_pos rfl] at h
  split at h <;> cases h
  rfl
/-- a frozen slot is set -/
theorem ER.setFz (h : ER fm sl env e μ) {i : Nat} (h1 : i ∉ sl.ow) (h2 : i ∉ sl.bo) (h3 : i ∉ sl.xs) (h4 : i ∉ sl.ct) (v : D) : ER fm sl (env.set i (some v)) (e.set i (some v)) μ := by
  have ne : ∀ {j : Nat}, j ∈ sl.ow ∨ j ∈ sl.bo ∨ j ∈ sl.xs ∨ j ∈ sl.ct → i ≠ j := fun hj z => by subst z; rcases hj with hj | hj | hj | hj <;> contradiction
  refine ⟨by simp [h.len], fun j w a1 a2 a3 q => ?_, fun j w hj q => ?_, fun j w hj q => ?_, fun j k a w w' hj hk n q q' r => ?_, h.fr, fun j a w hj q r => ?_, fun p hp => ?_, fun q hq => ?_, fun q hq => ?_⟩
  · by_cases hj : i = j
    · subst hj
      have := getSet q; cases this
      rw [List.getElem?_set, if_pos rfl] at q ⊢
      rw [h.len]; split at q <;> first | cases q | skip
      rw [if_pos (by assumption)]
    · rw [List.getElem?_set_ne hj] at q ⊢; exact h.fz j w a1 a2 a3 q
  · have hn := ne (.inr (.inl hj)); rw [List.getElem?_set_ne hn] at q ⊢; exact h.bo j w hj q
  · have hn := ne (.inl hj); rw [List.getElem?_set_ne hn] at q ⊢; exact h.ow j w hj q
  · have hn := ne (.inl hj); have hm : i ≠ k := ne (hk.elim .inl fun z => .inr (.inl z))
    rw [List.getElem?_set_ne hn] at q r; rw [List.getElem?_set_ne hm] at q' ⊢; exact h.di j k a w w' hj hk n q q' r
  · have hn := ne (.inl hj); rw [List.getElem?_set_ne hn] at q r; exact h.nw j a w hj q r
  · obtain ⟨p1, p2, p3, p4⟩ := h.pa p hp
    have hn := ne (.inl p2); rw [List.getElem?_set_ne hn, List.getElem?_set_ne hn]; exact ⟨p1, p2, p3, p4⟩
  · obtain ⟨p1, p2, p3⟩ := h.bc q hq
    have hn := ne (.inr (.inr (.inr p1))); rw [List.getElem?_set_ne hn, List.getElem?_set_ne hn]; exact ⟨p1, p2, p3⟩
  · obtain ⟨p1, p2⟩ := h.hx q hq
    have hn := ne (.inr (.inr (.inl p1))); rw [List.getElem?_set_ne hn, List.getElem?_set_ne hn]; exact ⟨p1, p2⟩
/-- a slot is unset: in the run, and there perhaps -/
theorem ER.unset (h : ER fm sl env e μ) {i : Nat} (h1 : i ∉ sl.mp) (h4 : i ∉ sl.ct) : ER fm sl env (e.set i none) μ := by
  have ne : ∀ {j : Nat} {v : D}, (e.set i none)[j]? = some (some v) → i ≠ j ∧ e[j]? = some (some v) := fun {j v} q => by
    by_cases hj : i = j
    · subst hj; have := getSet q; cases this
    · rw [List.getElem?_set_ne hj] at q; exact ⟨hj, q⟩
  refine ⟨by simp [h.len], fun j w a1 a2 a3 q => h.fz j w a1 a2 a3 (ne q).2, fun j w hj q => h.bo j w hj (ne q).2, fun j w hj q => h.ow j w hj (ne q).2, fun j k a w w' hj hk n q q' r => h.di j k a w w' hj hk n (ne q).2 (ne q').2 r, h.fr, fun j a w hj q r => h.nw j a w hj (ne q).2 r, fun p hp => ?_, fun q hq => ?_, fun q hq => ?_⟩
  · obtain ⟨p1, p2, p3, p4⟩ := h.pa p hp
    rw [List.getElem?_set_ne (fun z => h1 (by rw [z]; exact p1))]; exact ⟨p1, p2, p3, p4⟩
  · obtain ⟨p1, p2, p3⟩ := h.bc q hq
    rw [List.getElem?_set_ne (fun z => h4 (by rw [z]; exact p1))]; exact ⟨p1, p2, p3⟩
  · obtain ⟨p1, p2⟩ := h.hx q hq
    exact ⟨p1, fun v z => p2 v (ne z).2⟩
/-- slots that the run does not know may hold anything there -/
theorem ER.off (h : ER fm sl env e μ) {i : Nat} (hi : ∀ v, e[i]? ≠ some (some v)) (o : Option D) : ER fm sl (env.set i o) e μ := by
  have ne : ∀ {j : Nat} {v : D}, e[j]? = some (some v) → i ≠ j := fun {j v} q z => by subst z; exact hi v q
  refine ⟨by simp [h.len], fun j w a1 a2 a3 q => ?_, fun j w hj q => ?_, fun j w hj q => ?_, fun j k a w w' hj hk n q q' r => ?_, h.fr, fun j a w hj q r => ?_, fun p hp => ?_, fun q hq => ?_, fun q hq => ?_⟩
  · rw [List.getElem?_set_ne (ne q)]; exact h.fz j w a1 a2 a3 q
  · rw [List.getElem?_set_ne (ne q)]; exact h.bo j w hj q
  · rw [List.getElem?_set_ne (ne q)]; exact h.ow j w hj q
  · rw [List.getElem?_set_ne (ne q)] at r; rw [List.getElem?_set_ne (ne q')]; exact h.di j k a w w' hj hk n q q' r
  · rw [List.getElem?_set_ne (ne q)] at r; exact h.nw j a w hj q r
  · obtain ⟨p1, p2, ⟨v, p3⟩, p4⟩ := h.pa p hp
    rw [List.getElem?_set_ne (ne p3)]; exact ⟨p1, p2, ⟨v, p3⟩, p4⟩
  · obtain ⟨p1, p2, p3⟩ := h.bc q hq
    rw [List.getElem?_set_ne (ne p3)]; exact ⟨p1, p2, p3⟩
  · obtain ⟨p1, p2⟩ := h.hx q hq
    exact ⟨p1, fun v z => by rw [List.getElem?_set_ne (ne z)]; exact p2 v z⟩
/-- a cell of one's own is set to something else -/
theorem ER.setOw (h : ER fm sl env e μ) {i : Nat} {a : Addr} {v0 v : D} {c : MC} (h1 : i ∈ sl.ow) (h4 : i ∉ sl.ct) (hx : i ∉ sl.xs) (q0 : e[i]? = some (some v0)) (r0 : env[i]? = some (some (.cell a))) (hc : mcD v = some c) : ER fm sl env (e.set i (some v)) (upm μ a c) := by
  have il : i < e.length := by
    rcases Nat.lt_or_ge i e.length with z | z
    · exact z
    · rw [List.getElem?_eq_none z] at q0; cases q0
  have gs : (e.set i (some v))[i]? = some (some v) := by rw [List.getElem?_set, if_pos rfl, if_pos il]
  have get : ∀ {j : Nat} {w : D}, (e.set i (some v))[j]? = some (some w) → (i = j ∧ w = v) ∨ (i ≠ j ∧ e[j]? = some (some w)) := fun {j w} q => by
    by_cases hj : i = j
    · subst hj; have := getSet q; cases this; exact .inl ⟨rfl, rfl⟩
    · rw [List.getElem?_set_ne hj] at q; exact .inr ⟨hj, q⟩
  have old : ∀ {j : Nat} {w : D}, (e.set i (some v))[j]? = some (some w) → ∃ w0, e[j]? = some (some w0) := fun {j w} q => (get q).elim (fun z => ⟨v0, z.1 ▸ q0⟩) fun z => ⟨w, z.2⟩
  refine ⟨by simp [h.len], fun j w a1 a2 a3 q => ?_, fun j w hj q => ?_, fun j w hj q => ?_, fun j k b w w' hj hk n q q' r => ?_, fun b m q z => ?_, fun j b w hj q r => ?_, fun p hp => ?_, fun q hq => ?_, fun q hq => ?_⟩
  · rcases get q with ⟨rfl, rfl⟩ | ⟨n, q⟩
    · exact absurd h1 a1
    · exact h.fz j w a1 a2 a3 q
  · rcases get q with ⟨rfl, rfl⟩ | ⟨n, q⟩
    · obtain ⟨d, e1, _⟩ := h.bo i v0 hj q0
      rw [r0] at e1; cases e1
      exact ⟨_, r0, .cl upm_same hc, nc_mc hc⟩
    · obtain ⟨d, e1, e2, e3⟩ := h.bo j w hj q
      refine ⟨d, e1, e2.mono fun b ed m em => ?_, e3⟩
      subst ed
      rw [upm_ne (fun z => by subst z; exact h.di i j b v0 w h1 (.inr hj) n q0 q r0 e1)]; exact em
  · rcases get q with ⟨rfl, rfl⟩ | ⟨n, q⟩
    · exact ⟨a, c, r0, upm_same, hc⟩
    · obtain ⟨b, m, e1, e2, e3⟩ := h.ow j w hj q
      refine ⟨b, m, e1, ?_, e3⟩
      rw [upm_ne (fun z => by subst z; exact h.di i j b v0 w h1 (.inl hj) n q0 q r0 e1)]; exact e2
  · obtain ⟨w0, q⟩ := old q
    obtain ⟨w1, q'⟩ := old q'
    exact h.di j k b w0 w1 hj hk n q q' r
  · have := h.fr b m q z
    refine (upm_ne fun w => ?_).trans this
    subst w
    rcases h.nw i b v0 h1 q0 r0 with y | y
    · rw [y] at q; cases q
    · exact z _ y rfl
  · obtain ⟨w0, q⟩ := old q; exact h.nw j b w0 hj q r
  · obtain ⟨p1, p2, ⟨w, p3⟩, p4⟩ := h.pa p hp
    refine ⟨p1, p2, ?_, p4⟩
    by_cases z : i = p.1
    · exact ⟨v, z ▸ gs⟩
    · exact ⟨w, by rw [List.getElem?_set_ne z]; exact p3⟩
  · obtain ⟨p1, p2, p3⟩ := h.bc q hq
    rw [List.getElem?_set_ne (fun z => h4 (by rw [z]; exact p1))]; exact ⟨p1, p2, p3⟩
  · obtain ⟨p1, p2⟩ := h.hx q hq
    refine ⟨p1, fun v' z => ?_⟩
    rw [List.getElem?_set_ne (fun y => hx (by rw [y]; exact p1))] at z
    exact p2 v' z
/-- a slot of one's own gets a new cell -/
theorem ER.newOw (h : ER fm sl env e μ) {i : Nat} {a : Addr} {v : D} {c : MC} (h1 : i ∈ sl.ow) (hb : i ∉ sl.bo) (hm : i ∉ sl.mp) (h4 : i ∉ sl.ct) (hx : i ∉ sl.xs) (n : μ a = none) (hc : mcD v = some c) : ER fm sl (env.set i (some (.cell a))) (e.set i (some v)) (upm μ a c) := by
  obtain ⟨f1, f2⟩ := h.free n
  have g := h.grow (μ' := upm μ a c) fun b m q => by rw [upm_ne (fun z => by subst z; rw [n] at q; cases q)]; exact q
  have get : ∀ {j : Nat} {w : D}, (e.set i (some v))[j]? = some (some w) → (i = j ∧ w = v ∧ i < e.length) ∨ (i ≠ j ∧ e[j]? = some (some w)) := fun {j w} q => by
    by_cases hj : i = j
    · subst hj
      have := getSet q; cases this
      rw [List.getElem?_set, if_pos rfl] at q
      split at q
      · exact .inl ⟨rfl, rfl, by assumption⟩
      · cases q
    · rw [List.getElem?_set_ne hj] at q; exact .inr ⟨hj, q⟩
  have es : i < e.length → (env.set i (some (D.cell a)))[i]? = some (some (.cell a)) := fun z => by rw [List.getElem?_set, if_pos rfl, if_pos (by rw [h.len]; exact z)]
  have used : ∀ {j : Nat} {w : D}, j ∈ sl.ow ∨ j ∈ sl.bo → e[j]? = some (some w) → env[j]? = some (some (.cell a)) → False := fun {j w} hj q r => by
    rcases hj with hj | hj
    · obtain ⟨b, m, e1, e2, e3⟩ := h.ow j w hj q
      rw [r] at e1; cases e1; rw [n] at e2; cases e2
    · obtain ⟨d, e1, e2, e3⟩ := h.bo j w hj q
      rw [r] at e1; cases e1
      cases e2 with
      | eq => cases e3
      | cl e4 _ => rw [n] at e4; cases e4
  have un : ∀ {j : Nat} {p : D}, i ≠ j → (env.set i (some (D.cell a)))[j]? = some (some p) → env[j]? = some (some p) := fun hn q => by rw [List.getElem?_set_ne hn] at q; exact q
  refine ⟨by simp [h.len], fun j w a1 a2 a3 q => ?_, fun j w hj q => ?_, fun j w hj q => ?_, fun j k b w w' hj hk n' q q' r r' => ?_, g.fr, fun j b w hj q r => ?_, fun p hp => ?_, fun q hq => ?_, fun q hq => ?_⟩
  · rcases get q with ⟨rfl, rfl, z⟩ | ⟨hn, q⟩
    · exact absurd h1 a1
    · rw [List.getElem?_set_ne hn]; exact h.fz j w a1 a2 a3 q
  · rcases get q with ⟨rfl, rfl, z⟩ | ⟨hn, q⟩
    · exact absurd hj hb
    · rw [List.getElem?_set_ne hn]; exact g.bo j w hj q
  · rcases get q with ⟨rfl, rfl, z⟩ | ⟨hn, q⟩
    · exact ⟨a, c, es z, upm_same, hc⟩
    · rw [List.getElem?_set_ne hn]; exact g.ow j w hj q
  · rcases get q with ⟨rfl, rfl, z⟩ | ⟨hn, q2⟩
    · rw [es z] at r; cases r
      rcases get q' with ⟨rfl, _, _⟩ | ⟨hm, q3⟩
      · exact n' rfl
      · exact used hk q3 (un hm r')
    · have r2 := un hn r
      rcases get q' with ⟨rfl, rfl, z⟩ | ⟨hm, q3⟩
      · rw [es z] at r'; cases r'; exact used (.inl hj) q2 r2
      · exact h.di j k b w w' hj hk n' q2 q3 r2 (un hm r')
  · rcases get q with ⟨rfl, rfl, z⟩ | ⟨hn, q⟩
    · rw [es z] at r; cases r; exact .inl f1
    · exact h.nw j b w hj q (un hn r)
  · obtain ⟨p1, p2, p3, p4⟩ := h.pa p hp
    have hn : i ≠ p.1 := fun z => hm (by rw [z]; exact p1)
    rw [List.getElem?_set_ne hn, List.getElem?_set_ne hn]; exact ⟨p1, p2, p3, p4⟩
  · obtain ⟨p1, p2, p3⟩ := h.bc q hq
    have hn : i ≠ q.1 := fun z => h4 (by rw [z]; exact p1)
    rw [List.getElem?_set_ne hn, List.getElem?_set_ne hn]; exact ⟨p1, p2, p3⟩
  · obtain ⟨p1, p2⟩ := h.hx q hq
    have hn : i ≠ q.1 := fun z => hx (by rw [z]; exact p1)
    rw [List.getElem?_set_ne hn, List.getElem?_set_ne hn]; exact ⟨p1, p2⟩
end
end DL

/-! XL2: expressions that can be run. -/
namespace DL
open PySem PySem.Spec L2
def PX {α : Type} (r : Option (XR α)) (ok : α → XEnv → Prop) (er : Exn → XEnv → Prop) : Prop := match r with
  | some (.ok a e) => ok a e
  | some (.er x e) => er x e
  | none => False
theorem PX.bind {α β : Type} {a : Option (XR α)} {k : α → XEnv → Option (XR β)} {ok : β → XEnv → Prop} {er : Exn → XEnv → Prop} (h : PX (xb a k) ok er) : PX a (fun x e => PX (k x e) ok er) er := by
  cases a with
  | none => exact h
  | some r => cases r <;> exact h
theorem PX.mono {α : Type} {a : Option (XR α)} {ok ok' : α → XEnv → Prop} {er er' : Exn → XEnv → Prop} (h : PX a ok er) (k : ∀ x e, ok x e → ok' x e) (k' : ∀ x e, er x e → er' x e) : PX a ok' er' := by
  cases a with
  | none => exact h
  | some r => cases r <;> first | exact k _ _ h | exact k' _ _ h
theorem PX.opt {α β : Type} {o : Option α} {k : α → Option (XR β)} {ok : β → XEnv → Prop} {er : Exn → XEnv → Prop} (h : PX (o.bind k) ok er) : ∃ a, o = some a ∧ PX (k a) ok er := by
  cases o with
  | none => exact h.elim
  | some a => exact ⟨a, rfl, h⟩
theorem PX.ite {α : Type} {c : Prop} [Decidable c] {a : Option (XR α)} {ok : α → XEnv → Prop} {er : Exn → XEnv → Prop} (h : PX (if c then a else none) ok er) : c ∧ PX a ok er := by
  split at h
  · exact ⟨by assumption, h⟩
  · exact h.elim
def RfR (sl : Sl) (env : Env') (d : D) : Rf → Prop
  | .v v => d = v
  | .s i => (i ∈ sl.ow ∨ i ∈ sl.bo) ∧ env[i]? = some (some d)
def RfRs (sl : Sl) (env : Env') : List D → List Rf → Prop
  | [], [] => True
  | d :: ds, r :: rs => RfR sl env d r ∧ RfRs sl env ds rs
  | _, _ => False
def SndE (sl : Sl) (x : XE) (m : DM) : Prop := ∀ (fm : Fm) (env : Env') (e : XEnv) (μ : Sto), ER fm sl env e μ → ∀ (Q : DQ) (E : DX),
  PX (x e) (fun r e' => ∀ d μ', RfR sl env d r → ER fm sl env e' μ' → Q d μ') (fun y e' => ∀ μ', ER fm sl env e' μ' → E y μ') → m env μ Q E
/-- what gives a new cell -/
def SndC (sl : Sl) (x : XE) (m : DM) : Prop := ∀ (fm : Fm) (env : Env') (e : XEnv) (μ : Sto), ER fm sl env e μ → ∀ (Q : DQ) (E : DX),
  PX (x e) (fun r e' => ∀ v c a μ', r = .v v → mcD v = some c → ER fm sl env e' μ' → μ' a = none → Q (.cell a) (upm μ' a c)) (fun y e' => ∀ μ', ER fm sl env e' μ' → E y μ') → m env μ Q E
def SndT (sl : Sl) (x : XT) (m : DT) : Prop := ∀ (fm : Fm) (env : Env') (e : XEnv) (μ : Sto), ER fm sl env e μ → ∀ (Q : Bool → Sto → Prop) (E : DX),
  PX (x e) (fun b e' => ∀ μ', ER fm sl env e' μ' → Q b μ') (fun y e' => ∀ μ', ER fm sl env e' μ' → E y μ') → m env μ Q E
def SndA (sl : Sl) (x : XA) (m : DA) : Prop := ∀ (fm : Fm) (env : Env') (e : XEnv) (μ : Sto), ER fm sl env e μ → ∀ (Q : List D → Sto → Prop) (E : DX),
  PX (x e) (fun rs e' => ∀ ds μ', RfRs sl env ds rs → ER fm sl env e' μ' → Q ds μ') (fun y e' => ∀ μ', ER fm sl env e' μ' → E y μ') → m env μ Q E
/-- an operator run -/
def OpX (g : D → D → Option D) (gD : DR2) : Prop := ∀ v1 v2 r d1 d2 μ (Q : DQ), g v1 v2 = some r → RV μ d1 v1 → RV μ d2 v2 → Q r μ → gD d1 d2 μ Q
theorem drf_rv {fm : Fm} {sl : Sl} {env : Env'} {e : XEnv} {μ : Sto} {d v : D} : ∀ {r : Rf}, RfR sl env d r → ER fm sl env e μ → drf e r = some v → RV μ d v
  | .v w, h, _, q => by cases h; cases q; exact .eq _
  | .s i, ⟨h1, h2⟩, hE, q => by
    have q' : e[i]? = some (some v) := by
      have q : (e[i]?).join = some v := q
      cases z : e[i]? with
      | none => rw [z] at q; cases q
      | some o => rw [z] at q; cases o with
        | none => cases q
        | some w => cases q; rfl
    rcases h1 with h1 | h1
    · obtain ⟨a, c, e1, e2, e3⟩ := hE.ow i v h1 q'
      rw [h2] at e1; cases e1
      exact .cl e2 e3
    · obtain ⟨d', e1, e2, _⟩ := hE.bo i v h1 q'
      rw [h2] at e1; cases e1
      exact e2
theorem join_some {e : XEnv} {i : Nat} {v : D} (q : (e[i]?).join = some v) : e[i]? = some (some v) := by
  cases z : e[i]? with
  | none => rw [z] at q; cases q
  | some o => rw [z] at q; cases o with
    | none => cases q
    | some w => cases q; rfl

/-! ### names, constants, operators -/
def xVar (i : Nat) : XE := fun e => (e[i]?).join.bind fun d => some (.ok (.v d) e)
def xSlot (i : Nat) : XE := fun e => (e[i]?).join.bind fun _ => some (.ok (.s i) e)
def xC (d : D) : XE := fun e => some (.ok (.v d) e)
def xOp (g : D → D → Option D) (a b : XE) : XE := fun e => xb (a e) fun r1 e1 => xb (b e1) fun r2 e2 => (drf e2 r1).bind fun v1 => (drf e2 r2).bind fun v2 => (g v1 v2).bind fun r => some (.ok (.v r) e2)
section
variable {sl : Sl} {x y z : XE} {m ma mb mc : DM} {t u : XT} {mt mu : DT} {as : XA} {mas : DA}
theorem s_var (i : Nat) (h1 : i ∉ sl.ow := by first | decide | (dsimp only [Sl.hand, Sl.lock]; decide)) (h2 : i ∉ sl.bo := by first | decide | (dsimp only [Sl.hand, Sl.lock]; decide)) (h3 : i ∉ sl.xs := by first | decide | (dsimp only [Sl.hand, Sl.lock]; decide)) : SndE sl (xVar i) (dVar i) := fun fm env e μ hE Q E h => by
  obtain ⟨d, q, h⟩ := PX.opt h
  exact I_var (hE.fz i d h1 h2 h3 (join_some q)) (h d μ rfl hE)
theorem s_slot (i : Nat) (h1 : i ∈ sl.ow ∨ i ∈ sl.bo := by first | decide | (dsimp only [Sl.hand, Sl.lock]; decide)) : SndE sl (xSlot i) (dVar i) := fun fm env e μ hE Q E h => by
  obtain ⟨d, q, h⟩ := PX.opt h
  have q := join_some q
  have : ∃ d', env[i]? = some (some d') := by
    rcases h1 with h1 | h1
    · obtain ⟨a, c, e1, _⟩ := hE.ow i d h1 q; exact ⟨_, e1⟩
    · obtain ⟨d', e1, _⟩ := hE.bo i d h1 q; exact ⟨_, e1⟩
  obtain ⟨d', e1⟩ := this
  exact I_var e1 (h d' μ ⟨h1, e1⟩ hE)
theorem s_c (d : D) : SndE sl (xC d) (dC d) := fun fm env e μ hE Q E h => h d μ rfl hE
theorem s_op {g : D → D → Option D} {gD : DR2} (o : OpX g gD) (ha : SndE sl x ma) (hb : SndE sl y mb) : SndE sl (xOp g x y) (dOp gD ma mb) := fun fm env e μ hE Q E h => by
  refine I_op (ha fm env e μ hE _ _ (PX.mono (PX.bind h) (fun r1 e1 h1 d1 μ1 k1 hE1 => ?_) fun _ _ k => k))
  refine hb fm env e1 μ1 hE1 _ _ (PX.mono (PX.bind h1) (fun r2 e2 h2 d2 μ2 k2 hE2 => ?_) fun _ _ k => k)
  obtain ⟨v1, q1, h2⟩ := PX.opt h2
  obtain ⟨v2, q2, h2⟩ := PX.opt h2
  obtain ⟨r, q3, h2⟩ := PX.opt h2
  exact o v1 v2 r d1 d2 μ2 Q q3 (drf_rv k1 hE2 q1) (drf_rv k2 hE2 q2) (h2 r μ2 rfl hE2)
/-! ### tests -/
def blD : D → Option Bool
  | .bl b => some b
  | _ => none
theorem blD_of {v : D} {b : Bool} (h : blD v = some b) : v = .bl b := by cases v <;> cases h; rfl
theorem RV.bl {μ : Sto} {d : D} {b : Bool} (h : RV μ d (.bl b)) : d = .bl b := by cases h with
  | eq => rfl
  | cl _ e => cases e
theorem RV.int {μ : Sto} {d : D} {b : Int} (h : RV μ d (.int b)) : d = .int b := by cases h with
  | eq => rfl
  | cl _ e => cases e
theorem RV.str {μ : Sto} {d : D} {b : Str} (h : RV μ d (.str b)) : d = .str b := by cases h with
  | eq => rfl
  | cl _ e => cases e
theorem RV.non {μ : Sto} {d : D} (h : RV μ d .non) : d = .non := by cases h with
  | eq => rfl
  | cl _ e => cases e
theorem RV.tup {μ : Sto} {d : D} {b : List D} (h : RV μ d (.tup b)) : d = .tup b := by cases h with
  | eq => rfl
  | cl _ e => cases e
def xTst (a : XE) : XT := fun e => xb (a e) fun r e1 => ((drf e1 r).bind blD).bind fun b => some (.ok b e1)
def xAnd (t u : XT) : XT := fun e => xb (t e) fun b e1 => if b = true then u e1 else some (.ok false e1)
def xOr (t u : XT) : XT := fun e => xb (t e) fun b e1 => if b = true then some (.ok true e1) else u e1
def xNot (t : XT) : XT := fun e => xb (t e) fun b e1 => some (.ok (!b) e1)
def xAndV (a b : XE) : XE := fun e => xb (a e) fun r e1 => ((drf e1 r).bind blD).bind fun k => if k = true then b e1 else some (.ok (.v (.bl false)) e1)
def xOrV (a b : XE) : XE := fun e => xb (a e) fun r e1 => ((drf e1 r).bind blD).bind fun k => if k = true then some (.ok (.v (.bl true)) e1) else b e1
def xNotV (a : XE) : XE := fun e => xb (a e) fun r e1 => ((drf e1 r).bind blD).bind fun k => some (.ok (.v (.bl (!k))) e1)
def xIf (t : XT) (a b : XE) : XE := fun e => xb (t e) fun k e1 => if k = true then a e1 else b e1
theorem bl_of {fm : Fm} {env : Env'} {e : XEnv} {μ : Sto} {d : D} {r : Rf} {b : Bool} (k : RfR sl env d r) (hE : ER fm sl env e μ) (q : (drf e r).bind blD = some b) : d = .bl b := by
  obtain ⟨v, q1, q2⟩ := Option.bind_eq_some_iff.mp q
  have := drf_rv k hE q1
  rw [blD_of q2] at this
  exact this.bl
theorem s_tst (h : SndE sl x m) : SndT sl (xTst x) (dTst m) := fun fm env e μ hE Q E q => by
  refine I_tst (h fm env e μ hE _ _ (PX.mono (PX.bind q) (fun r e1 q1 d μ1 k hE1 => ?_) fun _ _ k => k))
  obtain ⟨b, q2, q3⟩ := PX.opt q1
  rw [bl_of k hE1 q2]
  exact I_tB (q3 μ1 hE1)
theorem s_and (h : SndT sl t mt) (k : SndT sl u mu) : SndT sl (xAnd t u) (dAnd mt mu) := fun fm env e μ hE Q E q => by
  refine I_and (h fm env e μ hE _ _ (PX.mono (PX.bind q) (fun b e1 q1 μ1 hE1 => ?_) fun _ _ k => k))
  refine I_br (fun z => ?_) (fun z => ?_) <;> subst z
  · exact k fm env e1 μ1 hE1 _ _ q1
  · exact q1 μ1 hE1
theorem s_or (h : SndT sl t mt) (k : SndT sl u mu) : SndT sl (xOr t u) (dOr mt mu) := fun fm env e μ hE Q E q => by
  refine I_or (h fm env e μ hE _ _ (PX.mono (PX.bind q) (fun b e1 q1 μ1 hE1 => ?_) fun _ _ k => k))
  refine I_br (fun z => ?_) (fun z => ?_) <;> subst z
  · exact q1 μ1 hE1
  · exact k fm env e1 μ1 hE1 _ _ q1
theorem s_not (h : SndT sl t mt) : SndT sl (xNot t) (dNot mt) := fun fm env e μ hE Q E q =>
  I_not (h fm env e μ hE _ _ (PX.mono (PX.bind q) (fun b e1 q1 μ1 hE1 => q1 μ1 hE1) fun _ _ k => k))
theorem s_andV (h : SndE sl x ma) (k : SndE sl y mb) : SndE sl (xAndV x y) (dAndV ma mb) := fun fm env e μ hE Q E q => by
  refine I_andV (h fm env e μ hE _ _ (PX.mono (PX.bind q) (fun r e1 q1 d μ1 kr hE1 => ?_) fun _ _ k => k))
  obtain ⟨b, q2, q3⟩ := PX.opt q1
  rw [bl_of kr hE1 q2]
  refine I_avK (I_br (fun z => ?_) (fun z => ?_)) <;> subst z
  · exact k fm env e1 μ1 hE1 _ _ q3
  · exact q3 _ μ1 rfl hE1
theorem s_orV (h : SndE sl x ma) (k : SndE sl y mb) : SndE sl (xOrV x y) (dOrV ma mb) := fun fm env e μ hE Q E q => by
  refine I_orV (h fm env e μ hE _ _ (PX.mono (PX.bind q) (fun r e1 q1 d μ1 kr hE1 => ?_) fun _ _ k => k))
  obtain ⟨b, q2, q3⟩ := PX.opt q1
  rw [bl_of kr hE1 q2]
  refine I_ovK (I_br (fun z => ?_) (fun z => ?_)) <;> subst z
  · exact q3 _ μ1 rfl hE1
  · exact k fm env e1 μ1 hE1 _ _ q3
theorem s_notV (h : SndE sl x ma) : SndE sl (xNotV x) (dNotV ma) := fun fm env e μ hE Q E q => by
  refine I_notV (h fm env e μ hE _ _ (PX.mono (PX.bind q) (fun r e1 q1 d μ1 kr hE1 => ?_) fun _ _ k => k))
  obtain ⟨b, q2, q3⟩ := PX.opt q1
  rw [bl_of kr hE1 q2]
  exact I_nvK (q3 _ μ1 rfl hE1)
theorem s_if (ht : SndT sl t mt) (h : SndE sl x ma) (k : SndE sl y mb) : SndE sl (xIf t x y) (dIf mt ma mb) := fun fm env e μ hE Q E q => by
  refine I_if (ht fm env e μ hE _ _ (PX.mono (PX.bind q) (fun b e1 q1 μ1 hE1 => ?_) fun _ _ k => k))
  refine I_br (fun z => ?_) (fun z => ?_) <;> subst z
  · exact h fm env e1 μ1 hE1 _ _ q1
  · exact k fm env e1 μ1 hE1 _ _ q1
theorem c_if (ht : SndT sl t mt) (h : SndC sl x ma) (k : SndC sl y mb) : SndC sl (xIf t x y) (dIf mt ma mb) := fun fm env e μ hE Q E q => by
  refine I_if (ht fm env e μ hE _ _ (PX.mono (PX.bind q) (fun b e1 q1 μ1 hE1 => ?_) fun _ _ k => k))
  refine I_br (fun z => ?_) (fun z => ?_) <;> subst z
  · exact h fm env e1 μ1 hE1 _ _ q1
  · exact k fm env e1 μ1 hE1 _ _ q1
/-- one thing, reckoned -/
def xU (g : D → Option D) (a : XE) : XE := fun e => xb (a e) fun r e1 => ((drf e1 r).bind g).bind fun v => some (.ok (.v v) e1)
/-- behind one expression: what m does with its value -/
theorem s_un {g : D → Option D} {k : (DQ → DQ)} (hm : ∀ env μ Q E, ma env μ (k Q) E → m env μ Q E) (o : ∀ v w d μ (Q : DQ), g v = some w → RV μ d v → Q w μ → k Q d μ) (h : SndE sl x ma) : SndE sl (xU g x) m := fun fm env e μ hE Q E q => by
  refine hm _ _ _ _ (h fm env e μ hE _ _ (PX.mono (PX.bind q) (fun r e1 q1 d μ1 kr hE1 => ?_) fun _ _ k => k))
  obtain ⟨w, q2, q3⟩ := PX.opt q1
  obtain ⟨v, q4, q5⟩ := Option.bind_eq_some_iff.mp q2
  exact o v w d μ1 Q q5 (drf_rv kr hE1 q4) (q3 w μ1 rfl hE1)
def negD : D → Option D
  | .int i => some (.int (-i))
  | _ => none
theorem s_neg (h : SndE sl x ma) : SndE sl (xU negD x) (dNeg ma) := s_un (k := fun Q x μ1 => match x with
  | .int i => Q (.int (-i)) μ1
  | _ => False) (fun _ _ _ _ h => h) (fun v w d μ Q q r hq => by
    cases v <;> cases q
    rw [r.int]; exact hq) h
def isNX (f : Bool → Bool) (v : D) : Option D := match v with
  | .non => some (.bl (f true))
  | .val _ => none
  | .cell _ => none
  | _ => some (.bl (f false))
theorem s_isN {f : Bool → Bool} (h : SndE sl x ma) : SndE sl (xU (isNX f) x) (dIsN f ma) := s_un (k := fun Q x μ1 => ∃ b, isND x = some b ∧ Q (.bl (f b)) μ1) (fun _ _ _ _ h => h) (fun v w d μ Q q r hq => by
    cases r with
    | eq => cases v <;> cases q <;> exact ⟨_, rfl, hq⟩
    | cl h e => refine ⟨false, rfl, ?_⟩; cases v <;> cases e <;> cases q <;> exact hq) h
def fldX (n : Nat) : D → Option D
  | .ins _ fs => lk fs n
  | _ => none
theorem s_fld {n : Nat} (h : SndE sl x ma) : SndE sl (xU (fldX n) x) (dFld n ma) := s_un (k := fldK n) (fun _ _ _ _ h => I_fld h) (fun v w d μ Q q r hq => by
    cases v <;> first | cases q | skip
    cases r with
    | eq => exact I_fldI q hq
    | cl h e => cases e; exact I_fldC h q hq) h
def isiX (q : Ty → Option Bool) (v : D) : Option D := ((tyD (fun _ => none) v).bind q).map .bl
theorem tyD_rv {μ : Sto} {d v : D} {t : Ty} (r : RV μ d v) (h : tyD (fun _ => none) v = some t) : tyD μ d = some t := by
  cases r with
  | eq => cases d <;> first | exact h | cases h
  | cl h1 e =>
    cases v <;> cases e <;> first | cases h | skip
    all_goals simp only [tyD, h1] <;> exact h
theorem s_isi {q : Ty → Option Bool} (h : SndE sl x ma) : SndE sl (xU (isiX q) x) (dIsi q ma) := s_un (k := fun Q x μ1 => onS2 ((tyD μ1 x).bind q) fun b => Q (.bl b) μ1) (fun _ _ _ _ h => I_isi h) (fun v w d μ Q z r hq => by
    obtain ⟨b, z1, rfl⟩ := Option.map_eq_some_iff.mp z
    obtain ⟨t, z2, z3⟩ := Option.bind_eq_some_iff.mp z1
    exact I_onS2 (v := b) (by rw [tyD_rv r z2]; exact z3) hq) h
/-! ### rows of expressions -/
def xNil : XA := fun e => some (.ok [] e)
def xCons (a : XE) (r : XA) : XA := fun e => xb (a e) fun v e1 => xb (r e1) fun vs e2 => some (.ok (v :: vs) e2)
theorem s_nil : SndA sl xNil dNil := fun fm env e μ hE Q E q => q [] μ trivial hE
theorem s_cons (h : SndE sl x m) (k : SndA sl as mas) : SndA sl (xCons x as) (dCons m mas) := fun fm env e μ hE Q E q => by
  refine I_cons (h fm env e μ hE _ _ (PX.mono (PX.bind q) (fun r e1 q1 d μ1 kr hE1 => ?_) fun _ _ k => k))
  exact k fm env e1 μ1 hE1 _ _ (PX.mono (PX.bind q1) (fun rs e2 q2 ds μ2 ks hE2 => q2 (d :: ds) μ2 ⟨kr, ks⟩ hE2) fun _ _ k => k)
def vsOf : List Rf → Option (List D)
  | [] => some []
  | .v d :: r => (vsOf r).map (d :: ·)
  | _ => none
theorem vsOf_rs {env : Env'} : ∀ {rs : List Rf} {ds vs : List D}, RfRs sl env ds rs → vsOf rs = some vs → ds = vs
  | [], [], vs, _, q => by cases q; rfl
  | .v d :: r, d' :: ds, vs, ⟨h1, h2⟩, q => by
    have q : (vsOf r).map (d :: ·) = some vs := q
    obtain ⟨ws, q1, rfl⟩ := Option.map_eq_some_iff.mp q
    have h1 : d' = d := h1
    rw [h1, vsOf_rs h2 q1]
  | .s _ :: _, _, _, _, q => by cases q
  | [], _ :: _, _, h, _ => h.elim
  | _ :: _, [], _, h, _ => h.elim
def xTup (as : XA) : XE := fun e => xb (as e) fun rs e1 => (vsOf rs).bind fun vs => if vs.length ≤ 1000 then some (.ok (.v (.tup vs)) e1) else none
def xLst (as : XA) : XE := fun e => xb (as e) fun rs e1 => (vsOf rs).bind fun vs => if vs.length ≤ 1000 then some (.ok (.v (.lst vs)) e1) else none
theorem s_tup (h : SndA sl as mas) : SndE sl (xTup as) (dTup mas) := fun fm env e μ hE Q E q => by
  refine I_tup (h fm env e μ hE _ _ (PX.mono (PX.bind q) (fun rs e1 q1 ds μ1 ks hE1 => ?_) fun _ _ k => k))
  obtain ⟨vs, q2, q3⟩ := PX.opt q1
  obtain ⟨q4, q5⟩ := PX.ite q3
  rw [vsOf_rs ks q2]
  exact ⟨Nat.ble_eq_true_of_le q4, q5 _ μ1 rfl hE1⟩
theorem s_lst (h : SndA sl as mas) : SndE sl (xLst as) (dLst false mas) := fun fm env e μ hE Q E q => by
  refine I_lst (h fm env e μ hE _ _ (PX.mono (PX.bind q) (fun rs e1 q1 ds μ1 ks hE1 => ?_) fun _ _ k => k))
  obtain ⟨vs, q2, q3⟩ := PX.opt q1
  obtain ⟨q4, q5⟩ := PX.ite q3
  rw [vsOf_rs ks q2]
  exact ⟨Nat.ble_eq_true_of_le q4, q5 _ μ1 rfl hE1⟩
theorem c_lst (h : SndA sl as mas) : SndC sl (xLst as) (dLst true mas) := fun fm env e μ hE Q E q => by
  refine I_lst (h fm env e μ hE _ _ (PX.mono (PX.bind q) (fun rs e1 q1 ds μ1 ks hE1 => ?_) fun _ _ k => k))
  obtain ⟨vs, q2, q3⟩ := PX.opt q1
  obtain ⟨q4, q5⟩ := PX.ite q3
  rw [vsOf_rs ks q2]
  exact ⟨Nat.ble_eq_true_of_le q4, fun a n => q5 _ _ a μ1 rfl rfl hE1 n⟩
end
end DL

/-! XL3: defs and calls that can be run. -/
namespace DL
open PySem PySem.Spec L2
/-- cells changed one after the other -/
def chg : List (Addr × D) → Sto → Sto
  | [], μ => μ
  | (a, v) :: r, μ => chg r (match mcD v with
    | some c => upm μ a c
    | none => μ)
theorem chg_off : ∀ {zs : List (Addr × D)} {μ : Sto} {b : Addr}, (∀ z ∈ zs, z.1 ≠ b) → chg zs μ b = μ b
  | [], _, _, _ => rfl
  | (a, v) :: r, μ, b, h => by
    unfold chg
    rw [chg_off fun z hz => h z (List.mem_cons_of_mem _ hz)]
    cases mcD v with
    | some c => exact upm_ne (h _ (List.mem_cons_self ..)).symm
    | none => rfl
theorem chg_on : ∀ {zs : List (Addr × D)} {μ : Sto} {b : Addr} {v : D} {c : MC}, (zs.map (·.1)).Nodup → (b, v) ∈ zs → mcD v = some c → chg zs μ b = some c
  | (a, w) :: r, μ, b, v, c, nd, h, e => by
    rw [List.map_cons, List.nodup_cons] at nd
    unfold chg
    rcases List.mem_cons.mp h with h | h
    · cases h
      rw [chg_off fun z hz q => nd.1 (List.mem_map.mpr ⟨z, hz, q⟩), e]
      exact upm_same
    · exact chg_on nd.2 h e
structure ArgR (mp_ bo_ : List Nat) (ds vs : List D) (as : List Addr) (μ : Sto) : Prop where
  len : ds.length = vs.length
  fz : ∀ (j : Nat) (d v : D), ds[j]? = some d → vs[j]? = some v → j ∉ mp_ → j ∉ bo_ → d = v
  bo : ∀ (j : Nat) (d v : D), j ∈ bo_ → ds[j]? = some d → vs[j]? = some v → RV μ d v ∧ nc v = true
  al : as.length = mp_.length
  mp : ∀ (k j : Nat) (a : Addr), mp_[k]? = some j → as[k]? = some a → ds[j]? = some (D.cell a) ∧ ∃ v c, vs[j]? = some v ∧ μ a = some c ∧ mcD v = some c
  nd : as.Nodup
  di : ∀ j ∈ bo_, ∀ a ∈ as, ds[j]? ≠ some (D.cell a)
def PF (rc : Bool) (as : List Addr) (μ : Sto) (r : Option XFR) (Q : DQ) (E : DX) : Prop := match r with
  | some (.ok d outs) => if rc = true then (∃ c, mcD d = some c ∧ ∀ a, μ a = none → Q (.cell a) (upm (chg (as.zip outs) μ) a c)) else Q d (chg (as.zip outs) μ)
  | some (.er y outs) => E y (chg (as.zip outs) μ)
  | none => False
/-- a def's run -/
def SndF (mp bo : List Nat) (rc : Bool) (x : XF) (m : DF) : Prop := ∀ (ds vs : List D) (as : List Addr) (μ : Sto), ArgR mp bo ds vs as μ → ∀ (Q : DQ) (E : DX), PF rc as μ (x vs) Q E → m ds μ Q E

/-! ### statements -/
def RtOk (rc : Bool) (fm : Fm) (d : D) (e : XEnv) (K : DQ) : Prop := match rc with
  | false => ∀ μ', EndR fm e μ' → K d μ'
  | true => ∀ a c μ', EndR fm e μ' → fm.μ0 a = none → (∀ p ∈ fm.P, p.2 ≠ a) → μ' a = some c → mcD d = some c → K (.cell a) μ'
def PO (sl : Sl) (fm : Fm) (r : Option XO) (K : DEnds) : Prop := match r with
  | some (.nx e') => ∀ env' μ', ER fm sl env' e' μ' → K.nx env' μ'
  | some (.rt d e') => RtOk sl.rc fm d e' K.rt
  | some (.bk e') => ∀ env' μ', ER fm sl env' e' μ' → K.bk env' μ'
  | some (.ct e') => ∀ env' μ', ER fm sl env' e' μ' → K.ct env' μ'
  | some (.ex y e') => ∀ env' μ', ER fm sl env' e' μ' → K.ex y env' μ'
  | none => False
def SndS (sl : Sl) (x : XS) (m : DS) : Prop := ∀ (fm : Fm) (env : Env') (e : XEnv) (μ : Sto), ER fm sl env e μ → ∀ (K : DEnds), PO sl fm (x e) K → m env μ K
def outs (mp : List Nat) (e : XEnv) : List D := mp.map fun i => ((e[i]?).join).getD .non
def xDef (n N : Nat) (mp : List Nat) (body : XS) : XF := fun vs => if vs.length = n then (match body (stE N vs) with
  | some (.nx e) => some (.ok .non (outs mp e))
  | some (.rt d e) => some (.ok d (outs mp e))
  | some (.ex y e) => some (.er y (outs mp e))
  | _ => none) else none
theorem stE_get {N : Nat} {vs : List D} {i : Nat} {v : D} (h : (stE N vs)[i]? = some (some v)) : vs[i]? = some v := by
  unfold stE at h
  by_cases hi : i < vs.length
  · rw [List.getElem?_append_left (by simpa using hi), List.getElem?_map] at h
    cases q : vs[i]? with
    | none => rw [q] at h; cases h
    | some w => rw [q] at h; cases h; rfl
  · rw [List.getElem?_append_right (by simpa using hi), List.getElem?_replicate] at h
    split at h <;> cases h
theorem stE_set {N : Nat} {vs : List D} {i : Nat} {v : D} (h : vs[i]? = some v) : (stE N vs)[i]? = some (some v) := by
  obtain ⟨hi, _⟩ := List.getElem?_eq_some_iff.mp h
  unfold stE
  rw [List.getElem?_append_left (by simpa using hi), List.getElem?_map, h]; rfl
/-- what a def's slots must obey -/
structure SlOk (n : Nat) (sl : Sl) : Prop where
  nd : sl.mp.Nodup
  mo : ∀ i ∈ sl.mp, i ∈ sl.ow
  mn : ∀ i ∈ sl.mp, i < n
  om : ∀ i ∈ sl.ow, i < n → i ∈ sl.mp
  bn : ∀ i ∈ sl.bo, i < n ∧ i ∈ sl.ct
  bm : ∀ i ∈ sl.bo, i ∉ sl.ow
  xn : ∀ i ∈ sl.xs, n ≤ i
  hp : sl.hp = none
def slB (n : Nat) (sl : Sl) : Bool := decide sl.mp.Nodup && (sl.mp.all (fun i => decide (i ∈ sl.ow) && decide (i < n)) && (sl.ow.all (fun i => decide (n ≤ i) || decide (i ∈ sl.mp)) && (sl.bo.all (fun i => decide (i < n) && (decide (i ∈ sl.ct) && decide (i ∉ sl.ow))) && (sl.xs.all (fun i => decide (n ≤ i)) && sl.hp.isNone))))
theorem slB_ok {n : Nat} {sl : Sl} (h : slB n sl = true) : SlOk n sl := by
  unfold slB at h
  simp only [Bool.and_eq_true, Bool.or_eq_true, List.all_eq_true, decide_eq_true_eq] at h
  obtain ⟨h1, h2, h3, h4, h5, h6⟩ := h
  exact ⟨h1, fun i hi => (h2 i hi).1, fun i hi => (h2 i hi).2, fun i hi z => (h3 i hi).elim (fun y => absurd z (by omega)) id, fun i hi => ⟨(h4 i hi).1, (h4 i hi).2.1⟩, fun i hi => (h4 i hi).2.2, h5, by simpa using h6⟩
theorem zip_mem {α β : Type} : ∀ {xs : List α} {ys : List β} {p : α × β}, p ∈ xs.zip ys → ∃ k : Nat, xs[k]? = some p.1 ∧ ys[k]? = some p.2
  | [], _, _, h => by simp at h
  | _ :: _, [], _, h => by simp at h
  | x :: xs, y :: ys, p, h => by
    rw [List.zip_cons_cons] at h
    rcases List.mem_cons.mp h with h | h
    · subst h; exact ⟨0, rfl, rfl⟩
    · obtain ⟨k, h1, h2⟩ := zip_mem h
      exact ⟨k + 1, h1, h2⟩
theorem mem_zip {α β : Type} : ∀ {xs : List α} {ys : List β} {k : Nat} {x : α} {y : β}, xs[k]? = some x → ys[k]? = some y → (x, y) ∈ xs.zip ys
  | [], _, _, _, _, h, _ => by simp at h
  | _ :: _, [], _, _, _, _, h => by simp at h
  | x :: xs, y :: ys, 0, _, _, h, h' => by cases h; cases h'; simp
  | x :: xs, y :: ys, k + 1, _, _, h, h' => by rw [List.zip_cons_cons]; exact List.mem_cons_of_mem _ (mem_zip (by simpa using h) (by simpa using h'))
theorem nd_get {α : Type} {l : List α} (h : l.Nodup) {i j : Nat} {x : α} (a : l[i]? = some x) (b : l[j]? = some x) : i = j := by
  obtain ⟨h1, h2⟩ := List.getElem?_eq_some_iff.mp a
  obtain ⟨h3, h4⟩ := List.getElem?_eq_some_iff.mp b
  exact (List.getElem_inj h).mp (h2.trans h4.symm)
theorem mem_get {α : Type} {l : List α} {x : α} (h : x ∈ l) : ∃ k : Nat, l[k]? = some x := List.mem_iff_getElem?.mp h
theorem other_get {α β : Type} {l : List α} {m : List β} (h : m.length = l.length) {k : Nat} {x : α} (e : l[k]? = some x) : ∃ y, m[k]? = some y := by
  obtain ⟨h1, _⟩ := List.getElem?_eq_some_iff.mp e
  exact ⟨m[k]'(by omega), List.getElem?_eq_getElem _⟩
theorem s_def {n N : Nat} {sl : Sl} {x : XS} {m : DS} (hs : slB n sl = true) (hb : SndS sl x m) : SndF sl.mp sl.bo sl.rc (xDef n N sl.mp x) (dDef n N m) := fun ds vs as μ hA Q E h => by
  have so := slB_ok hs
  unfold xDef at h
  have hl : vs.length = n := by
    by_cases hl : vs.length = n
    · exact hl
    · rw [if_neg hl] at h; exact h.elim
  rw [if_pos hl] at h
  let fm : Fm := ⟨μ, sl.mp.zip as, sl.bo.filterMap (fun i => match ds[i]?, vs[i]? with
    | some d, some v => some (i, d, v)
    | _, _ => none)⟩
  have hmp : ∀ {i : Nat} {v : D}, i ∈ sl.mp → vs[i]? = some v → ∃ a c, (i, a) ∈ sl.mp.zip as ∧ ds[i]? = some (.cell a) ∧ μ a = some c ∧ mcD v = some c := fun {i v} hi e => by
    obtain ⟨k, ek⟩ := mem_get hi
    obtain ⟨a, ea⟩ := other_get hA.al ek
    obtain ⟨h1, v', c, h2, h3, h4⟩ := hA.mp k i a ek ea
    rw [e] at h2; cases h2
    exact ⟨a, c, mem_zip ek ea, h1, h3, h4⟩
  have lt : ∀ {i : Nat} {v : D}, vs[i]? = some v → i < n := fun {i v} e => by obtain ⟨h1, _⟩ := List.getElem?_eq_some_iff.mp e; omega
  have cell : ∀ {i : Nat} {a : Addr}, (stE N ds)[i]? = some (some (.cell a)) → ds[i]? = some (.cell a) := stE_get
  have hE : ER fm sl (stE N ds) (stE N vs) μ := by
    refine ⟨by simp [stE, hA.len], fun i v h1 h2 h3 q => ?_, fun i v hi q => ?_, fun i v hi q => ?_, fun i j a v w hi hj hn q q' r r' => ?_, fun b c q _ => q, fun i a v hi q r => ?_, fun p hp => ?_, fun q hq => ?_, fun q hq => ?_⟩
    · have e := stE_get q
      obtain ⟨d, ed⟩ := other_get hA.len e
      have := hA.fz i d v ed e (fun z => h1 (so.mo i z)) h2
      subst this
      exact stE_set ed
    · have e := stE_get q
      obtain ⟨d, ed⟩ := other_get hA.len e
      obtain ⟨h1, h2⟩ := hA.bo i d v hi ed e
      exact ⟨d, stE_set ed, h1, h2⟩
    · have e := stE_get q
      obtain ⟨a, c, h1, h2, h3, h4⟩ := hmp (so.om i hi (lt e)) e
      exact ⟨a, c, stE_set h2, h3, h4⟩
    · have e := stE_get q
      have e' := stE_get q'
      have r := cell r
      have r' := cell r'
      obtain ⟨k, ek⟩ := mem_get (so.om i hi (lt e))
      obtain ⟨a1, ea⟩ := other_get hA.al ek
      have := (hA.mp k i a1 ek ea).1
      rw [r] at this; cases this
      rcases hj with hj | hj
      · obtain ⟨k', ek'⟩ := mem_get (so.om j hj (lt e'))
        obtain ⟨a2, ea'⟩ := other_get hA.al ek'
        have := (hA.mp k' j a2 ek' ea').1
        rw [r'] at this; cases this
        have := nd_get hA.nd ea ea'
        subst this
        rw [ek] at ek'; cases ek'
        exact hn rfl
      · exact hA.di j hj a (List.mem_of_getElem? ea) r'
    · have e := stE_get q
      have r := cell r
      obtain ⟨a', c, h1, h2, _⟩ := hmp (so.om i hi (lt e)) e
      rw [r] at h2; cases h2
      exact .inr h1
    · obtain ⟨k, h1, h2⟩ := zip_mem hp
      obtain ⟨h3, v, c, h4, _⟩ := hA.mp k p.1 p.2 h1 h2
      exact ⟨List.mem_of_getElem? h1, so.mo _ (List.mem_of_getElem? h1), ⟨v, stE_set h4⟩, stE_set h3⟩
    · obtain ⟨i, hi, e⟩ := List.mem_filterMap.mp hq
      split at e
      · rename_i d v e1 e2
        cases e
        exact ⟨(so.bn i hi).2, stE_set e1, stE_set e2⟩
      · cases e
    · rw [so.hp] at hq; cases hq
  -- the end: the parameters as they are then
  have fin_ : ∀ {e' : XEnv} {μ' : Sto}, EndR fm e' μ' → ∀ b c, chg (as.zip (outs sl.mp e')) μ b = some c → μ' b = some c := fun {e' μ'} hR b c hb => by
    by_cases hb' : b ∈ as
    · obtain ⟨k, ek⟩ := mem_get hb'
      obtain ⟨i, ei⟩ := other_get hA.al.symm ek
      obtain ⟨v, c', h1, h2, h3⟩ := hR.pa (i, b) (mem_zip ei ek)
      have ho : (outs sl.mp e')[k]? = some v := by
        unfold outs
        rw [List.getElem?_map, ei]
        show some (((e'[i]?).join).getD .non) = _
        have h1 : e'[i]? = some (some v) := h1
        rw [h1]; rfl
      have nd : ((as.zip (outs sl.mp e')).map (·.1)).Nodup := by
        have : (as.zip (outs sl.mp e')).map (·.1) = as := by
          have := List.map_fst_zip (l₁ := as) (l₂ := outs sl.mp e') (by simp [outs, hA.al])
          exact this
        rw [this]; exact hA.nd
      rw [chg_on nd (mem_zip ek ho) h3] at hb
      cases hb; exact h2
    · rw [chg_off fun z hz q => hb' (by obtain ⟨k, h1, _⟩ := zip_mem hz; rw [← q]; exact List.mem_of_getElem? h1)] at hb
      refine hR.fr b c hb fun p hp z => hb' ?_
      obtain ⟨k, _, h2⟩ := zip_mem hp
      rw [← z]; exact List.mem_of_getElem? h2
  refine ⟨hA.len.trans hl, ?_⟩
  refine hb fm _ _ μ hE _ ?_
  cases o : x (stE N vs) with
  | none => rw [o] at h; exact h.elim
  | some r =>
    rw [o] at h
    cases r with
    | nx e' =>
      cases hrc : sl.rc with
      | false =>
        simp only [PF, hrc, Bool.false_eq_true, if_false] at h
        exact fun env' μ' hE' => ⟨_, fun b c q => fin_ hE'.end_ b c q, h⟩
      | true =>
        simp only [PF, hrc, if_true] at h
        obtain ⟨c, h1, _⟩ := h
        cases h1
    | rt d e' =>
      cases hrc : sl.rc with
      | false =>
        simp only [PF, hrc, Bool.false_eq_true, if_false] at h
        show RtOk sl.rc fm d e' _
        rw [hrc]
        exact fun μ' hR => ⟨_, fun b c q => fin_ hR b c q, h⟩
      | true =>
        simp only [PF, hrc, if_true] at h
        obtain ⟨c, h1, h2⟩ := h
        show RtOk sl.rc fm d e' _
        rw [hrc]
        intro a c' μ' hR n1 n2 e1 e2
        rw [h1] at e2; cases e2
        refine ⟨_, fun b m q => ?_, h2 a n1⟩
        by_cases z : b = a
        · subst z; rw [upm_same] at q; cases q; exact e1
        · rw [upm_ne z] at q; exact fin_ hR b m q
    | bk e' => exact h.elim
    | ct e' => exact h.elim
    | ex y e' => exact fun env' μ' hE' => ⟨_, fun b c q => fin_ hE'.end_ b c q, h⟩
end DL

/-! XL4: calls, makers, statements that can be run. -/
namespace DL
open PySem PySem.Spec L2
/-- the arguments' values, told late; frozen slots take values alone -/
def argV (bo : List Nat) (e : XEnv) : Nat → List Rf → Option (List D)
  | _, [] => some []
  | j, .v d :: r => if bo.elem j = true then (if nc d = true then (argV bo e (j + 1) r).map (d :: ·) else none) else (argV bo e (j + 1) r).map (d :: ·)
  | j, .s i :: r => if bo.elem j = true then ((e[i]?).join.bind fun d => (argV bo e (j + 1) r).map (d :: ·)) else none
def xR (r : Option XFR) (e : XEnv) : Option (XR Rf) := match r with
  | some (.ok d _) => some (.ok (.v d) e)
  | some (.er y _) => some (.er y e)
  | none => none
def xCall (fx : XF) (bo : List Nat) (as : XA) : XE := fun e => xb (as e) fun rs e1 => (argV bo e1 0 rs).bind fun vs => xR (fx vs) e1
/-- a call that changes what stands in slot o, its first argument -/
def xR1 (o : Nat) (r : Option XFR) (e : XEnv) : Option (XR Rf) := match r with
  | some (.ok d [v]) => if (mcD v).isSome = true then some (.ok (.v d) (e.set o (some v))) else none
  | some (.er y [v]) => if (mcD v).isSome = true then some (.er y (e.set o (some v))) else none
  | _ => none
def xRC (r : Option XFR) (e : XEnv) : Option (XR Rf) := match r with
  | some (.ok d _) => if (mcD d).isSome = true then some (.ok (.v d) e) else none
  | some (.er y _) => some (.er y e)
  | none => none
def xCallC (fx : XF) (bo : List Nat) (as : XA) : XE := fun e => xb (as e) fun rs e1 => (argV bo e1 0 rs).bind fun vs => xRC (fx vs) e1
def noS (o : Nat) : List Rf → Bool
  | [] => true
  | .v _ :: r => noS o r
  | .s i :: r => !(Nat.beq i o) && noS o r
def xCallM (fx : XF) (bo : List Nat) (o : Nat) (as : XA) : XE := fun e => xb (as e) fun rs e1 => match rs with
  | .s i :: r => if Nat.beq i o = true then (if noS o r = true then (e1[o]?).join.bind fun d => (argV bo e1 1 r).bind fun vs => xR1 o (fx (d :: vs)) e1 else none) else none
  | _ => none
section
variable {fm : Fm} {sl : Sl} {env : Env'} {e : XEnv} {μ : Sto} {bo : List Nat}
theorem argV_ok (hE : ER fm sl env e μ) : ∀ {rs : List Rf} {j : Nat} {ds vs : List D}, RfRs sl env ds rs → argV bo e j rs = some vs →
    ds.length = vs.length ∧ (∀ (k : Nat) (d v : D), ds[k]? = some d → vs[k]? = some v → (j + k ∉ bo → d = v) ∧ (j + k ∈ bo → RV μ d v ∧ nc v = true)) ∧
    ∀ (k : Nat) (d : D), ds[k]? = some d → ((∃ v, rs[k]? = some (.v v)) ∧ (j + k ∈ bo → nc d = true)) ∨ (∃ i v, rs[k]? = some (.s i) ∧ env[i]? = some (some d) ∧ e[i]? = some (some v) ∧ (i ∈ sl.ow ∨ i ∈ sl.bo))
  | [], j, [], vs, _, q => by cases q; exact ⟨rfl, fun k d v h => by simp at h, fun k d h => by simp at h⟩
  | [], _, _ :: _, _, h, _ => h.elim
  | _ :: _, _, [], _, h, _ => h.elim
  | .v w :: r, j, d :: ds, vs, ⟨h1, h2⟩, q => by
    have h1 : d = w := h1
    subst h1
    unfold argV at q
    have key : ∃ ws, argV bo e (j + 1) r = some ws ∧ vs = d :: ws ∧ (bo.elem j = true → nc d = true) := by
      split at q
      · split at q
        · obtain ⟨ws, q1, rfl⟩ := Option.map_eq_some_iff.mp q; exact ⟨ws, q1, rfl, fun _ => by assumption⟩
        · cases q
      · obtain ⟨ws, q1, rfl⟩ := Option.map_eq_some_iff.mp q; exact ⟨ws, q1, rfl, fun z => by contradiction⟩
    obtain ⟨ws, q1, rfl, q2⟩ := key
    obtain ⟨a1, a2, a3⟩ := argV_ok hE h2 q1
    refine ⟨by simp [a1], fun k d' v' => ?_, fun k d' => ?_⟩
    · cases k with
      | zero => intro e1 e2; cases e1; cases e2; exact ⟨fun _ => rfl, fun z => ⟨.eq _, q2 (List.elem_eq_true_of_mem z)⟩⟩
      | succ k =>
        intro e1 e2
        have := a2 k d' v' (by simpa using e1) (by simpa using e2)
        rw [show j + 1 + k = j + (k + 1) by omega] at this
        exact this
    · cases k with
      | zero => intro e1; cases e1; exact .inl ⟨⟨d, rfl⟩, fun z => q2 (List.elem_eq_true_of_mem z)⟩
      | succ k => intro e1; have := a3 k d' (by simpa using e1); rw [show j + 1 + k = j + (k + 1) by omega] at this; exact this
  | .s i :: r, j, d :: ds, vs, ⟨h1, h2⟩, q => by
    unfold argV at q
    split at q
    · obtain ⟨w, q1, q2⟩ := Option.bind_eq_some_iff.mp q
      obtain ⟨ws, q3, rfl⟩ := Option.map_eq_some_iff.mp q2
      obtain ⟨a1, a2, a3⟩ := argV_ok hE h2 q3
      have hw := join_some q1
      have rv := drf_rv h1 hE q1
      have hn : nc w = true := by
        rcases h1.1 with z | z
        · obtain ⟨_, c, _, _, e3⟩ := hE.ow i w z hw; exact nc_mc e3
        · obtain ⟨_, _, _, e3⟩ := hE.bo i w z hw; exact e3
      refine ⟨by simp [a1], fun k d' v' => ?_, fun k d' => ?_⟩
      · cases k with
        | zero => intro e1 e2; cases e1; cases e2; exact ⟨fun z => absurd (List.mem_of_elem_eq_true (by assumption)) z, fun _ => ⟨rv, hn⟩⟩
        | succ k =>
          intro e1 e2
          have := a2 k d' v' (by simpa using e1) (by simpa using e2)
          rw [show j + 1 + k = j + (k + 1) by omega] at this
          exact this
      · cases k with
        | zero => intro e1; cases e1; exact .inr ⟨i, w, rfl, h1.2, hw, h1.1⟩
        | succ k => intro e1; have := a3 k d' (by simpa using e1); rw [show j + 1 + k = j + (k + 1) by omega] at this; exact this
    · cases q
theorem noS_ok {o : Nat} : ∀ {r : List Rf} {k i : Nat}, noS o r = true → r[k]? = some (.s i) → i ≠ o
  | .v _ :: r, 0, i, _, h => by simp at h
  | .v _ :: r, k + 1, i, q, h => noS_ok (r := r) q (by simpa using h)
  | .s j :: r, 0, i, q, h => by
    have q : (!(Nat.beq j o) && noS o r) = true := q
    have h : j = i := by simpa using h
    intro z; subst h; subst z
    rw [Nat.beq_refl] at q; cases q
  | .s j :: r, k + 1, i, q, h => by
    have q : (!(Nat.beq j o) && noS o r) = true := q
    exact noS_ok (r := r) (Bool.and_eq_true_iff.mp q).2 (by simpa using h)
  | [], k, i, _, h => by simp at h
end
section
variable {sl : Sl} {x y : XE} {m ma mb : DM} {as : XA} {mas : DA} {bo : List Nat} {fx : XF} {fd : DF}
theorem xR_ok {fm : Fm} {env : Env'} {e1 : XEnv} {μ1 : Sto} {r : Option XFR} {Q : DQ} {E : DX} (hE1 : ER fm sl env e1 μ1)
    (h : PX (xR r e1) (fun r e' => ∀ d μ', RfR sl env d r → ER fm sl env e' μ' → Q d μ') (fun y e' => ∀ μ', ER fm sl env e' μ' → E y μ')) : PF false [] μ1 r Q E := by
  cases r with
  | none => exact h
  | some r => cases r with
    | ok d outs => exact h d μ1 rfl hE1
    | er y outs => exact h μ1 hE1
theorem args0 {fm : Fm} {env : Env'} {e1 : XEnv} {μ1 : Sto} {rs : List Rf} {ds vs : List D} (hE1 : ER fm sl env e1 μ1) (ks : RfRs sl env ds rs) (q : argV bo e1 0 rs = some vs) : ArgR [] bo ds vs [] μ1 := by
  obtain ⟨a1, a2, _⟩ := argV_ok hE1 ks q
  exact ⟨a1, fun j d v h1 h2 _ h4 => (a2 j d v h1 h2).1 (by simpa using h4), fun j d v hj h1 h2 => (a2 j d v h1 h2).2 (by simpa using hj), rfl, fun k j a h => by simp at h, List.nodup_nil, fun j _ a h => by simp at h⟩
theorem s_call (hf : SndF [] bo false fx fd) (ha : SndA sl as mas) : SndE sl (xCall fx bo as) (dCall fd mas) := fun fm env e μ hE Q E q => by
  refine I_call (ha fm env e μ hE _ _ (PX.mono (PX.bind q) (fun rs e1 q1 ds μ1 ks hE1 => ?_) fun _ _ k => k))
  obtain ⟨vs, q2, q3⟩ := PX.opt q1
  exact hf ds vs [] μ1 (args0 hE1 ks q2) Q E (xR_ok hE1 q3)
/-- a def that hands back a new cell -/
theorem c_call (hf : SndF [] bo true fx fd) (ha : SndA sl as mas) : SndC sl (xCallC fx bo as) (dCall fd mas) := fun fm env e μ hE Q E q => by
  refine I_call (ha fm env e μ hE _ _ (PX.mono (PX.bind q) (fun rs e1 q1 ds μ1 ks hE1 => ?_) fun _ _ k => k))
  obtain ⟨vs, q2, q3⟩ := PX.opt q1
  refine hf ds vs [] μ1 (args0 hE1 ks q2) Q E ?_
  cases hr : fx vs with
  | none => rw [hr] at q3; exact q3
  | some r =>
    rw [hr] at q3
    cases r with
    | ok d outs =>
      obtain ⟨hc, q3⟩ := PX.ite q3
      obtain ⟨c, hc⟩ := Option.isSome_iff_exists.mp hc
      have q3 : ∀ v c a μ', Rf.v d = .v v → mcD v = some c → ER fm sl env e1 μ' → μ' a = none → Q (.cell a) (upm μ' a c) := q3
      exact ⟨c, hc, fun a n => q3 d c a μ1 rfl hc hE1 n⟩
    | er y outs => exact q3 μ1 hE1
theorem s_callM {o : Nat} (hf : SndF [0] bo false fx fd) (ha : SndA sl as mas) (h1 : o ∈ sl.ow := by first | decide | (dsimp only [Sl.hand, Sl.lock]; decide)) (h4 : o ∉ sl.ct := by first | decide | (dsimp only [Sl.hand, Sl.lock]; decide)) (h5 : o ∉ sl.xs := by first | decide | (dsimp only [Sl.hand, Sl.lock]; decide)) (h6 : 0 ∉ bo := by first | decide | (dsimp only [Sl.hand, Sl.lock]; decide)) (h7 : ∀ i ∈ sl.bo, i ∉ sl.ow := by first | decide | (dsimp only [Sl.hand, Sl.lock]; decide)) : SndE sl (xCallM fx bo o as) (dCall fd mas) := fun fm env e μ hE Q E q => by
  refine I_call (ha fm env e μ hE _ _ (PX.mono (PX.bind q) (fun rs e1 q1 ds μ1 ks hE1 => ?_) fun _ _ k => k))
  cases rs with
  | nil => exact q1.elim
  | cons r rs =>
    cases r with
    | v w => exact q1.elim
    | s i =>
      cases ds with
      | nil => exact ks.elim
      | cons d0 ds =>
        obtain ⟨k1, k2⟩ := ks
        obtain ⟨z1, q1⟩ := PX.ite q1
        obtain ⟨z2, q1⟩ := PX.ite q1
        obtain ⟨w, q2, q1⟩ := PX.opt q1
        obtain ⟨vs, q3, q1⟩ := PX.opt q1
        have ei : i = o := Nat.eq_of_beq_eq_true z1
        subst ei
        have hw := join_some q2
        obtain ⟨a, c, e1', e2', e3'⟩ := hE1.ow i w h1 hw
        have hd0 : d0 = .cell a := by have := k1.2; rw [e1'] at this; cases this; rfl
        subst hd0
        obtain ⟨a1, a2, a3⟩ := argV_ok hE1 k2 q3
        have A : ArgR [0] bo (.cell a :: ds) (w :: vs) [a] μ1 := by
          refine ⟨by simp [a1], fun j d v h1 h2 h3 h4 => ?_, fun j d v hj h1 h2 => ?_, rfl, fun k j b hk hb => ?_, by simp, fun j hj b hb hd => ?_⟩
          · cases j with
            | zero => simp at h3
            | succ j => exact (a2 j d v (by simpa using h1) (by simpa using h2)).1 (by rw [Nat.add_comm]; exact h4)
          · cases j with
            | zero => exact absurd hj h6
            | succ j => exact (a2 j d v (by simpa using h1) (by simpa using h2)).2 (by rw [Nat.add_comm]; exact hj)
          · cases k with
            | zero => cases hk; cases hb; exact ⟨rfl, w, c, rfl, e2', e3'⟩
            | succ k => simp at hk
          · have hb : b = a := by simpa using hb
            subst hb
            cases j with
            | zero => exact h6 hj
            | succ j =>
              have hd : ds[j]? = some (.cell b) := by simpa using hd
              have jb : 1 + j ∈ bo := by rw [Nat.add_comm]; exact hj
              rcases a3 j _ hd with ⟨_, hv⟩ | ⟨i', v, hv, ev, ee, hio⟩
              · cases hv jb
              · have := noS_ok z2 hv
                exact hE1.di i i' b w v h1 hio this.symm hw ee e1' ev
        refine hf _ _ _ μ1 A Q E ?_
        cases hr : fx (w :: vs) with
        | none => rw [hr] at q1; exact q1
        | some r =>
          rw [hr] at q1
          have fin_ : ∀ {v : D}, (mcD v).isSome = true → ER fm sl env (e1.set i (some v)) (chg [(a, v)] μ1) := fun {v} hv => by
            obtain ⟨c', hc'⟩ := Option.isSome_iff_exists.mp hv
            have : chg [(a, v)] μ1 = upm μ1 a c' := by show (match mcD v with | some c => upm μ1 a c | none => μ1) = _; rw [hc']
            rw [this]
            exact hE1.setOw h1 h4 h5 hw e1' hc'
          cases r with
          | ok d outs =>
            match outs, q1 with
            | [v], q1 =>
              obtain ⟨hv, q1⟩ := PX.ite q1
              exact q1 d _ rfl (fin_ hv)
            | [], q1 => exact q1.elim
            | _ :: _ :: _, q1 => exact q1.elim
          | er y outs =>
            match outs, q1 with
            | [v], q1 =>
              obtain ⟨hv, q1⟩ := PX.ite q1
              exact q1 _ (fin_ hv)
            | [], q1 => exact q1.elim
            | _ :: _ :: _, q1 => exact q1.elim
/-- C(..), frozen once it is made -/
def xMk (r : Option XFR) (c : Nat) (e : XEnv) : Option (XR Rf) := match r with
  | some (.ok .non [.ins c' fs]) => if Nat.beq c' c = true then some (.ok (.v (.ins c fs)) e) else none
  | some (.er y _) => some (.er y e)
  | _ => none
def xMake (c : Nat) (fx : XF) (bo : List Nat) (as : XA) : XE := fun e => xb (as e) fun rs e1 => (argV bo e1 1 rs).bind fun vs => xMk (fx (.ins c [] :: vs)) c e1
theorem s_make {c : Nat} (hf : SndF [0] bo false fx fd) (ha : SndA sl as mas) (h6 : 0 ∉ bo := by first | decide | (dsimp only [Sl.hand, Sl.lock]; decide)) : SndE sl (xMake c fx bo as) (dMake true c fd mas) := fun fm env e μ hE Q E q => by
  refine I_make (ha fm env e μ hE _ _ (PX.mono (PX.bind q) (fun rs e1 q1 ds μ1 ks hE1 => ?_) fun _ _ k => k))
  intro a na
  obtain ⟨vs, q3, q1⟩ := PX.opt q1
  obtain ⟨a1, a2, a3⟩ := argV_ok hE1 ks q3
  have gr : ∀ b m, μ1 b = some m → upm μ1 a (.ins c []) b = some m := fun b m h => by rw [upm_ne (fun z => by subst z; rw [na] at h; cases h)]; exact h
  have A : ArgR [0] bo (.cell a :: ds) (.ins c [] :: vs) [a] (upm μ1 a (.ins c [])) := by
    refine ⟨by simp [a1], fun j d v h1 h2 h3 h4 => ?_, fun j d v hj h1 h2 => ?_, rfl, fun k j b hk hb => ?_, by simp, fun j hj b hb hd => ?_⟩
    · cases j with
      | zero => simp at h3
      | succ j => exact (a2 j d v (by simpa using h1) (by simpa using h2)).1 (by rw [Nat.add_comm]; exact h4)
    · cases j with
      | zero => exact absurd hj h6
      | succ j =>
        obtain ⟨r1, r2⟩ := (a2 j d v (by simpa using h1) (by simpa using h2)).2 (by rw [Nat.add_comm]; exact hj)
        exact ⟨r1.mono fun b _ m h => gr b m h, r2⟩
    · cases k with
      | zero => cases hk; cases hb; exact ⟨rfl, _, _, rfl, upm_same, rfl⟩
      | succ k => simp at hk
    · have hb : b = a := by simpa using hb
      subst hb
      cases j with
      | zero => exact h6 hj
      | succ j =>
        have hd : ds[j]? = some (.cell b) := by simpa using hd
        have jb : 1 + j ∈ bo := by rw [Nat.add_comm]; exact hj
        obtain ⟨v', hv'⟩ := other_get (l := ds) (m := vs) a1.symm hd
        obtain ⟨r1, r2⟩ := (a2 j _ v' hd hv').2 jb
        cases r1 with
        | eq => cases r2
        | cl h _ => rw [na] at h; cases h
  refine hf _ _ _ _ A _ E ?_
  cases hr : fx (.ins c [] :: vs) with
  | none => rw [hr] at q1; exact q1
  | some r =>
    rw [hr] at q1
    cases r with
    | ok d outs =>
      match d, outs, q1 with
      | .non, [.ins c' fs], q1 =>
        obtain ⟨h1, q1⟩ := PX.ite q1
        have := Nat.eq_of_beq_eq_true h1
        subst this
        refine ⟨rfl, fs, μ1, ?_, ?_, na, q1 _ μ1 rfl hE1⟩
        · show chg [(a, .ins c' fs)] _ a = _
          exact chg_on (v := .ins c' fs) (by simp) (by simp) rfl
        · intro b m h
          show chg [(a, .ins c' fs)] _ b = _
          rw [chg_off (fun z hz => by
            have : z = (a, .ins c' fs) := by simpa using hz
            subst this
            intro (z : a = b); subst z; rw [na] at h; cases h)]
          exact gr b m h
    | er y outs =>
      have q1 : ∀ μ', ER fm sl env e1 μ' → E y μ' := q1
      refine q1 _ (hE1.grow fun b m h => ?_)
      rw [chg_off (fun z hz => by
        obtain ⟨k, h1, _⟩ := zip_mem hz
        cases k with
        | zero =>
          have h1 : a = z.1 := by simpa using h1
          intro y; rw [← y, ← h1, na] at h; cases h
        | succ k => simp at h1)]
      exact gr b m h
/-- o.m(..) of a frozen object -/
def xMeth (c : Nat) (fx : XF) (bo : List Nat) (o : XE) (as : XA) : XE := fun e => xb (o e) fun r e1 => match r with
  | .v (.ins c' fs) => if Nat.beq c' c = true then xb (as e1) (fun rs e2 => (argV bo e2 0 (.v (.ins c fs) :: rs)).bind fun vs => xR (fx vs) e2) else none
  | _ => none
theorem s_meth {c : Nat} (hf : SndF [] bo false fx fd) (ho : SndE sl x m) (ha : SndA sl as mas) : SndE sl (xMeth c fx bo x as) (dMeth c fd m mas) := fun fm env e μ hE Q E q => by
  refine (show m env μ _ E from ho fm env e μ hE _ _ (PX.mono (PX.bind q) (fun r e1 q1 d μ1 kr hE1 => ?_) fun _ _ k => k))
  match r, q1, kr with
  | .v (.ins c' fs), q1, kr =>
    have kr : d = .ins c' fs := kr
    subst kr
    obtain ⟨h1, q1⟩ := PX.ite q1
    have := Nat.eq_of_beq_eq_true h1
    subst this
    refine ⟨rfl, ha fm env e1 μ1 hE1 _ _ (PX.mono (PX.bind q1) (fun rs e2 q2 ds μ2 ks hE2 => ?_) fun _ _ k => k)⟩
    obtain ⟨vs, q3, q4⟩ := PX.opt q2
    exact hf (.ins c' fs :: ds) vs [] μ2 (args0 (rs := .v (.ins c' fs) :: rs) hE2 ⟨rfl, ks⟩ q3) Q E (xR_ok hE2 q4)
end
end DL

/-! XL5: statements and loops that can be run. -/
namespace DL
open PySem PySem.Spec L2
theorem PO.bind {sl : Sl} {fm : Fm} {α : Type} {a : Option (XR α)} {k : α → XEnv → Option XO} {K : DEnds} (h : PO sl fm (xo a k) K) : PX a (fun x e => PO sl fm (k x e) K) (fun y e' => ∀ env' μ', ER fm sl env' e' μ' → K.ex y env' μ') := by
  cases a with
  | none => exact h
  | some r => cases r <;> exact h
theorem PO.opt {sl : Sl} {fm : Fm} {α : Type} {o : Option α} {k : α → Option XO} {K : DEnds} (h : PO sl fm (o.bind k) K) : ∃ a, o = some a ∧ PO sl fm (k a) K := by
  cases o with
  | none => exact h.elim
  | some a => exact ⟨a, rfl, h⟩
theorem PO.ite {sl : Sl} {fm : Fm} {c : Prop} [Decidable c] {a : Option XO} {K : DEnds} (h : PO sl fm (if c then a else none) K) : c ∧ PO sl fm a K := by
  split at h
  · exact ⟨by assumption, h⟩
  · exact h.elim
def xSeq (a b : XS) : XS := fun e => match a e with
  | some (.nx e1) => b e1
  | o => o
def xNext : XS := fun e => some (.nx e)
def xBreak : XS := fun e => some (.bk e)
def xCont : XS := fun e => some (.ct e)
def xDrop (a : XE) : XS := fun e => xo (a e) fun _ e1 => some (.nx e1)
def xRet (a : XE) : XS := fun e => xo (a e) fun r e1 => match r with
  | .v d => some (.rt d e1)
  | _ => none
def xRetC (a : XE) : XS := fun e => xo (a e) fun r e1 => match r with
  | .v d => if (mcD d).isSome = true then some (.rt d e1) else none
  | _ => none
def xRetN : XS := fun e => some (.rt .non e)
def xIfS (t : XT) (a b : XS) : XS := fun e => xo (t e) fun k e1 => if k = true then a e1 else b e1
/-- x = a, frozen -/
abbrev XG := D → XEnv → Option XEnv
abbrev XGs := List D → XEnv → Option XEnv
def xgName (i : Nat) : XG := fun d e => some (e.set i (some d))
def xgNil : XGs := fun ds e => match ds with
  | [] => some e
  | _ => none
def xgCons (g : XG) (gs : XGs) : XGs := fun ds e => match ds with
  | d :: r => (g d e).bind (gs r)
  | [] => none
def seqX : D → Option (List D)
  | .tup xs => some xs
  | .lst xs => some xs
  | _ => none
def xgTup (n : Nat) (gs : XGs) : XG := fun d e => (seqX d).bind fun xs => if xs.length = n then gs xs e else none
/-- two environments that differ in these slots alone -/
def Ag (vs : List Nat) (env env' : Env') : Prop := env'.length = env.length ∧ ∀ i, i ∉ vs → env'[i]? = env[i]?
def SndG (sl : Sl) (vs : List Nat) (x : XG) (g : DG) : Prop := ∀ (fm : Fm) (env : Env') (e : XEnv) (μ : Sto) (d : D), ER fm sl env e μ → ∀ (Q : Env' → Sto → Prop), (match x d e with
  | some e' => ∀ env', ER fm sl env' e' μ → Ag vs env env' → Q env' μ
  | none => False) → g d env μ Q
def SndGs (sl : Sl) (vs : List Nat) (x : XGs) (g : DGs) : Prop := ∀ (fm : Fm) (env : Env') (e : XEnv) (μ : Sto) (ds : List D), ER fm sl env e μ → ∀ (Q : Env' → Sto → Prop), (match x ds e with
  | some e' => ∀ env', ER fm sl env' e' μ → Ag vs env env' → Q env' μ
  | none => False) → g ds env μ Q
theorem Ag.refl (vs : List Nat) (env : Env') : Ag vs env env := ⟨rfl, fun _ _ => rfl⟩
theorem Ag.trans {vs ws : List Nat} {a b c : Env'} (h : Ag vs a b) (k : Ag ws b c) : Ag (vs ++ ws) a c := ⟨k.1.trans h.1, fun i hi => (k.2 i fun z => hi (List.mem_append_right _ z)).trans (h.2 i fun z => hi (List.mem_append_left _ z))⟩
theorem Ag.set (env : Env') (i : Nat) (o : Option D) : Ag [i] env (env.set i o) := ⟨by simp, fun j hj => List.getElem?_set_ne (fun z => hj (by simp [z]))⟩
def xAsg (a : XE) (g : XG) : XS := fun e => xo (a e) fun r e1 => match r with
  | .v d => (g d e1).bind fun e2 => some (.nx e2)
  | _ => none
/-- x = a, a new cell -/
def xAsgC (a : XE) (i : Nat) : XS := fun e => xo (a e) fun r e1 => match r with
  | .v d => if (mcD d).isSome = true then some (.nx (e1.set i (some d))) else none
  | _ => none
section
variable {sl : Sl} {x y : XE} {m ma mb : DM} {as : XA} {mas : DA} {t : XT} {mt : DT} {a b : XS} {sa sb : DS} {g : XG} {gd : DG} {gs : XGs} {gds : DGs} {vs ws : List Nat}
theorem s_seq (h : SndS sl a sa) (k : SndS sl b sb) : SndS sl (xSeq a b) (dSeq sa sb) := fun fm env e μ hE K q => by
  refine I_seq (h fm env e μ hE _ ?_)
  unfold xSeq at q
  cases o : a e with
  | none => rw [o] at q; exact q.elim
  | some r =>
    rw [o] at q
    cases r with
    | nx e1 => exact fun env' μ' hE' => k fm env' e1 μ' hE' K q
    | _ => exact q
theorem s_next : SndS sl xNext dNext := fun fm env e μ hE K q => q env μ hE
theorem s_break : SndS sl xBreak dBreak := fun fm env e μ hE K q => q env μ hE
theorem s_cont : SndS sl xCont dCont := fun fm env e μ hE K q => q env μ hE
theorem s_drop (h : SndE sl x m) : SndS sl (xDrop x) (dDrop m) := fun fm env e μ hE K q =>
  I_drop (h fm env e μ hE _ _ (PX.mono (PO.bind q) (fun r e1 q1 d μ1 kr hE1 => q1 env μ1 hE1) fun _ _ k μ' hE' => k env μ' hE'))
theorem rtF {fm : Fm} {env : Env'} {e : XEnv} {μ : Sto} {d : D} {K : DQ} (hE : ER fm sl env e μ) (hr : sl.rc = false) (h : RtOk sl.rc fm d e K) : K d μ := by
  rw [hr] at h; exact h μ hE.end_
theorem s_ret (h : SndE sl x m) (hr : sl.rc = false := by rfl) : SndS sl (xRet x) (dRet m) := fun fm env e μ hE K q => by
  refine I_ret (h fm env e μ hE _ _ (PX.mono (PO.bind q) (fun r e1 q1 d μ1 kr hE1 => ?_) fun _ _ k μ' hE' => k env μ' hE'))
  cases r with
  | v w =>
    have kr : d = w := kr
    subst kr
    exact rtF hE1 hr q1
  | s i => exact q1.elim
theorem s_retC (h : SndC sl x m) (hr : sl.rc = true := by rfl) : SndS sl (xRetC x) (dRet m) := fun fm env e μ hE K q => by
  refine I_ret (h fm env e μ hE _ _ (PX.mono (PO.bind q) (fun r e1 q1 v c a μ1 er ec hE1 na => ?_) fun _ _ k μ' hE' => k env μ' hE'))
  subst er
  obtain ⟨_, q1⟩ := PO.ite q1
  have q1 : RtOk sl.rc fm v e1 K.rt := q1
  rw [hr] at q1
  obtain ⟨f1, f2⟩ := hE1.free na
  exact q1 a c _ (hE1.grow fun b m' h => by rw [upm_ne (fun z => by subst z; rw [na] at h; cases h)]; exact h).end_ f1 f2 upm_same ec
theorem s_retN (hr : sl.rc = false := by rfl) : SndS sl xRetN dRetN := fun fm env e μ hE K q => rtF hE hr q
theorem s_ifs (ht : SndT sl t mt) (h : SndS sl a sa) (k : SndS sl b sb) : SndS sl (xIfS t a b) (dIfS mt sa sb) := fun fm env e μ hE K q => by
  refine I_ifs (ht fm env e μ hE _ _ (PX.mono (PO.bind q) (fun c e1 q1 μ1 hE1 => ?_) fun _ _ k μ' hE' => k env μ' hE'))
  refine I_br (fun z => ?_) (fun z => ?_) <;> subst z
  · exact h fm env e1 μ1 hE1 K q1
  · exact k fm env e1 μ1 hE1 K q1
theorem sg_n (i : Nat) (h1 : i ∉ sl.ow := by first | decide | (dsimp only [Sl.hand, Sl.lock]; decide)) (h2 : i ∉ sl.bo := by first | decide | (dsimp only [Sl.hand, Sl.lock]; decide)) (h3 : i ∉ sl.xs := by first | decide | (dsimp only [Sl.hand, Sl.lock]; decide)) (h4 : i ∉ sl.ct := by first | decide | (dsimp only [Sl.hand, Sl.lock]; decide)) : SndG sl [i] (xgName i) (gdName i) := fun fm env e μ d hE Q q => q _ (hE.setFz h1 h2 h3 h4 d) (Ag.set env i _)
theorem sg_nil : SndGs sl [] xgNil gdNil := fun fm env e μ ds hE Q q => by
  cases ds with
  | nil => exact q env hE (Ag.refl _ _)
  | cons _ _ => exact q.elim
theorem sg_cons (h : SndG sl vs g gd) (k : SndGs sl ws gs gds) : SndGs sl (vs ++ ws) (xgCons g gs) (gdCons gd gds) := fun fm env e μ ds hE Q q => by
  cases ds with
  | nil => exact q.elim
  | cons d r =>
    refine h fm env e μ d hE _ ?_
    have q : (match (g d e).bind (gs r) with
      | some e' => ∀ env', ER fm sl env' e' μ → Ag (vs ++ ws) env env' → Q env' μ
      | none => False) := q
    cases o : g d e with
    | none => rw [o] at q; exact q.elim
    | some e1 =>
      rw [o] at q
      intro env' hE' ag
      refine k fm env' e1 μ r hE' Q ?_
      have q : (match gs r e1 with
        | some e' => ∀ env', ER fm sl env' e' μ → Ag (vs ++ ws) env env' → Q env' μ
        | none => False) := q
      cases o2 : gs r e1 with
      | none => rw [o2] at q; exact q.elim
      | some e2 => rw [o2] at q; exact fun env2 hE2 ag2 => q env2 hE2 (ag.trans ag2)
theorem seqX_get {v : D} {xs : List D} {μ : Sto} (h : seqX v = some xs) : getS μ v = some xs := by cases v <;> cases h <;> rfl
theorem sg_t {n : Nat} (h : SndGs sl vs gs gds) : SndG sl vs (xgTup n gs) (gdTup n gds) := fun fm env e μ d hE Q q => by
  have q : (match (seqX d).bind fun xs => if xs.length = n then gs xs e else none with
    | some e' => ∀ env', ER fm sl env' e' μ → Ag vs env env' → Q env' μ
    | none => False) := q
  cases o : seqX d with
  | none => rw [o] at q; exact q.elim
  | some xs =>
    rw [o] at q
    have q : (match if xs.length = n then gs xs e else none with
      | some e' => ∀ env', ER fm sl env' e' μ → Ag vs env env' → Q env' μ
      | none => False) := q
    by_cases hl : xs.length = n
    · rw [if_pos hl] at q; exact ⟨xs, seqX_get o, hl, h fm env e μ xs hE Q q⟩
    · rw [if_neg hl] at q; exact q.elim
theorem s_asg (h : SndE sl x m) (k : SndG sl vs g gd) : SndS sl (xAsg x g) (dAsg m gd) := fun fm env e μ hE K q => by
  refine I_asg (h fm env e μ hE _ _ (PX.mono (PO.bind q) (fun r e1 q1 d μ1 kr hE1 => ?_) fun _ _ k μ' hE' => k env μ' hE'))
  cases r with
  | s i => exact q1.elim
  | v w =>
    have kr : d = w := kr
    subst kr
    obtain ⟨e2, q2, q3⟩ := PO.opt q1
    refine k fm env e1 μ1 d hE1 _ ?_
    rw [q2]
    exact fun env' hE' _ => q3 env' μ1 hE'
theorem s_asgC (i : Nat) (h : SndC sl x m) (h1 : i ∈ sl.ow := by first | decide | (dsimp only [Sl.hand, Sl.lock]; decide)) (hb : i ∉ sl.bo := by first | decide | (dsimp only [Sl.hand, Sl.lock]; decide)) (hm : i ∉ sl.mp := by first | decide | (dsimp only [Sl.hand, Sl.lock]; decide)) (h4 : i ∉ sl.ct := by first | decide | (dsimp only [Sl.hand, Sl.lock]; decide)) (hx : i ∉ sl.xs := by first | decide | (dsimp only [Sl.hand, Sl.lock]; decide)) : SndS sl (xAsgC x i) (dAsg m (gdName i)) := fun fm env e μ hE K q => by
  refine I_asg (h fm env e μ hE _ _ (PX.mono (PO.bind q) (fun r e1 q1 v c a μ1 er ec hE1 na => ?_) fun _ _ k μ' hE' => k env μ' hE'))
  subst er
  obtain ⟨_, q1⟩ := PO.ite q1
  exact I_gname (q1 _ _ (hE1.newOw h1 hb hm h4 hx na ec))
/-- a, b = b, a: both frozen -/
def xPar (i j : Nat) (as : XA) : XS := fun e => xo (as e) fun rs e1 => match rs with
  | [.v d, .v d'] => some (.nx ((e1.set i (some d)).set j (some d')))
  | _ => none
theorem s_par {i j : Nat} (h : SndA sl as mas) (h1 : i ∉ sl.ow := by first | decide | (dsimp only [Sl.hand, Sl.lock]; decide)) (h2 : i ∉ sl.bo := by first | decide | (dsimp only [Sl.hand, Sl.lock]; decide)) (h3 : i ∉ sl.xs := by first | decide | (dsimp only [Sl.hand, Sl.lock]; decide)) (h4 : i ∉ sl.ct := by first | decide | (dsimp only [Sl.hand, Sl.lock]; decide)) (k1 : j ∉ sl.ow := by first | decide | (dsimp only [Sl.hand, Sl.lock]; decide)) (k2 : j ∉ sl.bo := by first | decide | (dsimp only [Sl.hand, Sl.lock]; decide)) (k3 : j ∉ sl.xs := by first | decide | (dsimp only [Sl.hand, Sl.lock]; decide)) (k4 : j ∉ sl.ct := by first | decide | (dsimp only [Sl.hand, Sl.lock]; decide)) : SndS sl (xPar i j as) (dPar i j mas) := fun fm env e μ hE K q => by
  refine I_par (h fm env e μ hE _ _ (PX.mono (PO.bind q) (fun rs e1 q1 ds μ1 ks hE1 => ?_) fun _ _ k μ' hE' => k env μ' hE'))
  match rs, q1, ds, ks with
  | [.v d, .v d'], q1, [z, z'], ⟨e1', e2', _⟩ =>
    have e1' : z = d := e1'
    have e2' : z' = d' := e2'
    subst e1' e2'
    exact I_parK (q1 _ μ1 ((hE1.setFz h1 h2 h3 h4 _).setFz k1 k2 k3 k4 _))

/-! ### what is walked -/
/-- the items; the slot where they stand, if they stand in one -/
abbrev XI := XM (List D × Option (Nat × D))
def FmL (fm : Fm) (o : Option (Nat × D × D)) : Fm := match o with
  | none => fm
  | some q => { fm with B := q :: fm.B }
/-- a slot kept as it is while its list is walked -/
theorem ER.lock {fm : Fm} {env : Env'} {e : XEnv} {μ : Sto} {i : Nat} {d v : D} (h : ER fm sl env e μ) (h1 : env[i]? = some (some d)) (h2 : e[i]? = some (some v)) : ER { fm with B := (i, d, v) :: fm.B } (sl.lock i) env e μ :=
  ⟨h.len, h.fz, h.bo, h.ow, h.di, h.fr, h.nw, h.pa, fun q hq => by
    rcases List.mem_cons.mp hq with hq | hq
    · subst hq; exact ⟨List.mem_cons_self .., h1, h2⟩
    · obtain ⟨a, b, c⟩ := h.bc q hq; exact ⟨List.mem_cons_of_mem _ a, b, c⟩, h.hx⟩
theorem ER.unlock {fm : Fm} {env : Env'} {e : XEnv} {μ : Sto} {i : Nat} {q : Nat × D × D} (h : ER { fm with B := q :: fm.B } (sl.lock i) env e μ) (hc : ∀ q ∈ fm.B, q.1 ∈ sl.ct) : ER fm sl env e μ :=
  ⟨h.len, h.fz, h.bo, h.ow, h.di, h.fr, h.nw, h.pa, fun q hq => ⟨hc q hq, (h.bc q (List.mem_cons_of_mem _ hq)).2⟩, h.hx⟩
def xForL (g : XG) (body : XS) : List D → XS
  | [] => fun e => some (.nx e)
  | x :: r => fun e => (g x e).bind fun e1 => match body e1 with
    | some (.nx e2) => xForL g body r e2
    | some (.ct e2) => xForL g body r e2
    | some (.bk e2) => some (.nx e2)
    | o => o
theorem forL_ok {sl' : Sl} {fm fm' : Fm} {keep : Sto → Prop} (hg : SndG sl' vs g gd) (hb : SndS sl' a sa) (rc : sl'.rc = sl.rc) (hP : fm'.P = fm.P) (h0 : fm'.μ0 = fm.μ0) (back : ∀ env e μ, ER fm' sl' env e μ → ER fm sl env e μ) (hk : ∀ env e μ, ER fm' sl' env e μ → keep μ) : ∀ (xs : List D) (env : Env') (e : XEnv) (μ : Sto), ER fm' sl' env e μ → ∀ K, PO sl fm (xForL g a xs e) K → forD keep gd sa xs env μ K
  | [], env, e, μ, hE, K, q => q env μ (back _ _ _ hE)
  | x :: r, env, e, μ, hE, K, q => by
    obtain ⟨e1, q1, q2⟩ := PO.opt q
    refine hg fm' env e μ x hE _ ?_
    rw [q1]
    intro env1 hE1 _
    refine hb fm' env1 e1 μ hE1 _ ?_
    cases o : a e1 with
    | none => rw [o] at q2; exact q2.elim
    | some z =>
      rw [o] at q2
      cases z with
      | nx e2 => exact fun env2 μ2 hE2 => ⟨hk _ _ _ hE2, forL_ok hg hb rc hP h0 back hk r env2 e2 μ2 hE2 K q2⟩
      | ct e2 => exact fun env2 μ2 hE2 => ⟨hk _ _ _ hE2, forL_ok hg hb rc hP h0 back hk r env2 e2 μ2 hE2 K q2⟩
      | bk e2 => exact fun env2 μ2 hE2 => q2 env2 μ2 (back _ _ _ hE2)
      | ex y e2 => exact fun env2 μ2 hE2 => q2 env2 μ2 (back _ _ _ hE2)
      | rt d e2 =>
        have q2 : RtOk sl.rc fm d e2 K.rt := q2
        show RtOk sl'.rc fm' d e2 K.rt
        rw [rc]
        cases hr : sl.rc with
        | false =>
          rw [hr] at q2
          exact fun μ' hR => q2 μ' ⟨by rw [← h0, ← hP]; exact hR.fr, by rw [← hP]; exact hR.pa⟩
        | true =>
          rw [hr] at q2
          exact fun b c μ' hR n1 n2 => q2 b c μ' ⟨by rw [← h0, ← hP]; exact hR.fr, by rw [← hP]; exact hR.pa⟩ (by rw [← h0]; exact n1) (by rw [← hP]; exact n2)
end
end DL

/-! XL6: operators, iterators, loops, comprehensions that can be run. -/
namespace DL
open PySem PySem.Spec L2
/-! ### operators -/
def addX (v w : D) : Option D := match v, w with
  | .int i, .int j => some (.int (i + j))
  | .str s, .str t => if s.length + t.length ≤ 1000000 then some (.str (s ++ t)) else none
  | .tup xs, .tup ys => if xs ≠ [] ∧ xs.length + ys.length ≤ 1000000 then some (.tup (xs ++ ys)) else none
  | .lst xs, .lst ys => if xs.length + ys.length ≤ 1000000 then some (.lst (xs ++ ys)) else none
  | _, _ => none
def subX (v w : D) : Option D := match v, w with
  | .int i, .int j => some (.int (i - j))
  | _, _ => none
def mulX (v w : D) : Option D := match v, w with
  | .int i, .int j => if (-(2 ^ 64) < i ∧ i < 2 ^ 64) ∨ (-(2 ^ 64) < j ∧ j < 2 ^ 64) ∨ i.natAbs.log2 + j.natAbs.log2 < 1000000 then some (.int (i * j)) else none
  | _, _ => none
def divX (v w : D) : Option D := match v, w with
  | .int i, .int j => if 0 < j ∧ j.natAbs.log2 < 9000 then some (.int (i / j)) else none
  | _, _ => none
def modX (v w : D) : Option D := match v, w with
  | .int i, .int j => if 0 < j then some (.int (i % j)) else none
  | _, _ => none
def ltX (v w : D) : Option D := match v, w with
  | .int i, .int j => some (.bl (decide (i < j)))
  | _, _ => none
def leX (v w : D) : Option D := match v, w with
  | .int i, .int j => some (.bl (decide (i ≤ j)))
  | _, _ => none
def gtX (v w : D) : Option D := match v, w with
  | .int i, .int j => some (.bl (decide (j < i)))
  | _, _ => none
def geX (v w : D) : Option D := match v, w with
  | .int i, .int j => some (.bl (decide (j ≤ i)))
  | _, _ => none
theorem small {n : Nat} (h : n ≤ 1000000) : n ≤ sizeLine := Nat.le_trans h (by decide)
theorem RV.getL {μ : Sto} {d : D} {xs : List D} (h : RV μ d (.lst xs)) : DL.getL μ d = some xs := by
  cases h with
  | eq => rfl
  | cl h e => cases e; simp only [DL.getL, h]
theorem RV.getS {μ : Sto} {d v : D} {xs : List D} (h : RV μ d v) (e : seqX v = some xs) : DL.getS μ d = some xs := by
  cases v <;> cases e
  · rw [h.tup]; rfl
  · cases h with
    | eq => rfl
    | cl h e => cases e; exact getL_cell' h
where
  getL_cell' {μ : Sto} {a : Addr} {xs : List D} (h : μ a = some (.lst xs)) : DL.getS μ (.cell a) = some xs := by simp only [DL.getS, DL.getL, h]
theorem catRV {b : Bool} {μ : Sto} {d1 d2 : D} {xs ys : List D} {Q : DQ} (r1 : RV μ d1 (.lst xs)) (r2 : RV μ d2 (.lst ys)) (z : xs.length + ys.length ≤ 1000000) (h : newL b (xs ++ ys) μ Q) : gAdd b d1 d2 μ Q := by
  have : gCatL b d1 d2 μ Q := ⟨xs, ys, r1.getL, r2.getL, small z, h⟩
  cases r1 with
  | eq => exact this
  | cl _ _ => exact this
theorem o_add : OpX addX (gAdd false) := fun v1 v2 r d1 d2 μ Q q r1 r2 hq => by
  cases v1 <;> cases v2 <;> first | cases q | skip
  · rw [r1.int, r2.int]; exact hq
  · simp only [addX] at q
    split at q
    · cases q; rw [r1.str, r2.str]; exact ⟨small (by assumption), hq⟩
    · cases q
  · simp only [addX] at q
    split at q
    · rename_i z; cases q; rw [r1.tup, r2.tup]; exact ⟨z.1, small z.2, hq⟩
    · cases q
  · simp only [addX] at q
    split at q
    · cases q; exact catRV r1 r2 (by assumption) hq
    · cases q
theorem o_sub : OpX subX gSub := fun v1 v2 r d1 d2 μ Q q r1 r2 hq => by
  cases v1 <;> cases v2 <;> cases q
  rw [r1.int, r2.int]; exact hq
theorem o_mul : OpX mulX gMulI := fun v1 v2 r d1 d2 μ Q q r1 r2 hq => by
  cases v1 <;> cases v2 <;> first | cases q | skip
  simp only [mulX] at q
  split at q
  · rename_i z
    cases q; rw [r1.int, r2.int]
    refine ⟨?_, hq⟩
    rcases z with z | z | z
    · exact .inl (.inl z)
    · exact .inl (.inr z)
    · exact .inr z
  · cases q
theorem o_div : OpX divX gDiv := fun v1 v2 r d1 d2 μ Q q r1 r2 hq => by
  cases v1 <;> cases v2 <;> first | cases q | skip
  simp only [divX] at q
  split at q
  · cases q; rw [r1.int, r2.int]; exact ⟨by assumption, hq⟩
  · cases q
theorem o_mod : OpX modX gMod := fun v1 v2 r d1 d2 μ Q q r1 r2 hq => by
  cases v1 <;> cases v2 <;> first | cases q | skip
  simp only [modX] at q
  split at q
  · cases q; rw [r1.int, r2.int]; exact ⟨by assumption, hq⟩
  · cases q
theorem o_lt : OpX ltX gLt := fun v1 v2 r d1 d2 μ Q q r1 r2 hq => by
  cases v1 <;> cases v2 <;> cases q
  rw [r1.int, r2.int]; exact hq
theorem o_le : OpX leX gLe := fun v1 v2 r d1 d2 μ Q q r1 r2 hq => by
  cases v1 <;> cases v2 <;> cases q
  rw [r1.int, r2.int]; exact hq
theorem o_gt : OpX gtX gGt := fun v1 v2 r d1 d2 μ Q q r1 r2 hq => by
  cases v1 <;> cases v2 <;> cases q
  rw [r1.int, r2.int]; exact hq
theorem o_ge : OpX geX gGe := fun v1 v2 r d1 d2 μ Q q r1 r2 hq => by
  cases v1 <;> cases v2 <;> cases q
  rw [r1.int, r2.int]; exact hq
/-- a[i] -/
def ixX (v w : D) : Option D := match v with
  | .tup xs => (match w with
    | .int i => atI xs i
    | _ => none)
  | .lst xs => (match w with
    | .int i => atI xs i
    | _ => none)
  | .str s => (match w with
    | .int i => if s.length ≤ 1000000 then (atI s.cps.toList i).map fun c => .str ⟨#[c]⟩ else none
    | _ => none)
  | .dK kvs => (keyD w).bind (vD kvs)
  | _ => none
theorem RV.key {μ : Sto} {d v : D} {k : Key} (h : RV μ d v) (e : keyD v = some k) : d = v := by
  cases h with
  | eq => rfl
  | cl _ z => cases v <;> first | (cases z; done) | (cases e; done)
theorem o_ix : OpX ixX gIx := fun v1 v2 r d1 d2 μ Q q r1 r2 hq => by
  cases v1 with
  | tup xs =>
    cases v2 <;> first | cases q | skip
    rw [r1.tup, r2.int]; exact I_ixT q hq
  | lst xs =>
    cases v2 <;> first | cases q | skip
    rw [r2.int]
    cases r1 with
    | eq => exact I_ixL q hq
    | cl h e => cases e; exact I_ixC h q hq
  | str s =>
    cases v2 <;> first | cases q | skip
    simp only [ixX] at q
    split at q
    · rw [r1.str, r2.int]
      refine ⟨by assumption, ?_⟩
      show onS ((atI s.cps.toList _).map _) _
      rw [q]; exact hq
    · cases q
  | dK kvs =>
    have q : (keyD v2).bind (vD kvs) = some r := q
    obtain ⟨k, q1, q2⟩ := Option.bind_eq_some_iff.mp q
    rw [r2.key q1]
    cases r1 with
    | eq =>
      show onS ((keyD v2).bind (vD kvs)) _
      rw [q]; exact hq
    | @cl a0 _ _ h e =>
      cases e
      show onS (subD μ (.cell a0) v2) _
      have : subD μ (.cell a0) v2 = some r := by simp only [subD, h]; exact q
      rw [this]; exact hq
  | _ => cases q
/-- == and in, where a slot's cell holds a list -/
def okS : Rf → D → Bool
  | .v _, _ => true
  | .s _, .lst _ => true
  | _, _ => false
def xOpE (g : D → D → Option D) (a b : XE) : XE := fun e => xb (a e) fun r1 e1 => xb (b e1) fun r2 e2 => (drf e2 r1).bind fun v1 => (drf e2 r2).bind fun v2 => if (okS r1 v1 && okS r2 v2) = true then (g v1 v2).bind fun r => some (.ok (.v r) e2) else none
def xOpL (g : D → D → Option D) (a b : XE) : XE := fun e => xb (a e) fun r1 e1 => xb (b e1) fun r2 e2 => (drf e2 r1).bind fun v1 => (drf e2 r2).bind fun v2 => if okS r1 v1 = true then (g v1 v2).bind fun r => some (.ok (.v r) e2) else none
def eqX (S : ETab) (n : Nat) (f : Bool → Bool) (v w : D) : Option D := (eqD S n v w).map fun b => .bl (f b)
def inX (S : ETab) (n : Nat) (f : Bool → Bool) (v w : D) : Option D := match w with
  | .dK kvs => (keyD v).map fun k => .bl (f (vD kvs k).isSome)
  | w => (seqX w).bind fun ys => (inL (eqD S n) v ys).map fun b => .bl (f b)
section
variable {sl : Sl} {x y : XE} {m ma mb : DM} {as : XA} {mas : DA} {t : XT} {mt : DT} {a b : XS} {sa sb : DS} {g : XG} {gd : DG} {vs : List Nat}
theorem rsv_of {fm : Fm} {env : Env'} {e : XEnv} {μ : Sto} {d v : D} {r : Rf} (k : RfR sl env d r) (hE : ER fm sl env e μ) (q : drf e r = some v) (o : okS r v = true) : rsv μ d = rsv μ v := by
  cases r with
  | v w => cases k; cases q; rfl
  | s i =>
    cases v <;> first | cases o | skip
    cases drf_rv k hE q with
    | eq => rfl
    | cl h e => cases e; simp only [rsv, h]
/-- a tree that == can judge has no cell at its head -/
theorem eqD_nc1 {S : ETab} {n : Nat} {μ : Sto} {v w : D} {b : Bool} (h : eqD S n v w = some b) : rsv μ v = v ∧ rsv μ w = w := by
  cases n with
  | zero => cases h
  | succ n =>
    refine ⟨?_, ?_⟩
    · cases v <;> first | rfl | (cases w <;> cases h)
    · cases w <;> first | rfl | (cases v <;> cases h)
theorem s_opE {S : ETab} {n : Nat} {f : Bool → Bool} (ha : SndE sl x ma) (hb : SndE sl y mb) : SndE sl (xOpE (eqX S n f) x y) (dOp (gEqF S n f) ma mb) := fun fm env e μ hE Q E h => by
  refine I_op (ha fm env e μ hE _ _ (PX.mono (PX.bind h) (fun r1 e1 h1 d1 μ1 k1 hE1 => ?_) fun _ _ k => k))
  refine hb fm env e1 μ1 hE1 _ _ (PX.mono (PX.bind h1) (fun r2 e2 h2 d2 μ2 k2 hE2 => ?_) fun _ _ k => k)
  obtain ⟨v1, q1, h2⟩ := PX.opt h2
  obtain ⟨v2, q2, h2⟩ := PX.opt h2
  obtain ⟨q3, h2⟩ := PX.ite h2
  obtain ⟨r, q4, h2⟩ := PX.opt h2
  obtain ⟨c, q5, rfl⟩ := Option.map_eq_some_iff.mp q4
  obtain ⟨q6, q7⟩ := Bool.and_eq_true_iff.mp q3
  obtain ⟨n1, n2⟩ := eqD_nc1 (μ := μ2) q5
  refine I_eq (b := c) ?_ (h2 _ μ2 rfl hE2)
  rw [rsv_of k1 hE2 q1 q6, rsv_of k2 hE2 q2 q7, n1, n2]; exact q5
theorem inL_nc {S : ETab} {n : Nat} {μ : Sto} {v : D} {ys : List D} {b : Bool} (h : inL (eqD S n) v ys = some b) : rsv μ v = v ∨ ys = [] := by
  cases ys with
  | nil => exact .inr rfl
  | cons y r =>
    unfold inL at h
    cases q : eqD S n y v with
    | none => rw [q] at h; cases h
    | some c => exact .inl (eqD_nc1 q).2
theorem s_opIn {S : ETab} {n : Nat} {f : Bool → Bool} (ha : SndE sl x ma) (hb : SndE sl y mb) : SndE sl (xOpL (inX S n f) x y) (dOp (gInF S n f) ma mb) := fun fm env e μ hE Q E h => by
  refine I_op (ha fm env e μ hE _ _ (PX.mono (PX.bind h) (fun r1 e1 h1 d1 μ1 k1 hE1 => ?_) fun _ _ k => k))
  refine hb fm env e1 μ1 hE1 _ _ (PX.mono (PX.bind h1) (fun r2 e2 h2 d2 μ2 k2 hE2 => ?_) fun _ _ k => k)
  obtain ⟨v1, q1, h2⟩ := PX.opt h2
  obtain ⟨v2, q2, h2⟩ := PX.opt h2
  obtain ⟨q3, h2⟩ := PX.ite h2
  obtain ⟨r, q4, h2⟩ := PX.opt h2
  have rv1 := drf_rv k1 hE2 q1
  have rv2 := drf_rv k2 hE2 q2
  have hq := h2 r μ2 rfl hE2
  have sq : ∀ ys, seqX v2 = some ys → (∀ kvs, v2 ≠ .dK kvs) → ((inL (eqD S n) v1 ys).map fun b => D.bl (f b)) = some r → gInF S n f d1 d2 μ2 Q := fun ys z1 z0 z2 => by
    obtain ⟨c, z3, rfl⟩ := Option.map_eq_some_iff.mp z2
    have gk : getK μ2 d2 = none := by
      cases v2 <;> cases z1
      · rw [rv2.tup]; rfl
      · cases rv2 with
        | eq => rfl
        | cl h e => cases e; simp only [getK, h]
    refine I_in gk (rv2.getS z1) (b := c) ?_ hq
    rw [rsv_of k1 hE2 q1 q3]
    rcases inL_nc (μ := μ2) z3 with z | z
    · rw [z]; exact z3
    · subst z; exact z3
  cases v2 with
  | dK kvs =>
    obtain ⟨k, z1, rfl⟩ := Option.map_eq_some_iff.mp (show (keyD v1).map _ = some r from q4)
    rw [rv1.key z1]
    refine I_inK ?_ z1 hq
    cases rv2 with
    | eq => rfl
    | cl h e => cases e; simp only [getK, h]
  | tup ys => exact sq ys rfl (fun _ z => by cases z) q4
  | lst ys => exact sq ys rfl (fun _ z => by cases z) q4
  | _ => cases q4
/-! ### chains -/
def xChain (g g' : D → D → Option D) (a b c : XE) : XE := fun e => xb (a e) fun r1 e1 => xb (b e1) fun r2 e2 => (drf e2 r1).bind fun v1 => (drf e2 r2).bind fun v2 => ((g v1 v2).bind blD).bind fun k => if k = true then xb (c e2) (fun r3 e3 => (drf e3 r2).bind fun v2 => (drf e3 r3).bind fun v3 => (g' v2 v3).bind fun r => some (.ok (.v r) e3)) else some (.ok (.v (.bl false)) e2)
theorem s_chain {z : XE} {mc : DM} {g g' : D → D → Option D} {gD gD' : DR2} (o : OpX g gD) (o' : OpX g' gD') (ha : SndE sl x ma) (hb : SndE sl y mb) (hc : SndE sl z mc) : SndE sl (xChain g g' x y z) (dChain gD gD' ma mb mc) := fun fm env e μ hE Q E h => by
  refine I_chain (ha fm env e μ hE _ _ (PX.mono (PX.bind h) (fun r1 e1 h1 d1 μ1 k1 hE1 => ?_) fun _ _ k => k))
  refine hb fm env e1 μ1 hE1 _ _ (PX.mono (PX.bind h1) (fun r2 e2 h2 d2 μ2 k2 hE2 => ?_) fun _ _ k => k)
  obtain ⟨v1, q1, h2⟩ := PX.opt h2
  obtain ⟨v2, q2, h2⟩ := PX.opt h2
  obtain ⟨k, q3, h2⟩ := PX.opt h2
  obtain ⟨r, q4, q5⟩ := Option.bind_eq_some_iff.mp q3
  rw [blD_of q5] at q4
  refine o v1 v2 _ d1 d2 μ2 _ q4 (drf_rv k1 hE2 q1) (drf_rv k2 hE2 q2) (I_chK (fun w => ?_) (fun w => ?_)) <;> subst w
  · refine hc fm env e2 μ2 hE2 _ _ (PX.mono (PX.bind h2) (fun r3 e3 h3 d3 μ3 k3 hE3 => ?_) fun _ _ k => k)
    obtain ⟨w2, q6, h3⟩ := PX.opt h3
    obtain ⟨w3, q7, h3⟩ := PX.opt h3
    obtain ⟨r', q8, h3⟩ := PX.opt h3
    exact o' w2 w3 r' d2 d3 μ3 Q q8 (drf_rv k2 hE3 q6) (drf_rv k3 hE3 q7) (h3 r' μ3 rfl hE3)
  · exact h2 _ μ2 rfl hE2
/-! ### iterators over what is frozen -/
abbrev XIf := XM (List D)
def SndI (sl : Sl) (x : XIf) (m : DI) : Prop := ∀ (fm : Fm) (env : Env') (e : XEnv) (μ : Sto), ER fm sl env e μ → ∀ (Q : DIt → Sto → Prop) (E : DX),
  PX (x e) (fun xs e' => ∀ (it : DIt) μ', it.xs = xs → (∀ μ2, it.keep μ2) → ER fm sl env e' μ' → Q it μ') (fun y e' => ∀ μ', ER fm sl env e' μ' → E y μ') → m env μ Q E
def fzv : Rf → Option D
  | .v d => some d
  | _ => none
def xSeqI (a : XE) : XIf := fun e => xb (a e) fun r e1 => ((fzv r).bind seqX).bind fun xs => some (.ok xs e1)
theorem fzv_of {env : Env'} {d v : D} {r : Rf} (k : RfR sl env d r) (q : fzv r = some v) : d = v := by
  cases r with
  | v w => cases q; exact k
  | s i => cases q
theorem s_seqI (h : SndE sl x m) : SndI sl (xSeqI x) (dSeqI m) := fun fm env e μ hE Q E q => by
  refine I_seqI (h fm env e μ hE _ _ (PX.mono (PX.bind q) (fun r e1 q1 d μ1 k1 hE1 => ?_) fun _ _ k => k))
  obtain ⟨xs, q2, q3⟩ := PX.opt q1
  obtain ⟨v, q4, q5⟩ := Option.bind_eq_some_iff.mp q2
  have := fzv_of k1 q4
  subst this
  exact ⟨xs, seqX_get q5, q3 _ μ1 rfl (fun μ2 => seqX_get q5) hE1⟩
def xEnum (a : XE) : XIf := fun e => xb (a e) fun r e1 => ((fzv r).bind seqX).bind fun xs => some (.ok (enumD xs) e1)
theorem s_enum (h : SndE sl x m) : SndI sl (xEnum x) (dEnum m) := fun fm env e μ hE Q E q => by
  refine I_enum (h fm env e μ hE _ _ (PX.mono (PX.bind q) (fun r e1 q1 d μ1 k1 hE1 => ?_) fun _ _ k => k))
  obtain ⟨xs, q2, q3⟩ := PX.opt q1
  obtain ⟨v, q4, q5⟩ := Option.bind_eq_some_iff.mp q2
  have := fzv_of k1 q4
  subst this
  exact I_onS2 (seqX_get q5) (q3 _ μ1 rfl (fun μ2 => seqX_get q5) hE1)
def xZip (a b : XE) : XIf := fun e => xb (a e) fun r1 e1 => xb (b e1) fun r2 e2 => ((fzv r1).bind seqX).bind fun xs => ((fzv r2).bind seqX).bind fun ys => some (.ok (zipD xs ys) e2)
theorem s_zip (h : SndE sl x ma) (k : SndE sl y mb) : SndI sl (xZip x y) (dZip ma mb) := fun fm env e μ hE Q E q => by
  refine I_zip (h fm env e μ hE _ _ (PX.mono (PX.bind q) (fun r e1 q1 d μ1 k1 hE1 => ?_) fun _ _ k => k))
  refine k fm env e1 μ1 hE1 _ _ (PX.mono (PX.bind q1) (fun r2 e2 q2 d2 μ2 k2 hE2 => ?_) fun _ _ k => k)
  obtain ⟨xs, q3, q4⟩ := PX.opt q2
  obtain ⟨ys, q5, q6⟩ := PX.opt q4
  obtain ⟨v, q7, q8⟩ := Option.bind_eq_some_iff.mp q3
  obtain ⟨w, q9, q10⟩ := Option.bind_eq_some_iff.mp q5
  have := fzv_of k1 q7
  subst this
  have := fzv_of k2 q9
  subst this
  exact I_onS2 (seqX_get q8) (I_onS2 (seqX_get q10) (q6 _ μ2 rfl (fun μ2 => ⟨seqX_get q8, seqX_get q10⟩) hE2))
def rg1X (vs : List D) : Option (List D) := match vs with
  | [.int j] => if -(2 ^ 62) ≤ j ∧ j < 2 ^ 62 then some (rangeD 0 j.toNat) else none
  | _ => none
def rg2X (vs : List D) : Option (List D) := match vs with
  | [.int i, .int j] => if -(2 ^ 62) ≤ i ∧ i < 2 ^ 62 ∧ -(2 ^ 62) ≤ j ∧ j < 2 ^ 62 then some (rangeD i (j - i).toNat) else none
  | _ => none
def xRange1 (as : XA) : XIf := fun e => xb (as e) fun rs e1 => ((vsOf rs).bind rg1X).bind fun xs => some (.ok xs e1)
def xRange2 (as : XA) : XIf := fun e => xb (as e) fun rs e1 => ((vsOf rs).bind rg2X).bind fun xs => some (.ok xs e1)
theorem s_range1 (h : SndA sl as mas) : SndI sl (xRange1 as) (dRange1 mas) := fun fm env e μ hE Q E q => by
  refine I_range1 (h fm env e μ hE _ _ (PX.mono (PX.bind q) (fun rs e1 q1 ds μ1 ks hE1 => ?_) fun _ _ k => k))
  obtain ⟨xs, q2, q3⟩ := PX.opt q1
  obtain ⟨vs, q4, q5⟩ := Option.bind_eq_some_iff.mp q2
  rw [vsOf_rs ks q4]
  unfold rg1X at q5
  split at q5
  · split at q5
    · cases q5; exact I_rg1K (by assumption) (q3 _ μ1 rfl (fun _ => trivial) hE1)
    · cases q5
  · cases q5
theorem s_range2 (h : SndA sl as mas) : SndI sl (xRange2 as) (dRange2 mas) := fun fm env e μ hE Q E q => by
  refine I_range2 (h fm env e μ hE _ _ (PX.mono (PX.bind q) (fun rs e1 q1 ds μ1 ks hE1 => ?_) fun _ _ k => k))
  obtain ⟨xs, q2, q3⟩ := PX.opt q1
  obtain ⟨vs, q4, q5⟩ := Option.bind_eq_some_iff.mp q2
  rw [vsOf_rs ks q4]
  unfold rg2X at q5
  split at q5
  · split at q5
    · cases q5; exact I_rg2K (by assumption) (q3 _ μ1 rfl (fun _ => trivial) hE1)
    · cases q5
  · cases q5
def strX : D → Option (List D)
  | .str z => some (z.cps.toList.map fun c => .str ⟨#[c]⟩)
  | _ => none
def xStrI (a : XE) : XIf := fun e => xb (a e) fun r e1 => ((fzv r).bind strX).bind fun xs => some (.ok xs e1)
theorem s_strI (h : SndE sl x m) : SndI sl (xStrI x) (dStrI m) := fun fm env e μ hE Q E q => by
  refine (show m env μ _ E from h fm env e μ hE _ _ (PX.mono (PX.bind q) (fun r e1 q1 d μ1 k1 hE1 => ?_) fun _ _ k => k))
  obtain ⟨xs, q2, q3⟩ := PX.opt q1
  obtain ⟨v, q4, q5⟩ := Option.bind_eq_some_iff.mp q2
  have := fzv_of k1 q4
  subst this
  cases d <;> cases q5
  exact q3 _ μ1 rfl (fun _ => trivial) hE1
/-! ### loops -/
def xFor (i : XIf) (g : XG) (body : XS) : XS := fun e => xo (i e) fun xs e1 => xForL g body xs e1
theorem s_for {xi : XIf} {mi : DI} (hi : SndI sl xi mi) (hg : SndG sl vs g gd) (hb : SndS sl a sa) : SndS sl (xFor xi g a) (dFor mi gd sa) := fun fm env e μ hE K q => by
  refine for_i (hi fm env e μ hE _ _ (PX.mono (PO.bind q) (fun xs e1 q1 it μ1 ex hk hE1 => ?_) fun _ _ k μ' hE' => k env μ' hE'))
  subst ex
  exact ⟨hk μ1, forL_ok hg hb rfl rfl rfl (fun _ _ _ h => h) (fun _ _ μ2 _ => hk μ2) it.xs env e1 μ1 hE1 K q1⟩
/-- over a slot's list -/
def xForS (i : Nat) (f : List D → List D) (g : XG) (body : XS) : XS := fun e => ((e[i]?).join.bind seqX).bind fun xs => xForL g body (f xs) e
theorem slot_ty {fm : Fm} {env : Env'} {e : XEnv} {μ : Sto} {i : Nat} {v : D} (hE : ER fm sl env e μ) (h1 : i ∈ sl.ow ∨ i ∈ sl.bo) (hv : e[i]? = some (some v)) : ∃ d, env[i]? = some (some d) ∧ RV μ d v := by
  rcases h1 with h1 | h1
  · obtain ⟨a, c, e1, e2, e3⟩ := hE.ow i v h1 hv; exact ⟨_, e1, .cl e2 e3⟩
  · obtain ⟨d', e1, e2, _⟩ := hE.bo i v h1 hv; exact ⟨_, e1, e2⟩
theorem lock_keep {fm : Fm} {i : Nat} {d v : D} {xs : List D} (h1 : i ∈ sl.ow ∨ i ∈ sl.bo) (hx : seqX v = some xs) : ∀ env e μ, ER { fm with B := (i, d, v) :: fm.B } (sl.lock i) env e μ → getS μ d = some xs := fun env e μ hE => by
  obtain ⟨_, z1, z2⟩ := hE.bc _ (List.mem_cons_self ..)
  obtain ⟨d', e1, r⟩ := slot_ty (sl := sl.lock i) hE h1 z2
  have z1 : env[i]? = some (some d) := z1
  rw [z1] at e1; cases e1
  exact r.getS hx
theorem s_forS (i : Nat) (hg : SndG (sl.lock i) vs g gd) (hb : SndS (sl.lock i) a sa) (h1 : i ∈ sl.ow ∨ i ∈ sl.bo := by first | decide | (dsimp only [Sl.hand, Sl.lock]; decide)) : SndS sl (xForS i id g a) (dFor (dSeqI (dVar i)) gd sa) := fun fm env e μ hE K q => by
  obtain ⟨xs, q1, q2⟩ := PO.opt q
  obtain ⟨v, q3, q4⟩ := Option.bind_eq_some_iff.mp q1
  have hv := join_some q3
  obtain ⟨d, e1, r⟩ := slot_ty hE h1 hv
  refine for_i (I_seqI (I_var e1 ⟨xs, r.getS q4, r.getS q4, ?_⟩))
  exact forL_ok (fm := fm) (sl := sl) (fm' := { fm with B := (i, d, v) :: fm.B }) hg hb rfl rfl rfl (fun _ _ _ h => h.unlock fun q hq => (hE.bc q hq).1) (lock_keep h1 q4) xs env e μ (hE.lock e1 hv) K q2
theorem s_forES (i : Nat) (hg : SndG (sl.lock i) vs g gd) (hb : SndS (sl.lock i) a sa) (h1 : i ∈ sl.ow ∨ i ∈ sl.bo := by first | decide | (dsimp only [Sl.hand, Sl.lock]; decide)) : SndS sl (xForS i enumD g a) (dFor (dEnum (dVar i)) gd sa) := fun fm env e μ hE K q => by
  obtain ⟨xs, q1, q2⟩ := PO.opt q
  obtain ⟨v, q3, q4⟩ := Option.bind_eq_some_iff.mp q1
  have hv := join_some q3
  obtain ⟨d, e1, r⟩ := slot_ty hE h1 hv
  refine for_i (I_enum (I_var e1 (I_onS2 (r.getS q4) ⟨r.getS q4, ?_⟩)))
  exact forL_ok (fm := fm) (sl := sl) (fm' := { fm with B := (i, d, v) :: fm.B }) hg hb rfl rfl rfl (fun _ _ _ h => h.unlock fun q hq => (hE.bc q hq).1) (lock_keep h1 q4) (enumD xs) env e μ (hE.lock e1 hv) K q2
def xWhL (t : XT) (b : XS) : Nat → XS
  | 0 => fun _ => none
  | n + 1 => fun e => xo (t e) fun c e1 => if c = true then (match b e1 with
    | some (.nx e2) => xWhL t b n e2
    | some (.ct e2) => xWhL t b n e2
    | some (.bk e2) => some (.nx e2)
    | o => o) else some (.nx e1)
def fuelX : Nat := 2 ^ 40
def xWhile (t : XT) (b : XS) : XS := xWhL t b fuelX
theorem whL_ok (ht : SndT sl t mt) (hb : SndS sl a sa) : ∀ (n : Nat) (fm : Fm) (env : Env') (e : XEnv) (μ : Sto), ER fm sl env e μ → ∀ K, PO sl fm (xWhL t a n e) K → whileD mt sa n env μ K
  | 0, fm, env, e, μ, hE, K, q => q.elim
  | n + 1, fm, env, e, μ, hE, K, q => by
    refine (ht fm env e μ hE _ _ (PX.mono (PO.bind q) (fun c e1 q1 μ1 hE1 => ?_) fun _ _ k μ' hE' => k env μ' hE'))
    refine I_br (fun z => ?_) (fun z => ?_) <;> subst z
    · refine hb fm env e1 μ1 hE1 _ ?_
      have q1 : PO sl fm (match a e1 with
        | some (.nx e2) => xWhL t a n e2
        | some (.ct e2) => xWhL t a n e2
        | some (.bk e2) => some (.nx e2)
        | o => o) K := q1
      cases o : a e1 with
      | none => rw [o] at q1; exact q1.elim
      | some z =>
        rw [o] at q1
        cases z with
        | nx e2 => exact fun env2 μ2 hE2 => whL_ok ht hb n fm env2 e2 μ2 hE2 K q1
        | ct e2 => exact fun env2 μ2 hE2 => whL_ok ht hb n fm env2 e2 μ2 hE2 K q1
        | bk e2 => exact q1
        | rt d e2 => exact q1
        | ex y e2 => exact q1
    · exact q1 env μ1 hE1
theorem s_while (ht : SndT sl t mt) (hb : SndS sl a sa) : SndS sl (xWhile t a) (dWhile mt sa) := fun fm env e μ hE K q => ⟨fuelX, whL_ok ht hb fuelX fm env e μ hE K q⟩
end
end DL

/-! XL7: comprehensions, lists' methods, freezing, builtins, slices, dicts, errors that can be run. -/
namespace DL
open PySem PySem.Spec L2
/-! ### comprehensions -/
def xLcL (g : XG) (t : XT) (x : XE) (vs : List Nat) : List D → List D → XEnv → Option (XR (List D))
  | [], acc, e => some (.ok acc e)
  | d :: r, acc, e => (g d e).bind fun e1 => match t e1 with
    | some (.ok b e2) => if b = true then (match x e2 with
      | some (.ok (.v y) e3) => xLcL g t x vs r (acc ++ [y]) (wipeD e3 vs)
      | _ => none) else xLcL g t x vs r acc (wipeD e2 vs)
    | _ => none
def rst (e0 e : XEnv) : List Nat → XEnv
  | [] => e
  | v :: vs => (rst e0 e vs).set v ((e0[v]?).join)
def xLcB (e0 : XEnv) (vs : List Nat) (r : Option (XR (List D))) : Option (XR Rf) := match r with
  | some (.ok acc e) => some (.ok (.v (.lst acc)) (rst e0 e vs))
  | _ => none
def xLc (i : XIf) (g : XG) (t : XT) (x : XE) (vs : List Nat) : XE := fun e => xb (i e) fun xs e1 => if xs.length ≤ 1000000 then xLcB e1 vs (xLcL g t x vs xs [] (wipeD e1 vs)) else none
def xLcS (i : Nat) (f : List D → List D) (g : XG) (t : XT) (x : XE) (vs : List Nat) : XE := fun e => ((e[i]?).join.bind seqX).bind fun xs => if (f xs).length ≤ 1000000 then xLcB e vs (xLcL g t x vs (f xs) [] (wipeD e vs)) else none
def PL (r : Option (XR (List D))) (P : List D → XEnv → Prop) : Prop := match r with
  | some (.ok acc e) => P acc e
  | some (.er _ _) => False
  | none => False
def xYes : XT := fun e => some (.ok true e)
section
variable {fm : Fm} {sl : Sl} {env : Env'} {e : XEnv} {μ : Sto} {vs : List Nat}
theorem wipeD_get : ∀ {vs : List Nat} {e : XEnv} {i : Nat} {v : D}, (wipeD e vs)[i]? = some (some v) → i ∉ vs ∧ e[i]? = some (some v)
  | [], _, _, _, h => ⟨by simp, h⟩
  | w :: vs, e, i, v, h => by
    have h : ((wipeD e vs).set w none)[i]? = some (some v) := h
    by_cases hi : w = i
    · subst hi; have := getSet h; cases this
    · rw [List.getElem?_set_ne hi] at h
      obtain ⟨h1, h2⟩ := wipeD_get h
      exact ⟨by simp [h1]; exact fun z => hi z.symm, h2⟩
theorem wipeD_off : ∀ {vs : List Nat} {e : XEnv} {i : Nat}, i ∉ vs → (wipeD e vs)[i]? = e[i]?
  | [], _, _, _ => rfl
  | w :: vs, e, i, h => by
    show ((wipeD e vs).set w none)[i]? = _
    rw [List.getElem?_set_ne (fun z => h (by simp [z])), wipeD_off (fun z => h (List.mem_cons_of_mem _ z))]
theorem wipeD_len : ∀ {vs : List Nat} {e : XEnv}, (wipeD e vs).length = e.length
  | [], _ => rfl
  | w :: vs, e => by show ((wipeD e vs).set w none).length = _; rw [List.length_set, wipeD_len]
/-- the slots of a comprehension -/
structure LcOk (sl : Sl) (vs : List Nat) : Prop where
  ow : ∀ i ∈ vs, i ∉ sl.ow
  bo : ∀ i ∈ vs, i ∉ sl.bo
  xs : ∀ i ∈ vs, i ∉ sl.xs
  ct : ∀ i ∈ vs, i ∉ sl.ct
def lcB (sl : Sl) (vs : List Nat) : Bool := vs.all fun i => decide (i ∉ sl.ow) && (decide (i ∉ sl.bo) && (decide (i ∉ sl.xs) && decide (i ∉ sl.ct)))
theorem lcB_ok (h : lcB sl vs = true) : LcOk sl vs := by
  unfold lcB at h
  simp only [List.all_eq_true, Bool.and_eq_true, decide_eq_true_eq] at h
  exact ⟨fun i hi => (h i hi).1, fun i hi => (h i hi).2.1, fun i hi => (h i hi).2.2.1, fun i hi => (h i hi).2.2.2⟩
/-- the same over an environment that differs in such slots alone, once they are wiped in the run -/
theorem ER.wipe (h : ER fm sl env e μ) (L : LcOk sl vs) {env' : Env'} (ag : ∀ i, i ∉ vs → env'[i]? = env[i]?) (hl : env'.length = env.length) : ER fm sl env' (wipeD e vs) μ := by
  refine ⟨by rw [hl, wipeD_len]; exact h.len, fun i v a1 a2 a3 q => ?_, fun i v hi q => ?_, fun i v hi q => ?_, fun i j a v w hi hj hn q q' r => ?_, h.fr, fun i a v hi q r => ?_, fun p hp => ?_, fun q hq => ?_, fun q hq => ?_⟩
  · obtain ⟨n, q⟩ := wipeD_get q; rw [ag i n]; exact h.fz i v a1 a2 a3 q
  · obtain ⟨n, q⟩ := wipeD_get q; rw [ag i n]; exact h.bo i v hi q
  · obtain ⟨n, q⟩ := wipeD_get q; rw [ag i n]; exact h.ow i v hi q
  · obtain ⟨n, q⟩ := wipeD_get q
    obtain ⟨n', q'⟩ := wipeD_get q'
    rw [ag i n] at r; rw [ag j n']; exact h.di i j a v w hi hj hn q q' r
  · obtain ⟨n, q⟩ := wipeD_get q; rw [ag i n] at r; exact h.nw i a v hi q r
  · obtain ⟨p1, p2, p3, p4⟩ := h.pa p hp
    have n : p.1 ∉ vs := fun z => L.ow _ z p2
    rw [ag _ n, wipeD_off n]; exact ⟨p1, p2, p3, p4⟩
  · obtain ⟨p1, p2, p3⟩ := h.bc q hq
    have n : q.1 ∉ vs := fun z => L.ct _ z p1
    rw [ag _ n, wipeD_off n]; exact ⟨p1, p2, p3⟩
  · obtain ⟨p1, p2⟩ := h.hx q hq
    have n : q.1 ∉ vs := fun z => L.xs _ z p1
    rw [ag _ n, wipeD_off n]; exact ⟨p1, p2⟩
theorem rst_get : ∀ {vs : List Nat} {e0 e : XEnv} {i : Nat} {v : D}, (rst e0 e vs)[i]? = some (some v) → (i ∈ vs ∧ e0[i]? = some (some v)) ∨ (i ∉ vs ∧ e[i]? = some (some v))
  | [], _, _, _, _, h => .inr ⟨by simp, h⟩
  | w :: vs, e0, e, i, v, h => by
    have h : ((rst e0 e vs).set w ((e0[w]?).join))[i]? = some (some v) := h
    by_cases hi : w = i
    · subst hi
      have := getSet h
      exact .inl ⟨by simp, join_some this.symm⟩
    · rw [List.getElem?_set_ne hi] at h
      rcases rst_get h with ⟨h1, h2⟩ | ⟨h1, h2⟩
      · exact .inl ⟨List.mem_cons_of_mem _ h1, h2⟩
      · exact .inr ⟨by simp [h1]; exact fun z => hi z.symm, h2⟩
theorem rst_off : ∀ {vs : List Nat} {e0 e : XEnv} {i : Nat}, i ∉ vs → (rst e0 e vs)[i]? = e[i]?
  | [], _, _, _, _ => rfl
  | w :: vs, e0, e, i, h => by
    show ((rst e0 e vs).set w _)[i]? = _
    rw [List.getElem?_set_ne (fun z => h (by simp [z])), rst_off (fun z => h (List.mem_cons_of_mem _ z))]
theorem rst_len : ∀ {vs : List Nat} {e0 e : XEnv}, (rst e0 e vs).length = e.length
  | [], _, _ => rfl
  | w :: vs, e0, e => by show ((rst e0 e vs).set w _).length = _; rw [List.length_set, rst_len]
theorem ER.rst {e0 : XEnv} {μ0 : Sto} {env0 : Env'} (h0 : ER fm sl env0 e0 μ0) (h : ER fm sl (wipeD env0 vs) e μ) (L : LcOk sl vs) : ER fm sl env0 (DL.rst e0 e vs) μ := by
  have ag : ∀ i, i ∉ vs → (wipeD env0 vs)[i]? = env0[i]? := fun i hi => wipeD_off hi
  have hl : env0.length = e.length := by rw [← h.len, wipeD_len]
  refine ⟨by rw [rst_len]; exact hl, fun i v a1 a2 a3 q => ?_, fun i v hi q => ?_, fun i v hi q => ?_, fun i j a v w hi hj hn q q' r => ?_, h.fr, fun i a v hi q r => ?_, fun p hp => ?_, fun q hq => ?_, fun q hq => ?_⟩
  · rcases rst_get q with ⟨z, q⟩ | ⟨z, q⟩
    · exact h0.fz i v a1 a2 a3 q
    · rw [← ag i z]; exact h.fz i v a1 a2 a3 q
  · rcases rst_get q with ⟨z, q⟩ | ⟨z, q⟩
    · exact absurd hi (L.bo i z)
    · rw [← ag i z]; exact h.bo i v hi q
  · rcases rst_get q with ⟨z, q⟩ | ⟨z, q⟩
    · exact absurd hi (L.ow i z)
    · rw [← ag i z]; exact h.ow i v hi q
  · rcases rst_get q with ⟨z, q⟩ | ⟨z, q⟩
    · exact absurd hi (L.ow i z)
    · rcases rst_get q' with ⟨z', q'⟩ | ⟨z', q'⟩
      · exact (hj.elim (fun y => L.ow j z' y) fun y => L.bo j z' y).elim
      · rw [← ag i z] at r; rw [← ag j z']; exact h.di i j a v w hi hj hn q q' r
  · rcases rst_get q with ⟨z, q⟩ | ⟨z, q⟩
    · exact absurd hi (L.ow i z)
    · rw [← ag i z] at r; exact h.nw i a v hi q r
  · obtain ⟨p1, p2, p3, p4⟩ := h.pa p hp
    have n : p.1 ∉ vs := fun z => L.ow _ z p2
    rw [ag _ n] at p4; rw [rst_off n]; exact ⟨p1, p2, p3, p4⟩
  · obtain ⟨p1, p2, p3⟩ := h.bc q hq
    have n : q.1 ∉ vs := fun z => L.ct _ z p1
    rw [ag _ n] at p2; rw [rst_off n]; exact ⟨p1, p2, p3⟩
  · obtain ⟨p1, p2⟩ := h.hx q hq
    have n : q.1 ∉ vs := fun z => L.xs _ z p1
    rw [ag _ n] at p2; rw [rst_off n]; exact ⟨p1, p2⟩
end
section
variable {sl : Sl} {x y : XE} {m ma mb : DM} {as : XA} {mas : DA} {t : XT} {mt : DT} {a b : XS} {sa sb : DS} {g : XG} {gd : DG} {vs : List Nat}
theorem s_yes : SndT sl xYes dYes := fun fm env e μ hE Q E q => q μ hE
theorem lcL_ok {c : Bool} {sl' : Sl} {fm' : Fm} {keep : Sto → Prop} {Q : DQ} (hg : SndG sl' vs g gd) (ht : SndT sl' t mt) (hx : SndE sl' x m) (L : LcOk sl' vs) (wenv : Env') (hk : ∀ env e μ, ER fm' sl' env e μ → keep μ) (P : List D → XEnv → Prop)
    (fin : ∀ acc e μ, P acc e → ER fm' sl' wenv e μ → newL c acc μ Q) : ∀ (xs acc : List D) (e : XEnv) (μ : Sto), ER fm' sl' wenv e μ → PL (xLcL g t x vs xs acc e) P → lcD c keep gd mt m wenv Q xs acc μ
  | [], acc, e, μ, hE, q => fin acc e μ q hE
  | d :: r, acc, e, μ, hE, q => by
    unfold xLcL at q
    cases o : g d e with
    | none => rw [o] at q; exact q.elim
    | some e1 =>
      rw [o] at q
      refine hg fm' wenv e μ d hE _ ?_
      rw [o]
      intro env1 hE1 ag
      have back : ∀ {e μ}, ER fm' sl' env1 e μ → ER fm' sl' wenv (wipeD e vs) μ := fun h => h.wipe L (fun i hi => (ag.2 i hi).symm) ag.1.symm
      refine ht fm' env1 e1 μ hE1 _ _ ?_
      cases o2 : t e1 with
      | none => simp only [Option.bind, o2] at q; exact q
      | some z =>
        cases z with
        | er _ _ => simp only [Option.bind, o2] at q; exact q.elim
        | ok b e2 =>
          simp only [Option.bind, o2] at q
          intro μ2 hE2
          refine I_br (fun w => ?_) (fun w => ?_) <;> subst w
          · refine hx fm' env1 e2 μ2 hE2 _ _ ?_
            simp only [if_true] at q
            cases o3 : x e2 with
            | none => rw [o3] at q; exact q
            | some z =>
              rw [o3] at q
              cases z with
              | er _ _ => exact q.elim
              | ok rf e3 =>
                cases rf with
                | s i => exact q.elim
                | v y =>
                  intro y' μ3 ey hE3
                  have ey : y' = y := ey
                  subst ey
                  exact ⟨hk _ _ _ hE3, lcL_ok hg ht hx L wenv hk P fin r _ _ μ3 (back hE3) q⟩
          · exact ⟨hk _ _ _ hE2, lcL_ok hg ht hx L wenv hk P fin r _ _ μ2 (back hE2) (by simpa using q)⟩
theorem lc_run {ok : Rf → XEnv → Prop} {er : Exn → XEnv → Prop} {r : Option (XR (List D))} {e0 : XEnv} (h : PX (xLcB e0 vs r) ok er) : PL r fun acc e => ok (.v (.lst acc)) (rst e0 e vs) := by
  cases r with
  | none => exact h
  | some r => cases r <;> exact h
theorem s_lc {xi : XIf} {mi : DI} (hi : SndI sl xi mi) (hg : SndG sl vs g gd) (ht : SndT sl t mt) (hx : SndE sl x m) (hL : lcB sl vs = true := by first | decide | (dsimp only [Sl.hand, Sl.lock]; decide)) : SndE sl (xLc xi g t x vs) (dLc false mi gd mt m vs) := fun fm env e μ hE Q E q => by
  have L := lcB_ok hL
  refine I_lc (hi fm env e μ hE _ _ (PX.mono (PX.bind q) (fun xs e1 q1 it μ1 ex hk hE1 => ?_) fun _ _ k => k))
  subst ex
  obtain ⟨z, q2⟩ := PX.ite q1
  refine ⟨z, hk μ1, lcL_ok (fm' := fm) hg ht hx L (wipeD env vs) (fun _ _ μ _ => hk μ) (fun acc e => ∀ d μ', RfR sl env d (.v (.lst acc)) → ER fm sl env (rst e1 e vs) μ' → Q d μ') (fun acc e μ2 p hE2 => ?_) it.xs [] (wipeD e1 vs) μ1 (hE1.wipe L (fun i hi => wipeD_off hi) wipeD_len) (lc_run q2)⟩
  exact p _ μ2 rfl (ER.rst hE1 hE2 L)
theorem c_lc {xi : XIf} {mi : DI} (hi : SndI sl xi mi) (hg : SndG sl vs g gd) (ht : SndT sl t mt) (hx : SndE sl x m) (hL : lcB sl vs = true := by first | decide | (dsimp only [Sl.hand, Sl.lock]; decide)) : SndC sl (xLc xi g t x vs) (dLc true mi gd mt m vs) := fun fm env e μ hE Q E q => by
  have L := lcB_ok hL
  refine I_lc (hi fm env e μ hE _ _ (PX.mono (PX.bind q) (fun xs e1 q1 it μ1 ex hk hE1 => ?_) fun _ _ k => k))
  subst ex
  obtain ⟨z, q2⟩ := PX.ite q1
  refine ⟨z, hk μ1, lcL_ok (fm' := fm) hg ht hx L (wipeD env vs) (fun _ _ μ _ => hk μ) (fun acc e => ∀ v c a μ', Rf.v (.lst acc) = .v v → mcD v = some c → ER fm sl env (rst e1 e vs) μ' → μ' a = none → Q (.cell a) (upm μ' a c)) (fun acc e μ2 p hE2 => ?_) it.xs [] (wipeD e1 vs) μ1 (hE1.wipe L (fun i hi => wipeD_off hi) wipeD_len) (lc_run q2)⟩
  exact fun a na => p _ _ a μ2 rfl rfl (ER.rst hE1 hE2 L) na
theorem ER.lockR {fm : Fm} {env : Env'} {e : XEnv} {μ : Sto} {i : Nat} {d v : D} (h : ER { fm with B := (i, d, v) :: fm.B } (sl.lock i) env e μ) (hc : ∀ q ∈ fm.B, q.1 ∈ sl.ct) : ER fm sl env e μ := h.unlock hc
theorem s_lcS (i : Nat) {f : List D → List D} {mi : DI} (hm : ∀ env μ (Q : DIt → Sto → Prop) E d xs, env[i]? = some (some d) → getS μ d = some xs → Q ⟨f xs, fun μ2 => getS μ2 d = some xs⟩ μ → mi env μ Q E) (hg : SndG (sl.lock i) vs g gd) (ht : SndT (sl.lock i) t mt) (hx : SndE (sl.lock i) x m) (h1 : i ∈ sl.ow ∨ i ∈ sl.bo := by first | decide | (dsimp only [Sl.hand, Sl.lock]; decide)) (hL : lcB (sl.lock i) vs = true := by first | decide | (dsimp only [Sl.hand, Sl.lock]; decide)) : SndE sl (xLcS i f g t x vs) (dLc false mi gd mt m vs) := fun fm env e μ hE Q E q => by
  have L := lcB_ok hL
  obtain ⟨xs, q1, q2⟩ := PX.opt q
  obtain ⟨v, q3, q4⟩ := Option.bind_eq_some_iff.mp q1
  have hv := join_some q3
  obtain ⟨d, e1, r⟩ := slot_ty hE h1 hv
  obtain ⟨z, q2⟩ := PX.ite q2
  have hE1 := hE.lock (d := d) (v := v) e1 hv
  have un : ∀ {env e μ}, ER { fm with B := (i, d, v) :: fm.B } (sl.lock i) env e μ → ER fm sl env e μ := fun h => h.unlock fun q hq => (hE.bc q hq).1
  refine I_lc (hm _ _ _ _ d xs e1 (r.getS q4) ⟨z, r.getS q4, ?_⟩)
  refine lcL_ok (fm' := { fm with B := (i, d, v) :: fm.B }) hg ht hx L (wipeD env vs) (lock_keep h1 q4) (fun acc e' => ∀ d μ', RfR sl env d (.v (.lst acc)) → ER fm sl env (rst e e' vs) μ' → Q d μ') (fun acc e μ2 p hE2 => ?_) (f xs) [] (wipeD e vs) μ (hE1.wipe L (fun i hi => wipeD_off hi) wipeD_len) (lc_run q2)
  exact p _ μ2 rfl (un (ER.rst hE1 hE2 L))
theorem c_lcS (i : Nat) {f : List D → List D} {mi : DI} (hm : ∀ env μ (Q : DIt → Sto → Prop) E d xs, env[i]? = some (some d) → getS μ d = some xs → Q ⟨f xs, fun μ2 => getS μ2 d = some xs⟩ μ → mi env μ Q E) (hg : SndG (sl.lock i) vs g gd) (ht : SndT (sl.lock i) t mt) (hx : SndE (sl.lock i) x m) (h1 : i ∈ sl.ow ∨ i ∈ sl.bo := by first | decide | (dsimp only [Sl.hand, Sl.lock]; decide)) (hL : lcB (sl.lock i) vs = true := by first | decide | (dsimp only [Sl.hand, Sl.lock]; decide)) : SndC sl (xLcS i f g t x vs) (dLc true mi gd mt m vs) := fun fm env e μ hE Q E q => by
  have L := lcB_ok hL
  obtain ⟨xs, q1, q2⟩ := PX.opt q
  obtain ⟨v, q3, q4⟩ := Option.bind_eq_some_iff.mp q1
  have hv := join_some q3
  obtain ⟨d, e1, r⟩ := slot_ty hE h1 hv
  obtain ⟨z, q2⟩ := PX.ite q2
  have hE1 := hE.lock (d := d) (v := v) e1 hv
  have un : ∀ {env e μ}, ER { fm with B := (i, d, v) :: fm.B } (sl.lock i) env e μ → ER fm sl env e μ := fun h => h.unlock fun q hq => (hE.bc q hq).1
  refine I_lc (hm _ _ _ _ d xs e1 (r.getS q4) ⟨z, r.getS q4, ?_⟩)
  refine lcL_ok (fm' := { fm with B := (i, d, v) :: fm.B }) hg ht hx L (wipeD env vs) (lock_keep h1 q4) (fun acc e' => ∀ w c a μ', Rf.v (.lst acc) = .v w → mcD w = some c → ER fm sl env (rst e e' vs) μ' → μ' a = none → Q (.cell a) (upm μ' a c)) (fun acc e μ2 p hE2 => ?_) (f xs) [] (wipeD e vs) μ (hE1.wipe L (fun i hi => wipeD_off hi) wipeD_len) (lc_run q2)
  exact fun b nb => p _ _ b μ2 rfl rfl (un (ER.rst hE1 hE2 L)) nb
theorem i_seqS {i : Nat} : ∀ (env : Env') (μ : Sto) (Q : DIt → Sto → Prop) (E : DX) (d : D) (xs : List D), env[i]? = some (some d) → getS μ d = some xs → Q ⟨id xs, fun μ2 => getS μ2 d = some xs⟩ μ → dSeqI (dVar i) env μ Q E := fun env μ Q E d xs h1 h2 h3 => I_seqI (I_var h1 ⟨xs, h2, h3⟩)
theorem i_enumS {i : Nat} : ∀ (env : Env') (μ : Sto) (Q : DIt → Sto → Prop) (E : DX) (d : D) (xs : List D), env[i]? = some (some d) → getS μ d = some xs → Q ⟨enumD xs, fun μ2 => getS μ2 d = some xs⟩ μ → dEnum (dVar i) env μ Q E := fun env μ Q E d xs h1 h2 h3 => I_enum (I_var h1 (I_onS2 h2 h3))
end
end DL

/-! XL8: lists' methods, freezing, builtins, slices, dicts, fields, errors that can be run. -/
namespace DL
open PySem PySem.Spec L2
/-! ### a cell goes -/
theorem ER.del {fm : Fm} {sl : Sl} {env : Env'} {e : XEnv} {μ : Sto} (h : ER fm sl env e μ) {i : Nat} {a : Addr} {v : D} (h1 : i ∈ sl.ow) (hm : i ∉ sl.mp) (h4 : i ∉ sl.ct) (q0 : e[i]? = some (some v)) (r0 : env[i]? = some (some (.cell a))) : ER fm sl env (e.set i none) (delm μ a) := by
  have u := h.unset hm h4
  have ne : ∀ {j : Nat} {w : D}, (e.set i none)[j]? = some (some w) → i ≠ j ∧ e[j]? = some (some w) := fun {j w} q => by
    by_cases hj : i = j
    · subst hj; have := getSet q; cases this
    · rw [List.getElem?_set_ne hj] at q; exact ⟨hj, q⟩
  refine ⟨u.len, u.fz, fun j w hj q => ?_, fun j w hj q => ?_, u.di, fun b c q z => ?_, u.nw, u.pa, u.bc, u.hx⟩
  · obtain ⟨hn, q⟩ := ne q
    obtain ⟨d, e1, e2, e3⟩ := h.bo j w hj q
    refine ⟨d, e1, e2.mono fun b ed m em => ?_, e3⟩
    subst ed
    rw [delm_ne (fun z => by subst z; exact h.di i j b v w h1 (.inr hj) hn q0 q r0 e1)]; exact em
  · obtain ⟨hn, q⟩ := ne q
    obtain ⟨b, m, e1, e2, e3⟩ := h.ow j w hj q
    refine ⟨b, m, e1, ?_, e3⟩
    rw [delm_ne (fun z => by subst z; exact h.di i j b v w h1 (.inl hj) hn q0 q r0 e1)]; exact e2
  · rw [delm_ne (fun w => by
      subst w
      rcases h.nw i b v h1 q0 r0 with y | y
      · rw [y] at q; cases q
      · exact hm (h.pa _ y).1)]
    exact h.fr b c q z
/-- the list in slot i, frozen -/
def xFrz (i : Nat) : XE := fun e => (e[i]?).join.bind fun v => match v with
  | .lst xs => some (.ok (.v (.lst xs)) (e.set i none))
  | .dK kvs => some (.ok (.v (.dK kvs)) (e.set i none))
  | _ => none
/-- a list's method in slot o -/
def lsX : D → Option (List D)
  | .lst xs => some xs
  | _ => none
def xLM (r : List D → List D → Option (D × List D)) (o : Nat) (as : XA) : XE := fun e => ((e[o]?).join.bind lsX).bind fun _ => xb (as e) fun rs e1 => (vsOf rs).bind fun vs => ((e1[o]?).join.bind lsX).bind fun xs => (r xs vs).bind fun p => some (.ok (.v p.1) (e1.set o (some (.lst p.2))))
def MtX (r : List D → List D → Option (D × List D)) (rD : DMt) : Prop := ∀ xs vs p μ k, r xs vs = some p → k p.1 p.2 → rD xs vs μ k
def appendX (xs vs : List D) : Option (D × List D) := match vs with
  | [d] => if xs.length ≤ 1000000 then some (.non, xs ++ [d]) else none
  | _ => none
def popX (xs vs : List D) : Option (D × List D) := match vs with
  | [] => (xs[xs.length - 1]?).map fun d => (d, xs.dropLast)
  | [.int i] => (ixN xs.length i).bind fun j => (xs[j]?).map fun d => (d, xs.eraseIdx j)
  | _ => none
def reverseX (xs vs : List D) : Option (D × List D) := match vs with
  | [] => some (.non, xs.reverse)
  | _ => none
def clearX (xs vs : List D) : Option (D × List D) := match vs with
  | [] => some (.non, [])
  | _ => none
def extendX (xs vs : List D) : Option (D × List D) := match vs with
  | [.lst ys] => if xs.length + ys.length ≤ 1000000 then some (.non, xs ++ ys) else none
  | _ => none
theorem mx_append : MtX appendX lmAppend := fun xs vs p μ k q h => by
  unfold appendX at q
  split at q
  · split at q
    · cases q; exact ⟨by assumption, h⟩
    · cases q
  · cases q
theorem mx_pop : MtX popX lmPop := fun xs vs p μ k q h => by
  unfold popX at q
  split at q
  · obtain ⟨d, h1, rfl⟩ := Option.map_eq_some_iff.mp q; exact ⟨d, h1, h⟩
  · obtain ⟨j, h1, h2⟩ := Option.bind_eq_some_iff.mp q
    obtain ⟨d, h3, rfl⟩ := Option.map_eq_some_iff.mp h2
    exact ⟨j, d, h1, h3, h⟩
  · cases q
theorem mx_reverse : MtX reverseX lmReverse := fun xs vs p μ k q h => by
  unfold reverseX at q
  split at q
  · cases q; exact h
  · cases q
theorem mx_clear : MtX clearX lmClear := fun xs vs p μ k q h => by
  unfold clearX at q
  split at q
  · cases q; exact h
  · cases q
theorem mx_extend : MtX extendX lmExtend := fun xs vs p μ k q h => by
  unfold extendX at q
  split at q
  · split at q
    · cases q; exact ⟨_, rfl, by assumption, h⟩
    · cases q
  · cases q
section
variable {sl : Sl} {x y : XE} {m ma mb : DM} {as : XA} {mas : DA} {t : XT} {mt : DT} {a b : XS} {sa sb : DS}
theorem s_frz (i : Nat) (h1 : i ∈ sl.ow := by first | decide | (dsimp only [Sl.hand, Sl.lock]; decide)) (hm : i ∉ sl.mp := by first | decide | (dsimp only [Sl.hand, Sl.lock]; decide)) (h4 : i ∉ sl.ct := by first | decide | (dsimp only [Sl.hand, Sl.lock]; decide)) : SndE sl (xFrz i) (dFrz (dVar i)) := fun fm env e μ hE Q E q => by
  obtain ⟨v, q1, q2⟩ := PX.opt q
  have hv := join_some q1
  obtain ⟨a, c, e1, e2, e3⟩ := hE.ow i v h1 hv
  refine I_frz (I_var e1 ?_)
  have hd := hE.del h1 hm h4 hv e1
  cases v <;> first | exact q2.elim | skip
  · cases e3; exact fzK_L e2 (q2 _ _ rfl hd)
  · cases e3; exact fzK_K e2 (q2 _ _ rfl hd)
theorem lsX_of {v : D} {xs : List D} (h : lsX v = some xs) : v = .lst xs := by cases v <;> cases h; rfl
theorem s_lm (o : Nat) {r : List D → List D → Option (D × List D)} {rD : DMt} (hr : MtX r rD) (ha : SndA sl as mas) (h1 : o ∈ sl.ow := by first | decide | (dsimp only [Sl.hand, Sl.lock]; decide)) (h4 : o ∉ sl.ct := by first | decide | (dsimp only [Sl.hand, Sl.lock]; decide)) (hx : o ∉ sl.xs := by first | decide | (dsimp only [Sl.hand, Sl.lock]; decide)) : SndE sl (xLM r o as) (dLM rD (dVar o) mas) := fun fm env e μ hE Q E q => by
  obtain ⟨ys, q1, q⟩ := PX.opt q
  obtain ⟨v, q2, q3⟩ := Option.bind_eq_some_iff.mp q1
  rw [lsX_of q3] at q2
  obtain ⟨a, c, e1, e2, e3⟩ := hE.ow o _ h1 (join_some q2)
  cases e3
  refine I_lm (I_var e1 (I_lmc e2 (ha fm env e μ hE _ _ (PX.mono (PX.bind q) (fun rs e1' q1 ds μ1 ks hE1 => ?_) fun _ _ k => k))))
  obtain ⟨vs, q4, q5⟩ := PX.opt q1
  obtain ⟨xs, q6, q7⟩ := PX.opt q5
  obtain ⟨p, q8, q9⟩ := PX.opt q7
  obtain ⟨w, z1, z2⟩ := Option.bind_eq_some_iff.mp q6
  rw [lsX_of z2] at z1
  have hw := join_some z1
  obtain ⟨a', c', f1, f2, f3⟩ := hE1.ow o _ h1 hw
  rw [e1] at f1; cases f1; cases f3
  rw [vsOf_rs ks q4]
  exact ⟨xs, f2, hr xs vs p μ1 _ q8 (q9 p.1 _ rfl (hE1.setOw h1 h4 hx hw e1 rfl))⟩
/-! ### xs[i] = v -/
def setX (c i v : D) : Option D := match c with
  | .lst xs => (match i with
    | .int n => (ixN xs.length n).map fun j => .lst (xs.set j v)
    | _ => none)
  | .dK kvs => (keyD i).bind fun k => if kvs.length ≤ 1000000 then some (.dK (putD kvs k v)) else none
  | _ => none
def xSetI (o : Nat) (i v : XE) : XS := fun e => xo (v e) fun rv e1 => (e1[o]?).join.bind fun _ => xo (i e1) fun ri e2 => (fzv rv).bind fun w => (fzv ri).bind fun k => (e2[o]?).join.bind fun c => (setX c k w).bind fun c' => some (.nx (e2.set o (some c')))
theorem setX_mc {c i v c' : D} (h : setX c i v = some c') : ∃ m, mcD c' = some m := by
  cases c <;> first | cases h | skip
  · cases i <;> first | cases h | skip
    obtain ⟨j, _, rfl⟩ := Option.map_eq_some_iff.mp (show (ixN _ _).map _ = some c' from h); exact ⟨_, rfl⟩
  · obtain ⟨k, _, h⟩ := Option.bind_eq_some_iff.mp (show (keyD i).bind _ = some c' from h)
    split at h
    · cases h; exact ⟨_, rfl⟩
    · cases h
theorem s_setI (o : Nat) {i v : XE} {mi mv : DM} (hi : SndE sl i mi) (hv : SndE sl v mv) (h1 : o ∈ sl.ow := by first | decide | (dsimp only [Sl.hand, Sl.lock]; decide)) (h4 : o ∉ sl.ct := by first | decide | (dsimp only [Sl.hand, Sl.lock]; decide)) (hx : o ∉ sl.xs := by first | decide | (dsimp only [Sl.hand, Sl.lock]; decide)) : SndS sl (xSetI o i v) (dSetI (dVar o) mi mv) := fun fm env e μ hE K q => by
  have up : ∀ {y : Exn} {e' : XEnv}, (∀ env' μ', ER fm sl env' e' μ' → K.ex y env' μ') → ∀ μ', ER fm sl env e' μ' → K.ex y env μ' := fun k μ' hE' => k env μ' hE'
  refine I_seti (hv fm env e μ hE _ _ (PX.mono (PO.bind q) (fun rv e1 q1 d μ1 k1 hE1 => ?_) fun _ _ k => up k))
  obtain ⟨c0, z1, q1⟩ := PO.opt q1
  obtain ⟨a, c1, f1, _, _⟩ := hE1.ow o _ h1 (join_some z1)
  refine I_var f1 (hi fm env e1 μ1 hE1 _ _ (PX.mono (PO.bind q1) (fun ri e2 q2 k μ2 k2 hE2 => ?_) fun _ _ k => up k))
  obtain ⟨w, z2, q2⟩ := PO.opt q2
  obtain ⟨k', z3, q2⟩ := PO.opt q2
  obtain ⟨c, z4, q2⟩ := PO.opt q2
  obtain ⟨c', z5, q3⟩ := PO.opt q2
  have := fzv_of k1 z2
  subst this
  have := fzv_of k2 z3
  subst this
  have hc := join_some z4
  obtain ⟨a', m, f2, f3, f4⟩ := hE2.ow o _ h1 hc
  rw [f1] at f2; cases f2
  obtain ⟨m', hm'⟩ := setX_mc z5
  have goal := q3 env _ (hE2.setOw h1 h4 hx hc f1 hm')
  cases c <;> first | cases z5 | skip
  · cases f4
    cases k <;> first | cases z5 | skip
    obtain ⟨j, z6, rfl⟩ := Option.map_eq_some_iff.mp (show (ixN _ _).map _ = some c' from z5)
    cases hm'
    exact I_setL f3 z6 goal
  · cases f4
    obtain ⟨ky, z6, z7⟩ := Option.bind_eq_some_iff.mp (show (keyD k).bind _ = some c' from z5)
    split at z7
    · cases z7; cases hm'
      show setD (.cell a) k d μ2 _
      simp only [setD, f3, z6]
      exact ⟨by assumption, goal⟩
    · cases z7
/-! ### fields -/
def xSetF (n o : Nat) (v : XE) : XS := fun e => xo (v e) fun rv e1 => (fzv rv).bind fun w => (e1[o]?).join.bind fun c => match c with
  | .ins k fs => if fs.length ≤ 900 then some (.nx (e1.set o (some (.ins k (put fs n w))))) else none
  | _ => none
theorem s_setF (n o : Nat) {v : XE} {mv : DM} (hv : SndE sl v mv) (h1 : o ∈ sl.ow := by first | decide | (dsimp only [Sl.hand, Sl.lock]; decide)) (h4 : o ∉ sl.ct := by first | decide | (dsimp only [Sl.hand, Sl.lock]; decide)) (hx : o ∉ sl.xs := by first | decide | (dsimp only [Sl.hand, Sl.lock]; decide)) : SndS sl (xSetF n o v) (dSetF n (dVar o) mv) := fun fm env e μ hE K q => by
  refine I_setf (hv fm env e μ hE _ _ (PX.mono (PO.bind q) (fun rv e1 q1 d μ1 k1 hE1 => ?_) fun _ _ k μ' hE' => k env μ' hE'))
  obtain ⟨w, z2, q1⟩ := PO.opt q1
  obtain ⟨c, z4, q1⟩ := PO.opt q1
  have := fzv_of k1 z2
  subst this
  have hc := join_some z4
  obtain ⟨a, m, f1, f2, f3⟩ := hE1.ow o _ h1 hc
  cases c <;> first | exact q1.elim | skip
  cases f3
  obtain ⟨z5, q1⟩ := PO.ite q1
  exact I_var f1 (I_sfK f2 (Nat.ble_eq_true_of_le z5) (q1 env _ (hE1.setOw h1 h4 hx hc f1 rfl)))
/-! ### builtins -/
def drfs (e : XEnv) : List Rf → Option (List D)
  | [] => some []
  | r :: rs => (drf e r).bind fun d => (drfs e rs).map (d :: ·)
def xB (r : List D → Option D) (as : XA) : XE := fun e => xb (as e) fun rs e1 => ((drfs e1 rs).bind r).bind fun d => some (.ok (.v d) e1)
def RVs (μ : Sto) : List D → List D → Prop
  | [], [] => True
  | d :: ds, v :: vs => RV μ d v ∧ RVs μ ds vs
  | _, _ => False
def BtX (r : List D → Option D) (rD : DR) : Prop := ∀ vs d ds μ (Q : DQ), r vs = some d → RVs μ ds vs → Q d μ → rD ds μ Q
theorem drfs_rv {fm : Fm} {env : Env'} {e : XEnv} {μ : Sto} (hE : ER fm sl env e μ) : ∀ {rs : List Rf} {ds vs : List D}, RfRs sl env ds rs → drfs e rs = some vs → RVs μ ds vs
  | [], [], vs, _, q => by cases q; trivial
  | r :: rs, d :: ds, vs, ⟨h1, h2⟩, q => by
    obtain ⟨v, q1, q2⟩ := Option.bind_eq_some_iff.mp (show (drf e r).bind _ = some vs from q)
    obtain ⟨ws, q3, rfl⟩ := Option.map_eq_some_iff.mp q2
    exact ⟨drf_rv h1 hE q1, drfs_rv hE h2 q3⟩
  | [], _ :: _, _, h, _ => h.elim
  | _ :: _, [], _, h, _ => h.elim
theorem s_B {r : List D → Option D} {rD : DR} (hr : BtX r rD) (ha : SndA sl as mas) : SndE sl (xB r as) (dB rD mas) := fun fm env e μ hE Q E q => by
  refine I_B (ha fm env e μ hE _ _ (PX.mono (PX.bind q) (fun rs e1 q1 ds μ1 ks hE1 => ?_) fun _ _ k => k))
  obtain ⟨d, q2, q3⟩ := PX.opt q1
  obtain ⟨vs, q4, q5⟩ := Option.bind_eq_some_iff.mp q2
  exact hr vs d ds μ1 Q q5 (drfs_rv hE1 ks q4) (q3 d μ1 rfl hE1)
def lenX (vs : List D) : Option D := match vs with
  | [.tup xs] => some (.int xs.length)
  | [.lst xs] => some (.int xs.length)
  | [.dK kvs] => some (.int kvs.length)
  | [.str s] => if s.length ≤ 1000000 then some (.int s.length) else none
  | _ => none
theorem RVs.one {μ : Sto} {ds : List D} {v : D} (h : RVs μ ds [v]) : ∃ d, ds = [d] ∧ RV μ d v := by
  match ds, h with
  | [d], h => exact ⟨d, rfl, h.1⟩
theorem RVs.two {μ : Sto} {ds : List D} {v w : D} (h : RVs μ ds [v, w]) : ∃ d e, ds = [d, e] ∧ RV μ d v ∧ RV μ e w := by
  match ds, h with
  | [d, e], h => exact ⟨d, e, rfl, h.1, h.2.1⟩
theorem b_len : BtX lenX bLen := fun vs d ds μ Q q r hq => by
  unfold lenX at q
  split at q
  · cases q; obtain ⟨z, rfl, s⟩ := r.one; rw [s.tup]; exact hq
  · cases q; obtain ⟨z, rfl, s⟩ := r.one
    cases s with
    | eq => exact hq
    | cl h e => cases e; exact I_len (by simp only [lenD, h]) hq
  · cases q; obtain ⟨z, rfl, s⟩ := r.one
    cases s with
    | eq => exact hq
    | cl h e => cases e; exact I_len (by simp only [lenD, h]) hq
  · split at q
    · cases q; obtain ⟨z, rfl, s⟩ := r.one; rw [s.str]; exact I_len (by simp only [lenD]; rw [if_pos (by assumption)]) hq
    · cases q
  · cases q
def absX (vs : List D) : Option D := match vs with
  | [.int i] => some (.int (if i < 0 then -i else i))
  | _ => none
theorem b_abs : BtX absX bAbs := fun vs d ds μ Q q r hq => by
  unfold absX at q
  split at q
  · cases q; obtain ⟨z, rfl, s⟩ := r.one; rw [s.int]; exact hq
  · cases q
def maxX (vs : List D) : Option D := match vs with
  | [.int i, .int j] => some (.int (if j > i then j else i))
  | _ => none
theorem b_max : BtX maxX bMax := fun vs d ds μ Q q r hq => by
  unfold maxX at q
  split at q
  · cases q; obtain ⟨z, w, rfl, s, s'⟩ := r.two; rw [s.int, s'.int]; exact hq
  · cases q
def minX (vs : List D) : Option D := match vs with
  | [.int i, .int j] => some (.int (if j < i then j else i))
  | _ => none
theorem b_min : BtX minX bMin := fun vs d ds μ Q q r hq => by
  unfold minX at q
  split at q
  · cases q; obtain ⟨z, w, rfl, s, s'⟩ := r.two; rw [s.int, s'.int]; exact hq
  · cases q
def intX (vs : List D) : Option D := match vs with
  | [.int i] => some (.int i)
  | [.bl b] => some (.int (if b then 1 else 0))
  | _ => none
theorem b_int : BtX intX bInt := fun vs d ds μ Q q r hq => by
  unfold intX at q
  split at q
  · cases q; obtain ⟨z, rfl, s⟩ := r.one; rw [s.int]; exact hq
  · cases q; obtain ⟨z, rfl, s⟩ := r.one; rw [s.bl]; exact hq
  · cases q
def tupleX (vs : List D) : Option D := match vs with
  | [v] => (seqX v).map .tup
  | _ => none
theorem b_tuple : BtX tupleX bTuple := fun vs d ds μ Q q r hq => by
  unfold tupleX at q
  split at q
  · obtain ⟨xs, h1, rfl⟩ := Option.map_eq_some_iff.mp q
    obtain ⟨z, rfl, s⟩ := r.one
    exact I_tuple (s.getS h1) hq
  · cases q
def listX (vs : List D) : Option D := match vs with
  | [v] => (seqX v).map .lst
  | _ => none
theorem b_list : BtX listX (bList false) := fun vs d ds μ Q q r hq => by
  unfold listX at q
  split at q
  · obtain ⟨xs, h1, rfl⟩ := Option.map_eq_some_iff.mp q
    obtain ⟨z, rfl, s⟩ := r.one
    exact I_list (s.getS h1) hq
  · cases q
theorem c_list (ha : SndA sl as mas) : SndC sl (xB listX as) (dB (bList true) mas) := fun fm env e μ hE Q E q => by
  refine I_B (ha fm env e μ hE _ _ (PX.mono (PX.bind q) (fun rs e1 q1 ds μ1 ks hE1 => ?_) fun _ _ k => k))
  obtain ⟨d, q2, q3⟩ := PX.opt q1
  obtain ⟨vs, q4, q5⟩ := Option.bind_eq_some_iff.mp q2
  have r := drfs_rv hE1 ks q4
  unfold listX at q5
  split at q5
  · obtain ⟨xs, h1, rfl⟩ := Option.map_eq_some_iff.mp q5
    obtain ⟨z, rfl, s⟩ := r.one
    exact I_list (s.getS h1) (I_newT fun a n => q3 _ _ a μ1 rfl rfl hE1 n)
  · cases q5
/-- list(range(..)) -/
def rgL (a b : Int) : Option (List D) := if -(2 ^ 62) ≤ a ∧ a < 2 ^ 62 ∧ -(2 ^ 62) ≤ b ∧ b < 2 ^ 62 ∧ (b - a).toNat ≤ 2 ^ 24 then some (rangeD a (b - a).toNat) else none
def rgV1 (v : D) : Option (List D) := match v with
  | .int n => rgL 0 n
  | _ => none
def rgV2 (v w : D) : Option (List D) := match v, w with
  | .int i, .int j => rgL i j
  | _, _ => none
theorem rgL_ok {a b : Int} {xs : List D} (h : rgL a b = some xs) : RgOk a b ∧ xs = rangeD a (b - a).toNat := by
  unfold rgL at h
  split at h
  · cases h; exact ⟨by assumption, rfl⟩
  · cases h
def xLstRg1 (a : XE) : XE := fun e => xb (a e) fun r e1 => ((drf e1 r).bind rgV1).bind fun xs => some (.ok (.v (.lst xs)) e1)
def xLstRg2 (a b : XE) : XE := fun e => xb (a e) fun r1 e1 => xb (b e1) fun r2 e2 => (drf e2 r1).bind fun v1 => (drf e2 r2).bind fun v2 => (rgV2 v1 v2).bind fun xs => some (.ok (.v (.lst xs)) e2)
theorem s_lstRg1 (h : SndE sl x m) : SndE sl (xLstRg1 x) (dLstRg false (dRg1 m)) := fun fm env e μ hE Q E q => by
  refine (show m env μ _ E from h fm env e μ hE _ _ (PX.mono (PX.bind q) (fun r e1 q1 d μ1 k1 hE1 => ?_) fun _ _ k => k))
  obtain ⟨xs, q2, q3⟩ := PX.opt q1
  obtain ⟨v, q4, q5⟩ := Option.bind_eq_some_iff.mp q2
  cases v <;> first | cases q5 | skip
  obtain ⟨z1, z2⟩ := rgL_ok q5
  rw [(drf_rv k1 hE1 q4).int]
  exact ⟨z1, by subst z2; exact q3 _ μ1 rfl hE1⟩
theorem c_lstRg1 (h : SndE sl x m) : SndC sl (xLstRg1 x) (dLstRg true (dRg1 m)) := fun fm env e μ hE Q E q => by
  refine (show m env μ _ E from h fm env e μ hE _ _ (PX.mono (PX.bind q) (fun r e1 q1 d μ1 k1 hE1 => ?_) fun _ _ k => k))
  obtain ⟨xs, q2, q3⟩ := PX.opt q1
  obtain ⟨v, q4, q5⟩ := Option.bind_eq_some_iff.mp q2
  cases v <;> first | cases q5 | skip
  obtain ⟨z1, z2⟩ := rgL_ok q5
  rw [(drf_rv k1 hE1 q4).int]
  exact ⟨z1, fun a n => by subst z2; exact q3 _ _ a μ1 rfl rfl hE1 n⟩
theorem s_lstRg2 (h : SndE sl x ma) (k : SndE sl y mb) : SndE sl (xLstRg2 x y) (dLstRg false (dRg2 ma mb)) := fun fm env e μ hE Q E q => by
  refine (show ma env μ _ E from h fm env e μ hE _ _ (PX.mono (PX.bind q) (fun r1 e1 q1 d1 μ1 k1 hE1 => ?_) fun _ _ k => k))
  refine k fm env e1 μ1 hE1 _ _ (PX.mono (PX.bind q1) (fun r2 e2 q2 d2 μ2 k2 hE2 => ?_) fun _ _ k => k)
  obtain ⟨v1, z1, q2⟩ := PX.opt q2
  obtain ⟨v2, z2, q2⟩ := PX.opt q2
  obtain ⟨xs, z3, q2⟩ := PX.opt q2
  cases v1 <;> first | cases z3 | skip
  cases v2 <;> first | cases z3 | skip
  obtain ⟨z4, z5⟩ := rgL_ok z3
  rw [(drf_rv k1 hE2 z1).int, (drf_rv k2 hE2 z2).int]
  exact ⟨z4, by subst z5; exact q2 _ μ2 rfl hE2⟩
theorem c_lstRg2 (h : SndE sl x ma) (k : SndE sl y mb) : SndC sl (xLstRg2 x y) (dLstRg true (dRg2 ma mb)) := fun fm env e μ hE Q E q => by
  refine (show ma env μ _ E from h fm env e μ hE _ _ (PX.mono (PX.bind q) (fun r1 e1 q1 d1 μ1 k1 hE1 => ?_) fun _ _ k => k))
  refine k fm env e1 μ1 hE1 _ _ (PX.mono (PX.bind q1) (fun r2 e2 q2 d2 μ2 k2 hE2 => ?_) fun _ _ k => k)
  obtain ⟨v1, z1, q2⟩ := PX.opt q2
  obtain ⟨v2, z2, q2⟩ := PX.opt q2
  obtain ⟨xs, z3, q2⟩ := PX.opt q2
  cases v1 <;> first | cases z3 | skip
  cases v2 <;> first | cases z3 | skip
  obtain ⟨z4, z5⟩ := rgL_ok z3
  rw [(drf_rv k1 hE2 z1).int, (drf_rv k2 hE2 z2).int]
  exact ⟨z4, fun a n => by subst z5; exact q2 _ _ a μ2 rfl rfl hE2 n⟩
/-! ### new lists by +, slices -/
def catX (v w : D) : Option D := match v, w with
  | .lst xs, .lst ys => if xs.length + ys.length ≤ 1000000 then some (.lst (xs ++ ys)) else none
  | _, _ => none
theorem c_cat (ha : SndE sl x ma) (hb : SndE sl y mb) : SndC sl (xOp catX x y) (dOp (gAdd true) ma mb) := fun fm env e μ hE Q E h => by
  refine I_op (ha fm env e μ hE _ _ (PX.mono (PX.bind h) (fun r1 e1 h1 d1 μ1 k1 hE1 => ?_) fun _ _ k => k))
  refine hb fm env e1 μ1 hE1 _ _ (PX.mono (PX.bind h1) (fun r2 e2 h2 d2 μ2 k2 hE2 => ?_) fun _ _ k => k)
  obtain ⟨v1, q1, h2⟩ := PX.opt h2
  obtain ⟨v2, q2, h2⟩ := PX.opt h2
  obtain ⟨r, q3, h2⟩ := PX.opt h2
  unfold catX at q3
  split at q3
  · split at q3
    · cases q3
      exact catRV (drf_rv k1 hE2 q1) (drf_rv k2 hE2 q2) (by assumption) (I_newT fun a n => h2 _ _ a μ2 rfl rfl hE2 n)
    · cases q3
  · cases q3
abbrev XOi := XM (Option Int)
def SndO (sl : Sl) (x : XOi) (m : DO) : Prop := ∀ (fm : Fm) (env : Env') (e : XEnv) (μ : Sto), ER fm sl env e μ → ∀ (Q : Option Int → Sto → Prop) (E : DX),
  PX (x e) (fun o e' => ∀ μ', ER fm sl env e' μ' → Q o μ') (fun y e' => ∀ μ', ER fm sl env e' μ' → E y μ') → m env μ Q E
def xNoPart : XOi := fun e => some (.ok none e)
def intD : D → Option Int
  | .int i => some i
  | _ => none
def xPart (a : XE) : XOi := fun e => xb (a e) fun r e1 => ((drf e1 r).bind intD).bind fun i => some (.ok (some i) e1)
theorem so_no : SndO sl xNoPart dNoPart := fun fm env e μ hE Q E q => q μ hE
theorem so_pt (h : SndE sl x m) : SndO sl (xPart x) (dPart m) := fun fm env e μ hE Q E q => by
  refine I_part (h fm env e μ hE _ _ (PX.mono (PX.bind q) (fun r e1 q1 d μ1 k1 hE1 => ?_) fun _ _ k => k))
  obtain ⟨i, q2, q3⟩ := PX.opt q1
  obtain ⟨v, q4, q5⟩ := Option.bind_eq_some_iff.mp q2
  cases v <;> cases q5
  rw [(drf_rv k1 hE1 q4).int]
  exact I_ptK (q3 μ1 hE1)
def slX (v : D) (lo hi : Option Int) : Option D := match v with
  | .tup xs => some (.tup (cutD xs lo hi))
  | .lst xs => some (.lst (cutD xs lo hi))
  | .str s => if s.length ≤ 1000000 then some (.str (cutS s lo hi)) else none
  | _ => none
def xSl (a : XE) (l h : XOi) : XE := fun e => xb (a e) fun r e1 => xb (l e1) fun lo e2 => xb (h e2) fun hi e3 => (drf e3 r).bind fun v => (slX v lo hi).bind fun w => some (.ok (.v w) e3)
theorem s_sl {xl xh : XOi} {ml mh : DO} (ha : SndE sl x m) (hl : SndO sl xl ml) (hh : SndO sl xh mh) : SndE sl (xSl x xl xh) (dSl false m ml mh) := fun fm env e μ hE Q E q => by
  refine I_sl (ha fm env e μ hE _ _ (PX.mono (PX.bind q) (fun r e1 q1 d μ1 k1 hE1 => ?_) fun _ _ k => k))
  refine hl fm env e1 μ1 hE1 _ _ (PX.mono (PX.bind q1) (fun lo e2 q2 μ2 hE2 => ?_) fun _ _ k => k)
  refine hh fm env e2 μ2 hE2 _ _ (PX.mono (PX.bind q2) (fun hi e3 q3 μ3 hE3 => ?_) fun _ _ k => k)
  obtain ⟨v, z1, q3⟩ := PX.opt q3
  obtain ⟨w, z2, q3⟩ := PX.opt q3
  have rv := drf_rv k1 hE3 z1
  have g := q3 w μ3 rfl hE3
  cases v with
  | str s =>
    simp only [slX] at z2
    split at z2
    · cases z2; rw [rv.str]; exact ⟨by assumption, g⟩
    · cases z2
  | tup xs => cases z2; rw [rv.tup]; exact g
  | lst xs =>
    cases z2
    cases rv with
    | eq => exact g
    | @cl a0 _ _ h e =>
      cases e
      show gSl.onL (getL μ3 (.cell a0)) _
      have : getL μ3 (.cell a0) = some xs := by simp only [getL, h]
      rw [this]; exact g
  | _ => cases z2
def slC (v : D) (lo hi : Option Int) : Option D := match v with
  | .lst xs => some (.lst (cutD xs lo hi))
  | _ => none
def xSlC (a : XE) (l h : XOi) : XE := fun e => xb (a e) fun r e1 => xb (l e1) fun lo e2 => xb (h e2) fun hi e3 => (drf e3 r).bind fun v => (slC v lo hi).bind fun w => some (.ok (.v w) e3)
theorem c_sl {xl xh : XOi} {ml mh : DO} (ha : SndE sl x m) (hl : SndO sl xl ml) (hh : SndO sl xh mh) : SndC sl (xSlC x xl xh) (dSl true m ml mh) := fun fm env e μ hE Q E q => by
  refine I_sl (ha fm env e μ hE _ _ (PX.mono (PX.bind q) (fun r e1 q1 d μ1 k1 hE1 => ?_) fun _ _ k => k))
  refine hl fm env e1 μ1 hE1 _ _ (PX.mono (PX.bind q1) (fun lo e2 q2 μ2 hE2 => ?_) fun _ _ k => k)
  refine hh fm env e2 μ2 hE2 _ _ (PX.mono (PX.bind q2) (fun hi e3 q3 μ3 hE3 => ?_) fun _ _ k => k)
  obtain ⟨v, z1, q3⟩ := PX.opt q3
  obtain ⟨w, z2, q3⟩ := PX.opt q3
  have rv := drf_rv k1 hE3 z1
  cases v with
  | lst xs =>
    cases z2
    have g : newL true (cutD xs lo hi) μ3 Q := I_newT fun a n => q3 _ _ a μ3 rfl rfl hE3 n
    cases rv with
    | eq => exact g
    | @cl a0 _ _ h e =>
      cases e
      show gSl.onL (getL μ3 (.cell a0)) _
      have : getL μ3 (.cell a0) = some xs := by simp only [getL, h]
      rw [this]; exact g
  | _ => cases z2
/-! ### dicts -/
def xDNew : XE := fun e => some (.ok (.v (.dK [])) e)
theorem s_dnew : SndE sl xDNew (dNewK false) := fun fm env e μ hE Q E q => I_newKF (q _ μ rfl hE)
theorem c_dnew : SndC sl xDNew (dNewK true) := fun fm env e μ hE Q E q => I_newKT fun a n => q _ _ a μ rfl rfl hE n
abbrev XPs := XM (List (Key × D))
def SndPs (sl : Sl) (x : XPs) (ms : List (DM × DM)) : Prop := ∀ (fm : Fm) (env : Env') (e : XEnv) (μ : Sto), ER fm sl env e μ → ∀ (Q : List (Key × D) → Sto → Prop) (E : DX),
  PX (x e) (fun ps e' => ∀ μ', ER fm sl env e' μ' → Q ps μ') (fun y e' => ∀ μ', ER fm sl env e' μ' → E y μ') → dPairs ms env μ Q E
def xPs0 : XPs := fun e => some (.ok [] e)
def xPs1 (k v : XE) (r : XPs) : XPs := fun e => xb (k e) fun rk e1 => xb (v e1) fun rv e2 => ((fzv rk).bind keyD).bind fun ky => (fzv rv).bind fun w => xb (r e2) fun ps e3 => some (.ok ((ky, w) :: ps) e3)
theorem sp_0 : SndPs sl xPs0 [] := fun fm env e μ hE Q E q => I_pair0 (q μ hE)
theorem sp_1 {xp : XPs} {ms : List (DM × DM)} (hk : SndE sl x ma) (hv : SndE sl y mb) (hr : SndPs sl xp ms) : SndPs sl (xPs1 x y xp) ((ma, mb) :: ms) := fun fm env e μ hE Q E q => by
  refine I_pair (hk fm env e μ hE _ _ (PX.mono (PX.bind q) (fun r1 e1 q1 d1 μ1 k1 hE1 => ?_) fun _ _ k => k))
  refine hv fm env e1 μ1 hE1 _ _ (PX.mono (PX.bind q1) (fun r2 e2 q2 d2 μ2 k2 hE2 => ?_) fun _ _ k => k)
  obtain ⟨ky, z1, q2⟩ := PX.opt q2
  obtain ⟨w, z2, q2⟩ := PX.opt q2
  obtain ⟨v, z3, z4⟩ := Option.bind_eq_some_iff.mp z1
  have := fzv_of k1 z3
  subst this
  have := fzv_of k2 z2
  subst this
  exact I_onS2 z4 (hr fm env e2 μ2 hE2 _ _ (PX.mono (PX.bind q2) (fun ps e3 q3 μ3 hE3 => q3 μ3 hE3) fun _ _ k => k))
def xDisp (p : XPs) : XE := fun e => xb (p e) fun ps e1 => some (.ok (.v (.dK (mergeD [] ps))) e1)
theorem s_disp {xp : XPs} {ms : List (DM × DM)} (h : SndPs sl xp ms) : SndE sl (xDisp xp) (dDisp false ms) := fun fm env e μ hE Q E q =>
  I_disp (h fm env e μ hE _ _ (PX.mono (PX.bind q) (fun ps e1 q1 μ1 hE1 => I_newKF (q1 _ μ1 rfl hE1)) fun _ _ k => k))
theorem c_disp {xp : XPs} {ms : List (DM × DM)} (h : SndPs sl xp ms) : SndC sl (xDisp xp) (dDisp true ms) := fun fm env e μ hE Q E q =>
  I_disp (h fm env e μ hE _ _ (PX.mono (PX.bind q) (fun ps e1 q1 μ1 hE1 => I_newKT fun a n => q1 _ _ a μ1 rfl rfl hE1 n) fun _ _ k => k))
/-! ### errors -/
def xRaise (c : Nat) (ns : List Nat) (as : XA) : XS := fun e => xo (as e) fun rs e1 => (vsOf rs).bind fun vs => if vs.length = ns.length then some (.ex (c, errF ns vs []) e1) else none
theorem s_raise {c : Nat} {ns : List Nat} (h : SndA sl as mas) : SndS sl (xRaise c ns as) (dRaise c ns mas) := fun fm env e μ hE K q => by
  refine I_raise (h fm env e μ hE _ _ (PX.mono (PO.bind q) (fun rs e1 q1 ds μ1 ks hE1 => ?_) fun _ _ k μ' hE' => k env μ' hE'))
  obtain ⟨vs, q2, q3⟩ := PO.opt q1
  obtain ⟨q4, q5⟩ := PO.ite q3
  rw [vsOf_rs ks q2]
  exact ⟨by rw [q4]; exact Nat.beq_refl _, q5 env μ1 hE1⟩
/-- try: b / except as i: s -/
def xTry (q : Nat → Option Bool) (i : Nat) (b : XS) (s : Nat → XS) : XS := fun e => match b e with
  | some (.ex y e1) => (q y.1).bind fun k => if k = true then (match s y.1 (e1.set i (some (.exn 0 none y.1 y.2))) with
    | some (.nx e2) => some (.nx (e2.set i none))
    | some (.bk e2) => some (.bk (e2.set i none))
    | some (.ct e2) => some (.ct (e2.set i none))
    | some (.rt d e2) => some (.rt d e2)
    | _ => none) else some (.ex y e1)
  | o => o
def Sl.hand (sl : Sl) (q : Nat × Addr × Option Addr × Nat) : Sl := { sl with hp := some q }
/-- the suite, whatever the error's place -/
def SndH (sl : Sl) (i : Nat) (s : Nat → XS) (ms : Addr → Option Addr → Nat → DS) : Prop := ∀ a dd c, SndS (sl.hand (i, a, dd, c)) (s c) (ms a dd c)
theorem ER.setX {fm : Fm} {env : Env'} {e : XEnv} {μ : Sto} (h : ER fm sl env e μ) {i : Nat} {a : Addr} {dd : Option Addr} {c : Nat} {fs : List (Nat × D)} (h1 : i ∈ sl.xs) (h2 : i ∉ sl.ow) (h3 : i ∉ sl.bo) (h4 : i ∉ sl.ct) : ER fm (sl.hand (i, a, dd, c)) (env.set i (some (.exn a dd c fs))) (e.set i (some (.exn 0 none c fs))) μ := by
  have ne : ∀ {j : Nat}, j ∈ sl.ow ∨ j ∈ sl.bo ∨ j ∉ sl.xs ∨ j ∈ sl.ct → i ≠ j := fun hj z => by subst z; rcases hj with hj | hj | hj | hj <;> contradiction
  refine ⟨by simp [h.len], fun j w a1 a2 a3 q => ?_, fun j w hj q => ?_, fun j w hj q => ?_, fun j k a w w' hj hk n q q' r => ?_, h.fr, fun j a w hj q r => ?_, fun p hp => ?_, fun q hq => ?_, fun q hq => ?_⟩
  · have hn := ne (.inr (.inr (.inl a3))); rw [List.getElem?_set_ne hn] at q ⊢; exact h.fz j w a1 a2 a3 q
  · have hn := ne (.inr (.inl hj)); rw [List.getElem?_set_ne hn] at q ⊢; exact h.bo j w hj q
  · have hn := ne (.inl hj); rw [List.getElem?_set_ne hn] at q ⊢; exact h.ow j w hj q
  · have hn := ne (.inl hj); have hm : i ≠ k := ne (hk.elim .inl fun z => .inr (.inl z))
    rw [List.getElem?_set_ne hn] at q r; rw [List.getElem?_set_ne hm] at q' ⊢; exact h.di j k a w w' hj hk n q q' r
  · have hn := ne (.inl hj); rw [List.getElem?_set_ne hn] at q r; exact h.nw j a w hj q r
  · obtain ⟨p1, p2, p3, p4⟩ := h.pa p hp
    have hn := ne (.inl p2); rw [List.getElem?_set_ne hn, List.getElem?_set_ne hn]; exact ⟨p1, p2, p3, p4⟩
  · obtain ⟨p1, p2, p3⟩ := h.bc q hq
    have hn := ne (.inr (.inr (.inr p1))); rw [List.getElem?_set_ne hn, List.getElem?_set_ne hn]; exact ⟨p1, p2, p3⟩
  · cases hq
    refine ⟨h1, fun v z => ?_⟩
    have y := getSet z
    cases y
    refine ⟨fs, rfl, ?_⟩
    rw [List.getElem?_set, if_pos rfl] at z ⊢
    rw [h.len]; split at z <;> first | cases z | skip
    rw [if_pos (by assumption)]
theorem ER.exit {fm : Fm} {env : Env'} {e : XEnv} {μ : Sto} {q : Nat × Addr × Option Addr × Nat} (h : ER fm (sl.hand q) env e μ) {i : Nat} (h0 : sl.hp = none) (h1 : i ∉ sl.mp) (h4 : i ∉ sl.ct) : ER fm sl (env.set i none) (e.set i none) μ := by
  have h := (h.unset h1 h4).off (i := i) (fun v q => by have := getSet q; cases this) none
  exact ⟨h.len, h.fz, h.bo, h.ow, h.di, h.fr, h.nw, h.pa, h.bc, fun p hp => by rw [h0] at hp; cases hp⟩
theorem s_try {q : Nat → Option Bool} {i : Nat} {s : Nat → XS} {ms : Addr → Option Addr → Nat → DS} (hb : SndS sl a sa) (hs : SndH sl i s ms) (h0 : sl.hp = none := by rfl) (h1 : i ∈ sl.xs := by first | decide | (dsimp only [Sl.hand, Sl.lock]; decide)) (h2 : i ∉ sl.ow := by first | decide | (dsimp only [Sl.hand, Sl.lock]; decide)) (h3 : i ∉ sl.bo := by first | decide | (dsimp only [Sl.hand, Sl.lock]; decide)) (h4 : i ∉ sl.ct := by first | decide | (dsimp only [Sl.hand, Sl.lock]; decide)) (h5 : i ∉ sl.mp := by first | decide | (dsimp only [Sl.hand, Sl.lock]; decide)) : SndS sl (xTry q i a s) (dTryAs q i sa ms) := fun fm env e μ hE K z => by
  refine I_tryK (hb fm env e μ hE _ ?_)
  unfold xTry at z
  cases o : a e with
  | none => rw [o] at z; exact z.elim
  | some r =>
    rw [o] at z
    cases r with
    | nx e1 => exact z
    | rt d e1 => exact z
    | bk e1 => exact z
    | ct e1 => exact z
    | ex y e1 =>
      obtain ⟨k, z1, z2⟩ := PO.opt z
      intro env' μ' hE'
      refine I_onS2 z1 (I_br (fun w => ?_) (fun w => ?_)) <;> subst w
      · intro ad dd
        refine hs ad dd y.1 fm _ _ μ' (hE'.setX (fs := y.2) h1 h2 h3 h4) _ ?_
        have z2 : PO sl fm (match s y.1 (e1.set i (some (.exn 0 none y.1 y.2))) with
          | some (.nx e2) => some (.nx (e2.set i none))
          | some (.bk e2) => some (.bk (e2.set i none))
          | some (.ct e2) => some (.ct (e2.set i none))
          | some (.rt d e2) => some (.rt d e2)
          | _ => none) K := z2
        cases o2 : s y.1 (e1.set i (some (.exn 0 none y.1 y.2))) with
        | none => rw [o2] at z2; exact z2.elim
        | some r2 =>
          rw [o2] at z2
          cases r2 with
          | nx e2 => exact fun env2 μ2 hE2 => z2 _ _ (hE2.exit h0 h5 h4)
          | bk e2 => exact fun env2 μ2 hE2 => z2 _ _ (hE2.exit h0 h5 h4)
          | ct e2 => exact fun env2 μ2 hE2 => z2 _ _ (hE2.exit h0 h5 h4)
          | rt d e2 => exact z2
          | ex y2 e2 => exact z2.elim
      · exact z2 env' μ' hE'
def xXf (i n : Nat) : XE := fun e => (e[i]?).join.bind fun v => match v with
  | .exn _ _ _ fs => (lk fs n).bind fun d => some (.ok (.v d) e)
  | _ => none
def xIsX (i c : Nat) (q : Nat → Option Bool) : XE := fun e => (e[i]?).join.bind fun v => match v with
  | .exn _ _ _ fs => if fs.isEmpty = false then (q c).bind fun b => some (.ok (.v (.bl b)) e) else none
  | _ => none
theorem s_xf {i n : Nat} {a : Addr} {dd : Option Addr} {c : Nat} (hp : sl.hp = some (i, a, dd, c) := by rfl) : SndE sl (xXf i n) (dXf a dd c n (dVar i)) := fun fm env e μ hE Q E q => by
  obtain ⟨v, q1, q2⟩ := PX.opt q
  obtain ⟨_, h⟩ := hE.hx _ hp
  obtain ⟨fs, rfl, h2⟩ := h v (join_some q1)
  obtain ⟨d, q3, q4⟩ := PX.opt q2
  exact I_xf (I_var h2 (I_xfK q3 (q4 d μ rfl hE)))
theorem s_isX {i : Nat} {a : Addr} {dd : Option Addr} {c : Nat} {q : Nat → Option Bool} (hp : sl.hp = some (i, a, dd, c) := by rfl) : SndE sl (xIsX i c q) (dIsX a dd c q (dVar i)) := fun fm env e μ hE Q E z => by
  obtain ⟨v, q1, q2⟩ := PX.opt z
  obtain ⟨_, h⟩ := hE.hx _ hp
  obtain ⟨fs, rfl, h2⟩ := h v (join_some q1)
  obtain ⟨q3, q4⟩ := PX.ite q2
  obtain ⟨b, q5, q6⟩ := PX.opt q4
  exact I_isX (I_var h2 (I_ixK q3 q5 (q6 _ μ rfl hE)))
end
/-- the law's run -/
theorem law_run {x : XF} {m : DF} {ns : List Int} (h : SndF [] [] false x m) (r : ∃ o, x [.lst (ns.map .int)] = some (.ok (.bl true) o)) : m [.lst (ns.map .int)] (fun _ => none) (fun d _ => d = .bl true) (fun _ _ => False) := by
  obtain ⟨o, r⟩ := r
  refine h [.lst (ns.map .int)] [.lst (ns.map .int)] [] (fun _ => none) ⟨rfl, fun j d v h1 h2 _ _ => by rw [h1] at h2; cases h2; rfl, fun j d v hj => by simp at hj, rfl, fun k j a h => by simp at h, List.nodup_nil, fun j hj => by simp at hj⟩ _ _ ?_
  rw [r]
  rfl
end DL
namespace DL
open PySem PySem.Spec L2
/-! ### keywords -/
def xPick (n : Nat) (is : List Nat) (as : XA) : XA := fun e => xb (as e) fun rs e1 => if rs.length = n then some (.ok (pick is rs) e1) else none
theorem RfRs.len {sl : Sl} {env : Env'} : ∀ {ds : List D} {rs : List Rf}, RfRs sl env ds rs → ds.length = rs.length
  | [], [], _ => rfl
  | _ :: _, _ :: _, h => congrArg Nat.succ (RfRs.len h.2)
  | [], _ :: _, h => h.elim
  | _ :: _, [], h => h.elim
theorem RfRs.get {sl : Sl} {env : Env'} : ∀ {ds : List D} {rs : List Rf} {i : Nat} {d : D}, RfRs sl env ds rs → ds[i]? = some d → ∃ r, rs[i]? = some r ∧ RfR sl env d r
  | d :: ds, r :: rs, 0, _, h, q => by cases q; exact ⟨r, rfl, h.1⟩
  | d :: ds, r :: rs, i + 1, _, h, q => by
    obtain ⟨r', h1, h2⟩ := RfRs.get (i := i) h.2 (by simpa using q)
    exact ⟨r', by simpa using h1, h2⟩
  | [], [], i, _, _, q => by simp at q
  | [], _ :: _, _, _, h, _ => h.elim
  | _ :: _, [], _, _, h, _ => h.elim
theorem RfRs.pick {sl : Sl} {env : Env'} {ds : List D} {rs : List Rf} (h : RfRs sl env ds rs) : ∀ is : List Nat, RfRs sl env (DL.pick is ds) (DL.pick is rs)
  | [] => trivial
  | i :: is => by
    unfold DL.pick
    cases q : ds[i]? with
    | some d =>
      obtain ⟨r, h1, h2⟩ := h.get q
      rw [h1]
      exact ⟨h2, RfRs.pick h is⟩
    | none =>
      have : rs[i]? = none := by
        rw [List.getElem?_eq_none_iff] at q ⊢
        rw [← h.len]; exact q
      rw [this]
      exact RfRs.pick h is
theorem s_pick {sl : Sl} {as : XA} {mas : DA} {n : Nat} {is : List Nat} (h : SndA sl as mas) : SndA sl (xPick n is as) (dPick n is mas) := fun fm env e μ hE Q E q => by
  refine I_pick (h fm env e μ hE _ _ (PX.mono (PX.bind q) (fun rs e1 q1 ds μ1 ks hE1 => ?_) fun _ _ k => k))
  obtain ⟨z, q2⟩ := PX.ite q1
  exact ⟨by rw [ks.len, z]; exact Nat.beq_refl _, q2 _ μ1 (ks.pick is) hE1⟩
end DL

/-! XS: rows by which simp runs a def. -/
namespace DL
open PySem PySem.Spec L2
def gt : XEnv → Nat → Option D
  | [], _ => none
  | o :: _, 0 => o
  | _ :: r, n + 1 => gt r n
theorem gt_eq : ∀ (e : XEnv) (i : Nat), (e[i]?).join = gt e i
  | [], _ => by simp [gt]
  | o :: r, 0 => by simp [gt]
  | o :: r, n + 1 => by simpa [gt] using gt_eq r n
theorem gt_0 {o : Option D} {r : XEnv} : gt (o :: r) 0 = o := rfl
theorem gt_s {o : Option D} {r : XEnv} {n : Nat} : gt (o :: r) (n + 1) = gt r n := rfl
section
variable {e e1 e2 e3 : XEnv} {a b c : XE} {t u : XT} {s s2 : XS} {as : XA} {d v w v1 v2 : D} {r r1 r2 : Rf} {rs : List Rf} {i j n o : Nat} {y : Exn} {g : D → D → Option D} {f : D → Option D} {vs xs ys : List D} {k : Bool}
abbrev OK (r : Rf) (e : XEnv) : Option (XR Rf) := some (.ok r e)
def xv1 (o : Option D) (e : XEnv) : Option (XR Rf) := o.bind fun d => some (.ok (.v d) e)
theorem e_var : xVar i e = xv1 (gt e i) e := by unfold xVar xv1; rw [gt_eq]
theorem e_v1 : xv1 (some d) e = some (.ok (.v d) e) := rfl
def xs1 (o : Option D) (i : Nat) (e : XEnv) : Option (XR Rf) := o.bind fun _ => some (.ok (.s i) e)
theorem e_slot : xSlot i e = xs1 (gt e i) i e := by unfold xSlot xs1; rw [gt_eq]
theorem e_s1 : xs1 (some d) i e = some (.ok (.s i) e) := rfl
theorem e_c : xC d e = some (.ok (.v d) e) := rfl
theorem drf_v : drf e (.v d) = some d := rfl
theorem drf_s : drf e (.s i) = gt e i := by unfold drf; exact gt_eq e i
/-- behind a value -/
def xr1 (o : Option D) (e : XEnv) : Option (XR Rf) := o.bind fun d => some (.ok (.v d) e)
theorem e_r1 : xr1 (some d) e = some (.ok (.v d) e) := rfl
def xop1 (g : D → D → Option D) (b : XE) (x : Option (XR Rf)) : Option (XR Rf) := xb x fun r1 e1 => xb (b e1) fun r2 e2 => (drf e2 r1).bind fun v1 => (drf e2 r2).bind fun v2 => xr1 (g v1 v2) e2
def xop2 (g : D → D → Option D) (r1 : Rf) (x : Option (XR Rf)) : Option (XR Rf) := xb x fun r2 e2 => (drf e2 r1).bind fun v1 => (drf e2 r2).bind fun v2 => xr1 (g v1 v2) e2
def xop3 (g : D → D → Option D) (o1 o2 : Option D) (e : XEnv) : Option (XR Rf) := o1.bind fun v1 => o2.bind fun v2 => xr1 (g v1 v2) e
theorem e_op : xOp g a b e = xop1 g b (a e) := rfl
theorem e_op1 : xop1 g b (some (.ok r1 e1)) = xop2 g r1 (b e1) := rfl
theorem e_op1e : xop1 g b (some (.er y e1)) = some (.er y e1) := rfl
theorem e_op2 : xop2 g r1 (some (.ok r2 e2)) = xop3 g (drf e2 r1) (drf e2 r2) e2 := rfl
theorem e_op2e : xop2 g r1 (some (.er y e2)) = some (.er y e2) := rfl
theorem e_op3 : xop3 g (some v1) (some v2) e = xr1 (g v1 v2) e := rfl
def xoe1 (g : D → D → Option D) (b : XE) (x : Option (XR Rf)) : Option (XR Rf) := xb x fun r1 e1 => xb (b e1) fun r2 e2 => (drf e2 r1).bind fun v1 => (drf e2 r2).bind fun v2 => if (okS r1 v1 && okS r2 v2) = true then xr1 (g v1 v2) e2 else none
def xoe2 (g : D → D → Option D) (r1 : Rf) (x : Option (XR Rf)) : Option (XR Rf) := xb x fun r2 e2 => (drf e2 r1).bind fun v1 => (drf e2 r2).bind fun v2 => if (okS r1 v1 && okS r2 v2) = true then xr1 (g v1 v2) e2 else none
def xoe3 (g : D → D → Option D) (r1 r2 : Rf) (o1 o2 : Option D) (e : XEnv) : Option (XR Rf) := o1.bind fun v1 => o2.bind fun v2 => if (okS r1 v1 && okS r2 v2) = true then xr1 (g v1 v2) e else none
theorem e_oe : xOpE g a b e = xoe1 g b (a e) := rfl
theorem e_oe1 : xoe1 g b (some (.ok r1 e1)) = xoe2 g r1 (b e1) := rfl
theorem e_oe1e : xoe1 g b (some (.er y e1)) = some (.er y e1) := rfl
theorem e_oe2 : xoe2 g r1 (some (.ok r2 e2)) = xoe3 g r1 r2 (drf e2 r1) (drf e2 r2) e2 := rfl
theorem e_oe2e : xoe2 g r1 (some (.er y e2)) = some (.er y e2) := rfl
theorem e_oe3 : xoe3 g (.v w) (.v d) (some v1) (some v2) e = xr1 (g v1 v2) e := rfl
theorem e_oe3l : xoe3 g (.s i) (.v d) (some (.lst xs)) (some v2) e = xr1 (g (.lst xs) v2) e := rfl
theorem e_oe3r : xoe3 g (.v w) (.s i) (some v1) (some (.lst xs)) e = xr1 (g v1 (.lst xs)) e := rfl
theorem e_oe3b : xoe3 g (.s j) (.s i) (some (.lst ys)) (some (.lst xs)) e = xr1 (g (.lst ys) (.lst xs)) e := rfl
def xol1 (g : D → D → Option D) (b : XE) (x : Option (XR Rf)) : Option (XR Rf) := xb x fun r1 e1 => xb (b e1) fun r2 e2 => (drf e2 r1).bind fun v1 => (drf e2 r2).bind fun v2 => if okS r1 v1 = true then xr1 (g v1 v2) e2 else none
def xol2 (g : D → D → Option D) (r1 : Rf) (x : Option (XR Rf)) : Option (XR Rf) := xb x fun r2 e2 => (drf e2 r1).bind fun v1 => (drf e2 r2).bind fun v2 => if okS r1 v1 = true then xr1 (g v1 v2) e2 else none
def xol3 (g : D → D → Option D) (r1 r2 : Rf) (o1 o2 : Option D) (e : XEnv) : Option (XR Rf) := o1.bind fun v1 => o2.bind fun v2 => if okS r1 v1 = true then xr1 (g v1 v2) e else none
theorem e_ol : xOpL g a b e = xol1 g b (a e) := rfl
theorem e_ol1 : xol1 g b (some (.ok r1 e1)) = xol2 g r1 (b e1) := rfl
theorem e_ol1e : xol1 g b (some (.er y e1)) = some (.er y e1) := rfl
theorem e_ol2 : xol2 g r1 (some (.ok r2 e2)) = xol3 g r1 r2 (drf e2 r1) (drf e2 r2) e2 := rfl
theorem e_ol2e : xol2 g r1 (some (.er y e2)) = some (.er y e2) := rfl
theorem e_ol3 : xol3 g (.v w) r2 (some v1) (some v2) e = xr1 (g v1 v2) e := rfl
theorem e_ol3l : xol3 g (.s i) r2 (some (.lst xs)) (some v2) e = xr1 (g (.lst xs) v2) e := rfl
def xu2 (f : D → Option D) (o : Option D) (e : XEnv) : Option (XR Rf) := xr1 (o.bind f) e
def xu1 (f : D → Option D) (x : Option (XR Rf)) : Option (XR Rf) := xb x fun r e1 => xu2 f (drf e1 r) e1
theorem e_u : xU f a e = xu1 f (a e) := rfl
theorem e_u1 : xu1 f (some (.ok r e1)) = xu2 f (drf e1 r) e1 := rfl
theorem e_u1e : xu1 f (some (.er y e1)) = some (.er y e1) := rfl
theorem e_u2 : xu2 f (some d) e = xr1 (f d) e := rfl
/-! tests -/
def xt2 (o : Option D) (e : XEnv) : Option (XR Bool) := (o.bind blD).bind fun b => some (.ok b e)
def xt1 (x : Option (XR Rf)) : Option (XR Bool) := xb x fun r e1 => xt2 (drf e1 r) e1
theorem e_tst : xTst a e = xt1 (a e) := rfl
theorem e_t1 : xt1 (some (.ok r e1)) = xt2 (drf e1 r) e1 := rfl
theorem e_t1e : xt1 (some (.er y e1)) = some (.er y e1) := rfl
theorem e_t2 : xt2 (some (.bl k)) e = some (.ok k e) := rfl
/-- by a bool -/
def br3 {α : Type} (k : Bool) (x y : Option α) : Option α := if k = true then x else y
theorem br3_t {α : Type} {x y : Option α} : br3 true x y = x := rfl
theorem br3_f {α : Type} {x y : Option α} : br3 false x y = y := rfl
theorem br3_d {α : Type} {x y : Option α} {p : Prop} [Decidable p] : br3 (decide p) x y = if p then x else y := by
  unfold br3; by_cases h : p <;> simp [h]
theorem br3_n {α : Type} {x y : Option α} {q : Bool} : br3 (!q) x y = br3 q y x := by cases q <;> rfl
theorem br3_a {α : Type} {x y : Option α} {p q : Bool} : br3 (p && q) x y = br3 p (br3 q x y) y := by cases p <;> rfl
def xand1 (u : XT) (x : Option (XR Bool)) : Option (XR Bool) := xb x fun b e1 => br3 b (u e1) (some (.ok false e1))
theorem e_and : xAnd t u e = xand1 u (t e) := rfl
theorem e_and1 : xand1 u (some (.ok k e1)) = br3 k (u e1) (some (.ok false e1)) := rfl
theorem e_and1e : xand1 u (some (.er y e1)) = some (.er y e1) := rfl
def xor1 (u : XT) (x : Option (XR Bool)) : Option (XR Bool) := xb x fun b e1 => br3 b (some (.ok true e1)) (u e1)
theorem e_or : xOr t u e = xor1 u (t e) := rfl
theorem e_or1 : xor1 u (some (.ok k e1)) = br3 k (some (.ok true e1)) (u e1) := rfl
theorem e_or1e : xor1 u (some (.er y e1)) = some (.er y e1) := rfl
def xnot1 (x : Option (XR Bool)) : Option (XR Bool) := xb x fun b e1 => some (.ok (!b) e1)
theorem e_not : xNot t e = xnot1 (t e) := rfl
theorem e_not1 : xnot1 (some (.ok k e1)) = some (.ok (!k) e1) := rfl
theorem e_not1e : xnot1 (some (.er y e1)) = some (.er y e1) := rfl
theorem e_yes : xYes e = some (.ok true e) := rfl
def xav2 (b : XE) (o : Option D) (e : XEnv) : Option (XR Rf) := (o.bind blD).bind fun k => br3 k (b e) (some (.ok (.v (.bl false)) e))
def xav1 (b : XE) (x : Option (XR Rf)) : Option (XR Rf) := xb x fun r e1 => xav2 b (drf e1 r) e1
theorem e_av : xAndV a b e = xav1 b (a e) := rfl
theorem e_av1 : xav1 b (some (.ok r e1)) = xav2 b (drf e1 r) e1 := rfl
theorem e_av1e : xav1 b (some (.er y e1)) = some (.er y e1) := rfl
theorem e_av2 : xav2 b (some (.bl k)) e = br3 k (b e) (some (.ok (.v (.bl false)) e)) := rfl
def xov2 (b : XE) (o : Option D) (e : XEnv) : Option (XR Rf) := (o.bind blD).bind fun k => br3 k (some (.ok (.v (.bl true)) e)) (b e)
def xov1 (b : XE) (x : Option (XR Rf)) : Option (XR Rf) := xb x fun r e1 => xov2 b (drf e1 r) e1
theorem e_ov : xOrV a b e = xov1 b (a e) := rfl
theorem e_ov1 : xov1 b (some (.ok r e1)) = xov2 b (drf e1 r) e1 := rfl
theorem e_ov1e : xov1 b (some (.er y e1)) = some (.er y e1) := rfl
theorem e_ov2 : xov2 b (some (.bl k)) e = br3 k (some (.ok (.v (.bl true)) e)) (b e) := rfl
def xnv2 (o : Option D) (e : XEnv) : Option (XR Rf) := (o.bind blD).bind fun k => some (.ok (.v (.bl (!k))) e)
def xnv1 (x : Option (XR Rf)) : Option (XR Rf) := xb x fun r e1 => xnv2 (drf e1 r) e1
theorem e_nv : xNotV a e = xnv1 (a e) := rfl
theorem e_nv1 : xnv1 (some (.ok r e1)) = xnv2 (drf e1 r) e1 := rfl
theorem e_nv1e : xnv1 (some (.er y e1)) = some (.er y e1) := rfl
theorem e_nv2 : xnv2 (some (.bl k)) e = some (.ok (.v (.bl (!k))) e) := rfl
def xif1 (a b : XE) (x : Option (XR Bool)) : Option (XR Rf) := xb x fun k e1 => br3 k (a e1) (b e1)
theorem e_if : xIf t a b e = xif1 a b (t e) := rfl
theorem e_if1 : xif1 a b (some (.ok k e1)) = br3 k (a e1) (b e1) := rfl
theorem e_if1e : xif1 a b (some (.er y e1)) = some (.er y e1) := rfl
def xch2 (g' : D → D → Option D) (c : XE) (r2 : Rf) (o : Option D) (e : XEnv) : Option (XR Rf) := (o.bind blD).bind fun k => br3 k (xop2 g' r2 (c e)) (some (.ok (.v (.bl false)) e))
def xch1 (g g' : D → D → Option D) (b c : XE) (x : Option (XR Rf)) : Option (XR Rf) := xb x fun r1 e1 => xb (b e1) fun r2 e2 => (drf e2 r1).bind fun v1 => (drf e2 r2).bind fun v2 => xch2 g' c r2 (g v1 v2) e2
def xch3 (g g' : D → D → Option D) (c : XE) (r1 : Rf) (x : Option (XR Rf)) : Option (XR Rf) := xb x fun r2 e2 => (drf e2 r1).bind fun v1 => (drf e2 r2).bind fun v2 => xch2 g' c r2 (g v1 v2) e2
def xch4 (g g' : D → D → Option D) (c : XE) (r2 : Rf) (o1 o2 : Option D) (e : XEnv) : Option (XR Rf) := o1.bind fun v1 => o2.bind fun v2 => xch2 g' c r2 (g v1 v2) e
theorem e_ch {g' : D → D → Option D} : xChain g g' a b c e = xch1 g g' b c (a e) := rfl
theorem e_ch1 {g' : D → D → Option D} : xch1 g g' b c (some (.ok r1 e1)) = xch3 g g' c r1 (b e1) := rfl
theorem e_ch3 {g' : D → D → Option D} : xch3 g g' c r1 (some (.ok r2 e2)) = xch4 g g' c r2 (drf e2 r1) (drf e2 r2) e2 := rfl
theorem e_ch4 {g' : D → D → Option D} : xch4 g g' c r2 (some v1) (some v2) e = xch2 g' c r2 (g v1 v2) e := rfl
theorem e_ch2 {g' : D → D → Option D} : xch2 g' c r2 (some (.bl k)) e = br3 k (xop2 g' r2 (c e)) (some (.ok (.v (.bl false)) e)) := rfl
/-! rows -/
theorem e_nil : xNil e = some (.ok [] e) := rfl
def xc2 (v : Rf) (x : Option (XR (List Rf))) : Option (XR (List Rf)) := xb x fun vs e2 => some (.ok (v :: vs) e2)
def xc1 (r : XA) (x : Option (XR Rf)) : Option (XR (List Rf)) := xb x fun v e1 => xc2 v (r e1)
theorem e_cons : xCons a as e = xc1 as (a e) := rfl
theorem e_c1 : xc1 as (some (.ok r e1)) = xc2 r (as e1) := rfl
theorem e_c1e : xc1 as (some (.er y e1)) = some (.er y e1) := rfl
theorem e_c2 : xc2 r (some (.ok rs e2)) = some (.ok (r :: rs) e2) := rfl
theorem e_c2e : xc2 r (some (.er y e2)) = some (.er y e2) := rfl
theorem vs_0 : vsOf [] = some [] := rfl
def co (d : D) (o : Option (List D)) : Option (List D) := o.map (d :: ·)
theorem vs_1 : vsOf (.v d :: rs) = co d (vsOf rs) := rfl
theorem co_s : co d (some vs) = some (d :: vs) := rfl
def xtu2 (o : Option (List D)) (e : XEnv) : Option (XR Rf) := o.bind fun vs => if vs.length ≤ 1000 then some (.ok (.v (.tup vs)) e) else none
def xtu1 (x : Option (XR (List Rf))) : Option (XR Rf) := xb x fun rs e1 => xtu2 (vsOf rs) e1
theorem e_tup : xTup as e = xtu1 (as e) := rfl
theorem e_tu1 : xtu1 (some (.ok rs e1)) = xtu2 (vsOf rs) e1 := rfl
theorem e_tu1e : xtu1 (some (.er y e1)) = some (.er y e1) := rfl
theorem e_tu2 (h : vs.length ≤ 1000) : xtu2 (some vs) e = some (.ok (.v (.tup vs)) e) := if_pos h
def xls2 (o : Option (List D)) (e : XEnv) : Option (XR Rf) := o.bind fun vs => if vs.length ≤ 1000 then some (.ok (.v (.lst vs)) e) else none
def xls1 (x : Option (XR (List Rf))) : Option (XR Rf) := xb x fun rs e1 => xls2 (vsOf rs) e1
theorem e_lst : xLst as e = xls1 (as e) := rfl
theorem e_ls1 : xls1 (some (.ok rs e1)) = xls2 (vsOf rs) e1 := rfl
theorem e_ls1e : xls1 (some (.er y e1)) = some (.er y e1) := rfl
theorem e_ls2 (h : vs.length ≤ 1000) : xls2 (some vs) e = some (.ok (.v (.lst vs)) e) := if_pos h
/-! calls -/
variable {fx : XF} {bo mp : List Nat} {fs : List (Nat × D)}
theorem av_0 : argV bo e j [] = some [] := rfl
theorem av_v0 : argV [] e j (.v d :: rs) = co d (argV [] e (j + 1) rs) := rfl
/-- where an argument may be lent -/
def avb (k : Bool) (d : D) (o : Option (List D)) : Option (List D) := if k = true then (if nc d = true then co d o else none) else co d o
theorem av_v : argV (i :: bo) e j (.v d :: rs) = avb ((i :: bo).elem j) d (argV (i :: bo) e (j + 1) rs) := rfl
theorem avb_f {o : Option (List D)} : avb false d o = co d o := rfl
theorem avb_t {o : Option (List D)} (h : nc d = true) : avb true d o = co d o := by unfold avb; rw [if_pos rfl, if_pos h]
def avs (k : Bool) (o : Option D) (r : Option (List D)) : Option (List D) := if k = true then o.bind fun d => r.map (d :: ·) else none
theorem av_s : argV bo e j (.s i :: rs) = avs (bo.elem j) (gt e i) (argV bo e (j + 1) rs) := by
  unfold avs; rw [← gt_eq]; rfl
theorem avs_t {r : Option (List D)} : avs true (some d) r = co d r := rfl
def xca2 (fx : XF) (o : Option (List D)) (e : XEnv) : Option (XR Rf) := o.bind fun vs => xR (fx vs) e
def xca1 (fx : XF) (bo : List Nat) (x : Option (XR (List Rf))) : Option (XR Rf) := xb x fun rs e1 => xca2 fx (argV bo e1 0 rs) e1
theorem e_call : xCall fx bo as e = xca1 fx bo (as e) := rfl
theorem e_ca1 : xca1 fx bo (some (.ok rs e1)) = xca2 fx (argV bo e1 0 rs) e1 := rfl
theorem e_ca1e : xca1 fx bo (some (.er y e1)) = some (.er y e1) := rfl
theorem e_ca2 : xca2 fx (some vs) e = xR (fx vs) e := rfl
theorem e_R : xR (some (.ok d xs)) e = some (.ok (.v d) e) := rfl
theorem e_Re : xR (some (.er y xs)) e = some (.er y e) := rfl
def xcc2 (fx : XF) (o : Option (List D)) (e : XEnv) : Option (XR Rf) := o.bind fun vs => xRC (fx vs) e
def xcc1 (fx : XF) (bo : List Nat) (x : Option (XR (List Rf))) : Option (XR Rf) := xb x fun rs e1 => xcc2 fx (argV bo e1 0 rs) e1
theorem e_callC : xCallC fx bo as e = xcc1 fx bo (as e) := rfl
theorem e_cc1 : xcc1 fx bo (some (.ok rs e1)) = xcc2 fx (argV bo e1 0 rs) e1 := rfl
theorem e_cc1e : xcc1 fx bo (some (.er y e1)) = some (.er y e1) := rfl
theorem e_cc2 : xcc2 fx (some vs) e = xRC (fx vs) e := rfl
theorem e_RC : xRC (some (.ok (.lst ys) xs)) e = some (.ok (.v (.lst ys)) e) := rfl
def xcm2 (fx : XF) (o : Nat) (k : Bool) (d : Option D) (vs : Option (List D)) (e : XEnv) : Option (XR Rf) := if k = true then d.bind fun d => vs.bind fun vs => xR1 o (fx (d :: vs)) e else none
def xcm1 (fx : XF) (bo : List Nat) (o : Nat) (x : Option (XR (List Rf))) : Option (XR Rf) := xb x fun rs e1 => match rs with
  | .s i :: r => if Nat.beq i o = true then (if noS o r = true then (e1[o]?).join.bind fun d => (argV bo e1 1 r).bind fun vs => xR1 o (fx (d :: vs)) e1 else none) else none
  | _ => none
theorem e_callM : xCallM fx bo o as e = xcm1 fx bo o (as e) := rfl
theorem e_cm1 : xcm1 fx bo o (some (.ok (.s o :: rs) e1)) = xcm2 fx o (noS o rs) (gt e1 o) (argV bo e1 1 rs) e1 := by
  unfold xcm1 xcm2
  show (if Nat.beq o o = true then _ else none) = _
  rw [Nat.beq_refl, if_pos rfl, gt_eq]
theorem e_cm1e : xcm1 fx bo o (some (.er y e1)) = some (.er y e1) := rfl
theorem e_cm2 : xcm2 fx o true (some d) (some vs) e = xR1 o (fx (d :: vs)) e := rfl
theorem nos_0 : noS o [] = true := rfl
theorem nos_v : noS o (.v d :: rs) = noS o rs := rfl
theorem nos_s : noS o (.s i :: rs) = (!(Nat.beq i o) && noS o rs) := rfl
theorem e_R1 : xR1 o (some (.ok d [.lst xs])) e = some (.ok (.v d) (e.set o (some (.lst xs)))) := rfl
theorem e_R1k {kvs : List (Key × D)} : xR1 o (some (.ok d [.dK kvs])) e = some (.ok (.v d) (e.set o (some (.dK kvs)))) := rfl
theorem e_R1e : xR1 o (some (.er y [.lst xs])) e = some (.er y (e.set o (some (.lst xs)))) := rfl
def xmk2 (c : Nat) (fx : XF) (o : Option (List D)) (e : XEnv) : Option (XR Rf) := o.bind fun vs => xMk (fx (.ins c [] :: vs)) c e
def xmk1 (c : Nat) (fx : XF) (bo : List Nat) (x : Option (XR (List Rf))) : Option (XR Rf) := xb x fun rs e1 => xmk2 c fx (argV bo e1 1 rs) e1
theorem e_make : xMake n fx bo as e = xmk1 n fx bo (as e) := rfl
theorem e_mk1 : xmk1 n fx bo (some (.ok rs e1)) = xmk2 n fx (argV bo e1 1 rs) e1 := rfl
theorem e_mk1e : xmk1 n fx bo (some (.er y e1)) = some (.er y e1) := rfl
theorem e_mk2 : xmk2 n fx (some vs) e = xMk (fx (.ins n [] :: vs)) n e := rfl
theorem e_Mk : xMk (some (.ok .non [.ins n fs])) n e = some (.ok (.v (.ins n fs)) e) := by show (if Nat.beq n n = true then _ else none) = _; rw [Nat.beq_refl, if_pos rfl]
theorem e_Mke : xMk (some (.er y xs)) n e = some (.er y e) := rfl
def xme2 (c : Nat) (fx : XF) (bo : List Nat) (fs : List (Nat × D)) (x : Option (XR (List Rf))) : Option (XR Rf) := xb x fun rs e2 => xca2 fx (argV bo e2 0 (.v (.ins c fs) :: rs)) e2
def xme1 (c : Nat) (fx : XF) (bo : List Nat) (as : XA) (x : Option (XR Rf)) : Option (XR Rf) := xb x fun r e1 => match r with
  | .v (.ins c' fs) => if Nat.beq c' c = true then xb (as e1) (fun rs e2 => (argV bo e2 0 (.v (.ins c fs) :: rs)).bind fun vs => xR (fx vs) e2) else none
  | _ => none
theorem e_meth : xMeth n fx bo a as e = xme1 n fx bo as (a e) := rfl
theorem e_me1 : xme1 n fx bo as (some (.ok (.v (.ins n fs)) e1)) = xme2 n fx bo fs (as e1) := by show (if Nat.beq n n = true then _ else none) = _; rw [Nat.beq_refl, if_pos rfl]; rfl
theorem e_me1e : xme1 n fx bo as (some (.er y e1)) = some (.er y e1) := rfl
theorem e_me2 : xme2 n fx bo fs (some (.ok rs e2)) = xca2 fx (argV bo e2 0 (.v (.ins n fs) :: rs)) e2 := rfl
theorem e_me2e : xme2 n fx bo fs (some (.er y e2)) = some (.er y e2) := rfl
/-! the def -/
def xfin (mp : List Nat) (x : Option XO) : Option XFR := match x with
  | some (.nx e) => some (.ok .non (outs mp e))
  | some (.rt d e) => some (.ok d (outs mp e))
  | some (.ex y e) => some (.er y (outs mp e))
  | _ => none
theorem e_def {N : Nat} (h : vs.length = n) : xDef n N mp s vs = xfin mp (s (stE N vs)) := by unfold xDef; rw [if_pos h]; rfl
theorem fin_nx : xfin mp (some (.nx e)) = some (.ok .non (outs mp e)) := rfl
theorem fin_rt : xfin mp (some (.rt d e)) = some (.ok d (outs mp e)) := rfl
theorem fin_ex : xfin mp (some (.ex y e)) = some (.er y (outs mp e)) := rfl
theorem outs_0 : outs [] e = [] := rfl
theorem outs_1 {o : Option D} : outs [0] (o :: e) = [o.getD .non] := rfl
theorem st_1 {N : Nat} : stE N [d] = some d :: List.replicate (N - 1) none := rfl
/-! statements -/
def xq (b : XS) (x : Option XO) : Option XO := match x with
  | some (.nx e1) => b e1
  | o => o
theorem e_seq : xSeq s s2 e = xq s2 (s e) := rfl
theorem q_nx : xq s (some (.nx e)) = s e := rfl
theorem q_rt : xq s (some (.rt d e)) = some (.rt d e) := rfl
theorem q_bk : xq s (some (.bk e)) = some (.bk e) := rfl
theorem q_ct : xq s (some (.ct e)) = some (.ct e) := rfl
theorem q_ex : xq s (some (.ex y e)) = some (.ex y e) := rfl
theorem e_next : xNext e = some (.nx e) := rfl
theorem e_break : xBreak e = some (.bk e) := rfl
theorem e_cont : xCont e = some (.ct e) := rfl
theorem e_retN : xRetN e = some (.rt .non e) := rfl
def xdr1 (x : Option (XR Rf)) : Option XO := xo x fun _ e1 => some (.nx e1)
theorem e_drop : xDrop a e = xdr1 (a e) := rfl
theorem e_dr1 : xdr1 (some (.ok r e1)) = some (.nx e1) := rfl
theorem e_dr1e : xdr1 (some (.er y e1)) = some (.ex y e1) := rfl
def xre1 (x : Option (XR Rf)) : Option XO := xo x fun r e1 => match r with
  | .v d => some (.rt d e1)
  | _ => none
theorem e_ret : xRet a e = xre1 (a e) := rfl
theorem e_re1 : xre1 (some (.ok (.v d) e1)) = some (.rt d e1) := rfl
theorem e_re1e : xre1 (some (.er y e1)) = some (.ex y e1) := rfl
def xrc1 (x : Option (XR Rf)) : Option XO := xo x fun r e1 => match r with
  | .v d => if (mcD d).isSome = true then some (.rt d e1) else none
  | _ => none
theorem e_retC : xRetC a e = xrc1 (a e) := rfl
theorem e_rc1 : xrc1 (some (.ok (.v (.lst xs)) e1)) = some (.rt (.lst xs) e1) := rfl
theorem e_rc1k {kvs : List (Key × D)} : xrc1 (some (.ok (.v (.dK kvs)) e1)) = some (.rt (.dK kvs) e1) := rfl
def xis1 (s s2 : XS) (x : Option (XR Bool)) : Option XO := xo x fun k e1 => br3 k (s e1) (s2 e1)
theorem e_ifs : xIfS t s s2 e = xis1 s s2 (t e) := rfl
theorem e_is1 : xis1 s s2 (some (.ok k e1)) = br3 k (s e1) (s2 e1) := rfl
theorem e_is1e : xis1 s s2 (some (.er y e1)) = some (.ex y e1) := rfl
def xas2 (o : Option XEnv) : Option XO := o.bind fun e2 => some (.nx e2)
def xas1 (g : XG) (x : Option (XR Rf)) : Option XO := xo x fun r e1 => match r with
  | .v d => xas2 (g d e1)
  | _ => none
variable {gg : XG} {gs : XGs}
theorem e_asg : xAsg a gg e = xas1 gg (a e) := rfl
theorem e_as1 : xas1 gg (some (.ok (.v d) e1)) = xas2 (gg d e1) := rfl
theorem e_as1e : xas1 gg (some (.er y e1)) = some (.ex y e1) := rfl
theorem e_as2 : xas2 (some e) = some (.nx e) := rfl
theorem g_name : xgName i d e = some (e.set i (some d)) := rfl
theorem g_nil : xgNil [] e = some e := rfl
def gc1 (gs : XGs) (r : List D) (o : Option XEnv) : Option XEnv := o.bind (gs r)
theorem g_cons : xgCons gg gs (d :: vs) e = gc1 gs vs (gg d e) := rfl
theorem g_c1 : gc1 gs vs (some e) = gs vs e := rfl
theorem g_tupT (h : xs.length = n) : xgTup n gs (.tup xs) e = gs xs e := if_pos h
theorem g_tupL (h : xs.length = n) : xgTup n gs (.lst xs) e = gs xs e := if_pos h
def xac1 (i : Nat) (x : Option (XR Rf)) : Option XO := xo x fun r e1 => match r with
  | .v d => if (mcD d).isSome = true then some (.nx (e1.set i (some d))) else none
  | _ => none
theorem e_asgC : xAsgC a i e = xac1 i (a e) := rfl
theorem e_ac1 : xac1 i (some (.ok (.v (.lst xs)) e1)) = some (.nx (e1.set i (some (.lst xs)))) := rfl
theorem e_ac1k {kvs : List (Key × D)} : xac1 i (some (.ok (.v (.dK kvs)) e1)) = some (.nx (e1.set i (some (.dK kvs)))) := rfl
theorem e_ac1e : xac1 i (some (.er y e1)) = some (.ex y e1) := rfl
def xpa1 (i j : Nat) (x : Option (XR (List Rf))) : Option XO := xo x fun rs e1 => match rs with
  | [.v d, .v d'] => some (.nx ((e1.set i (some d)).set j (some d')))
  | _ => none
theorem e_par : xPar i j as e = xpa1 i j (as e) := rfl
theorem e_pa1 : xpa1 i j (some (.ok [.v d, .v v] e1)) = some (.nx ((e1.set i (some d)).set j (some v))) := rfl
theorem e_pa1e : xpa1 i j (some (.er y e1)) = some (.ex y e1) := rfl
/-! loops -/
def xfo1 (g : XG) (s : XS) (x : Option (XR (List D))) : Option XO := xo x fun xs e1 => xForL g s xs e1
variable {it : XIf}
theorem e_for : xFor it gg s e = xfo1 gg s (it e) := rfl
theorem e_fo1 : xfo1 gg s (some (.ok xs e1)) = xForL gg s xs e1 := rfl
theorem e_fo1e : xfo1 gg s (some (.er y e1)) = some (.ex y e1) := rfl
def xfs1 (f : List D → List D) (g : XG) (s : XS) (o : Option D) (e : XEnv) : Option XO := (o.bind seqX).bind fun xs => xForL g s (f xs) e
theorem e_forS {ff : List D → List D} : xForS i ff gg s e = xfs1 ff gg s (gt e i) e := by unfold xForS xfs1; rw [gt_eq]
theorem e_fs1 {ff : List D → List D} : xfs1 ff gg s (some (.lst xs)) e = xForL gg s (ff xs) e := rfl
theorem e_fs1t {ff : List D → List D} : xfs1 ff gg s (some (.tup xs)) e = xForL gg s (ff xs) e := rfl
/-- a turn done -/
def xfl2 (g : XG) (s : XS) (r : List D) (x : Option XO) : Option XO := match x with
    | some (.nx e2) => xForL g s r e2
    | some (.ct e2) => xForL g s r e2
    | some (.bk e2) => some (.nx e2)
    | o => o
def xfl1 (g : XG) (s : XS) (r : List D) (o : Option XEnv) : Option XO := o.bind fun e1 => xfl2 g s r (s e1)
theorem fl_0 : xForL gg s [] e = some (.nx e) := rfl
theorem fl_c : xForL gg s (d :: vs) e = xfl1 gg s vs (gg d e) := rfl
theorem fl_1 : xfl1 gg s vs (some e) = xfl2 gg s vs (s e) := rfl
theorem fl_nx : xfl2 gg s vs (some (.nx e)) = xForL gg s vs e := rfl
theorem fl_ct : xfl2 gg s vs (some (.ct e)) = xForL gg s vs e := rfl
theorem fl_bk : xfl2 gg s vs (some (.bk e)) = some (.nx e) := rfl
theorem fl_rt : xfl2 gg s vs (some (.rt d e)) = some (.rt d e) := rfl
theorem fl_ex : xfl2 gg s vs (some (.ex y e)) = some (.ex y e) := rfl
def xsi1 (x : Option (XR Rf)) : Option (XR (List D)) := xb x fun r e1 => ((fzv r).bind seqX).bind fun xs => some (.ok xs e1)
theorem e_seqI : xSeqI a e = xsi1 (a e) := rfl
theorem e_si1 : xsi1 (some (.ok (.v (.lst xs)) e1)) = some (.ok xs e1) := rfl
theorem e_si1t : xsi1 (some (.ok (.v (.tup xs)) e1)) = some (.ok xs e1) := rfl
theorem e_si1e : xsi1 (some (.er y e1)) = some (.er y e1) := rfl
def xen1 (x : Option (XR Rf)) : Option (XR (List D)) := xb x fun r e1 => ((fzv r).bind seqX).bind fun xs => some (.ok (enumD xs) e1)
theorem e_enum : xEnum a e = xen1 (a e) := rfl
theorem e_en1 : xen1 (some (.ok (.v (.lst xs)) e1)) = some (.ok (enumD xs) e1) := rfl
theorem e_en1t : xen1 (some (.ok (.v (.tup xs)) e1)) = some (.ok (enumD xs) e1) := rfl
def xzi2 (r1 : Rf) (x : Option (XR Rf)) : Option (XR (List D)) := xb x fun r2 e2 => ((fzv r1).bind seqX).bind fun xs => ((fzv r2).bind seqX).bind fun ys => some (.ok (zipD xs ys) e2)
def xzi1 (b : XE) (x : Option (XR Rf)) : Option (XR (List D)) := xb x fun r1 e1 => xzi2 r1 (b e1)
theorem e_zip : xZip a b e = xzi1 b (a e) := rfl
theorem e_zi1 : xzi1 b (some (.ok r e1)) = xzi2 r (b e1) := rfl
theorem e_zi2 : xzi2 (.v v) (some (.ok (.v w) e2)) = (seqX v).bind fun xs => (seqX w).bind fun ys => some (.ok (zipD xs ys) e2) := rfl
theorem seq_l : seqX (.lst xs) = some xs := rfl
theorem seq_t : seqX (.tup xs) = some xs := rfl
def xra1 (x : Option (XR (List Rf))) : Option (XR (List D)) := xb x fun rs e1 => ((vsOf rs).bind rg1X).bind fun xs => some (.ok xs e1)
theorem e_range1 : xRange1 as e = xra1 (as e) := rfl
theorem e_ra1 {z : Int} (h : -(2 ^ 62) ≤ z ∧ z < 2 ^ 62) : xra1 (some (.ok [.v (.int z)] e1)) = some (.ok (rangeD 0 z.toNat) e1) := by
  show (((if _ then _ else none) : Option (List D)).bind _) = _
  rw [if_pos h]; rfl
def xrb1 (x : Option (XR (List Rf))) : Option (XR (List D)) := xb x fun rs e1 => ((vsOf rs).bind rg2X).bind fun xs => some (.ok xs e1)
theorem e_range2 : xRange2 as e = xrb1 (as e) := rfl
theorem e_rb1 {z u : Int} (h : -(2 ^ 62) ≤ z ∧ z < 2 ^ 62 ∧ -(2 ^ 62) ≤ u ∧ u < 2 ^ 62) : xrb1 (some (.ok [.v (.int z), .v (.int u)] e1)) = some (.ok (rangeD z (u - z).toNat) e1) := by
  show (((if _ then _ else none) : Option (List D)).bind _) = _
  rw [if_pos h]; rfl
end
end DL

/-! XS2: more rows by which simp runs a def. -/
namespace DL
open PySem PySem.Spec L2
section
variable {e e1 e2 e3 : XEnv} {a b c : XE} {t u : XT} {s s2 : XS} {as : XA} {d v w v1 v2 : D} {r r1 r2 : Rf} {rs : List Rf} {i j n o : Nat} {y : Exn} {g : D → D → Option D} {f : D → Option D} {vs xs ys : List D} {k : Bool} {gg : XG} {gs : XGs}
def xfz (o : Option D) (i : Nat) (e : XEnv) : Option (XR Rf) := o.bind fun v => match v with
  | .lst xs => some (.ok (.v (.lst xs)) (e.set i none))
  | .dK kvs => some (.ok (.v (.dK kvs)) (e.set i none))
  | _ => none
theorem e_frz : xFrz i e = xfz (gt e i) i e := by unfold xFrz xfz; rw [gt_eq]; try rfl
theorem e_fz : xfz (some (.lst xs)) i e = some (.ok (.v (.lst xs)) (e.set i none)) := rfl
theorem e_fzk {kvs : List (Key × D)} : xfz (some (.dK kvs)) i e = some (.ok (.v (.dK kvs)) (e.set i none)) := rfl
abbrev MX := List D → List D → Option (D × List D)
def xlm4 (p : Option (D × List D)) (o : Nat) (e : XEnv) : Option (XR Rf) := p.bind fun p => some (.ok (.v p.1) (e.set o (some (.lst p.2))))
def xlm3 (m : MX) (o : Nat) (vs : Option (List D)) (d : Option D) (e : XEnv) : Option (XR Rf) := vs.bind fun vs => (d.bind lsX).bind fun xs => xlm4 (m xs vs) o e
def xlm2 (m : MX) (o : Nat) (x : Option (XR (List Rf))) : Option (XR Rf) := xb x fun rs e1 => xlm3 m o (vsOf rs) (gt e1 o) e1
def xlm1 (m : MX) (o : Nat) (as : XA) (d : Option D) (e : XEnv) : Option (XR Rf) := (d.bind lsX).bind fun _ => xlm2 m o (as e)
variable {m : MX}
theorem e_lm : xLM m o as e = xlm1 m o as (gt e o) e := by
  unfold xLM xlm1 xlm2 xlm3 xlm4
  rw [gt_eq]
  simp only [gt_eq]
theorem e_lm1 : xlm1 m o as (some (.lst xs)) e = xlm2 m o (as e) := rfl
theorem e_lm2 : xlm2 m o (some (.ok rs e1)) = xlm3 m o (vsOf rs) (gt e1 o) e1 := rfl
theorem e_lm2e : xlm2 m o (some (.er y e1)) = some (.er y e1) := rfl
theorem e_lm3 : xlm3 m o (some vs) (some (.lst xs)) e = xlm4 (m xs vs) o e := rfl
theorem e_lm4 : xlm4 (some (d, xs)) o e = some (.ok (.v d) (e.set o (some (.lst xs)))) := rfl
theorem m_app (h : xs.length ≤ 1000000) : appendX xs [d] = some (.non, xs ++ [d]) := if_pos h
theorem m_rev : reverseX xs [] = some (.non, xs.reverse) := rfl
theorem m_clr : clearX xs [] = some (.non, []) := rfl
theorem m_ext (h : xs.length + ys.length ≤ 1000000) : extendX xs [.lst ys] = some (.non, xs ++ ys) := if_pos h
theorem m_pop0 : popX (xs ++ [d]) [] = some (d, xs) := by
  show ((xs ++ [d])[(xs ++ [d]).length - 1]?).map _ = _
  simp
theorem ixN_n {n k : Nat} (h : k < n) : ixN n (k : Int) = some k := by
  unfold ixN
  rw [if_pos (by omega), if_pos (by omega)]
  simp
theorem m_popi {k : Nat} (h : k < xs.length) : popX xs [.int (k : Int)] = some (xs[k], xs.eraseIdx k) := by
  show (ixN xs.length (k : Int)).bind _ = _
  rw [ixN_n h]
  show (xs[k]?).map _ = _
  rw [List.getElem?_eq_getElem h]; rfl
/-! items, fields -/
def xsi4 (c' : Option D) (o : Nat) (e : XEnv) : Option XO := c'.bind fun c' => some (.nx (e.set o (some c')))
def xsi3 (o : Nat) (w k c : Option D) (e : XEnv) : Option XO := w.bind fun w => k.bind fun k => c.bind fun c => xsi4 (setX c k w) o e
def xsi2 (o : Nat) (rv : Rf) (x : Option (XR Rf)) : Option XO := xo x fun ri e2 => xsi3 o (fzv rv) (fzv ri) (gt e2 o) e2
def xsi0 (o : Nat) (i : XE) (rv : Rf) (c : Option D) (e : XEnv) : Option XO := c.bind fun _ => xsi2 o rv (i e)
def xsiA (o : Nat) (i : XE) (x : Option (XR Rf)) : Option XO := xo x fun rv e1 => xsi0 o i rv (gt e1 o) e1
theorem e_setI : xSetI o a b e = xsiA o a (b e) := by
  unfold xSetI xsiA xsi0 xsi2 xsi3 xsi4
  simp only [gt_eq]
theorem e_siA : xsiA o a (some (.ok r e1)) = xsi0 o a r (gt e1 o) e1 := rfl
theorem e_siAe : xsiA o a (some (.er y e1)) = some (.ex y e1) := rfl
theorem e_si0 : xsi0 o a r (some d) e = xsi2 o r (a e) := rfl
theorem e_si2 : xsi2 o r (some (.ok r2 e2)) = xsi3 o (fzv r) (fzv r2) (gt e2 o) e2 := rfl
theorem e_si3 : xsi3 o (some w) (some v) (some d) e = xsi4 (setX d v w) o e := rfl
theorem e_si4 : xsi4 (some d) o e = some (.nx (e.set o (some d))) := rfl
theorem fzv_v : fzv (.v d) = some d := rfl
theorem set_l {k : Nat} (h : k < xs.length) : setX (.lst xs) (.int (k : Int)) v = some (.lst (xs.set k v)) := by
  show (ixN xs.length (k : Int)).map _ = _
  rw [ixN_n h]; rfl
theorem set_k {kvs : List (Key × D)} {z : Int} (h : kvs.length ≤ 1000000) : setX (.dK kvs) (.int z) v = some (.dK (putD kvs (.inl z) v)) := if_pos h
theorem set_ks {kvs : List (Key × D)} {z : Str} (h : kvs.length ≤ 1000000) : setX (.dK kvs) (.str z) v = some (.dK (putD kvs (.inr z) v)) := if_pos h
def xsf2 (n o : Nat) (w c : Option D) (e : XEnv) : Option XO := w.bind fun w => c.bind fun c => match c with
  | .ins k fs => if fs.length ≤ 900 then some (.nx (e.set o (some (.ins k (put fs n w))))) else none
  | _ => none
def xsf1 (n o : Nat) (x : Option (XR Rf)) : Option XO := xo x fun rv e1 => xsf2 n o (fzv rv) (gt e1 o) e1
theorem e_setF : xSetF n o a e = xsf1 n o (a e) := by
  unfold xSetF xsf1 xsf2
  simp only [gt_eq]
  try rfl
theorem e_sf1 : xsf1 n o (some (.ok r e1)) = xsf2 n o (fzv r) (gt e1 o) e1 := rfl
theorem e_sf1e : xsf1 n o (some (.er y e1)) = some (.ex y e1) := rfl
theorem e_sf2 {k : Nat} {fs : List (Nat × D)} (h : fs.length ≤ 900) : xsf2 n o (some w) (some (.ins k fs)) e = some (.nx (e.set o (some (.ins k (put fs n w))))) := if_pos h
theorem put_0 : put [] n d = [(n, d)] := rfl
theorem put_c {fs : List (Nat × D)} {k : Nat} : put ((k, v) :: fs) n d = if k = n then (k, d) :: fs else (k, v) :: put fs n d := by
  show (match Nat.beq k n with
    | true => (k, d) :: fs
    | false => (k, v) :: put fs n d) = _
  by_cases h : k = n
  · subst h; rw [Nat.beq_refl, if_pos rfl]
  · rw [if_neg h, show Nat.beq k n = false from by cases q : Nat.beq k n with
      | false => rfl
      | true => exact absurd (Nat.eq_of_beq_eq_true q) h]
theorem lk_0 : lk [] n = none := rfl
theorem lk_c {fs : List (Nat × D)} {k : Nat} : lk ((k, v) :: fs) n = if k = n then some v else lk fs n := by
  show (match Nat.beq k n with
    | true => some v
    | false => lk fs n) = _
  by_cases h : k = n
  · subst h; rw [Nat.beq_refl, if_pos rfl]
  · rw [if_neg h, show Nat.beq k n = false from by cases q : Nat.beq k n with
      | false => rfl
      | true => exact absurd (Nat.eq_of_beq_eq_true q) h]
theorem u_fld {fs : List (Nat × D)} {k : Nat} : fldX n (.ins k fs) = lk fs n := rfl
theorem u_isN {h : Bool → Bool} : isNX h .non = some (.bl (h true)) := rfl
theorem u_isN_i {h : Bool → Bool} {z : Int} : isNX h (.int z) = some (.bl (h false)) := rfl
theorem u_isN_s {h : Bool → Bool} {z : Str} : isNX h (.str z) = some (.bl (h false)) := rfl
theorem u_isN_t {h : Bool → Bool} : isNX h (.tup xs) = some (.bl (h false)) := rfl
theorem u_isN_l {h : Bool → Bool} : isNX h (.lst xs) = some (.bl (h false)) := rfl
theorem u_isN_o {h : Bool → Bool} {fs : List (Nat × D)} {k : Nat} : isNX h (.ins k fs) = some (.bl (h false)) := rfl
theorem u_neg {z : Int} : negD (.int z) = some (.int (-z)) := rfl
/-! builtins -/
def xB2 (f : List D → Option D) (o : Option (List D)) (e : XEnv) : Option (XR Rf) := xr1 (o.bind f) e
def xB1 (f : List D → Option D) (x : Option (XR (List Rf))) : Option (XR Rf) := xb x fun rs e1 => xB2 f (drfs e1 rs) e1
variable {bf : List D → Option D}
theorem e_B : xB bf as e = xB1 bf (as e) := rfl
theorem e_B1 : xB1 bf (some (.ok rs e1)) = xB2 bf (drfs e1 rs) e1 := rfl
theorem e_B1e : xB1 bf (some (.er y e1)) = some (.er y e1) := rfl
theorem e_B2 : xB2 bf (some vs) e = xr1 (bf vs) e := rfl
theorem ds_0 : drfs e [] = some [] := rfl
theorem ds_v : drfs e (.v d :: rs) = co d (drfs e rs) := rfl
def cs (o : Option D) (r : Option (List D)) : Option (List D) := o.bind fun d => r.map (d :: ·)
theorem ds_s : drfs e (.s i :: rs) = cs (gt e i) (drfs e rs) := by
  show (drf e (.s i)).bind _ = _
  rw [drf_s]; rfl
theorem cs_s {q : Option (List D)} : cs (some d) q = co d q := rfl
theorem b_lenl : lenX [.lst xs] = some (.int xs.length) := rfl
theorem b_lent : lenX [.tup xs] = some (.int xs.length) := rfl
theorem b_lenk {kvs : List (Key × D)} : lenX [.dK kvs] = some (.int kvs.length) := rfl
theorem b_lens {z : Str} (h : z.length ≤ 1000000) : lenX [.str z] = some (.int z.length) := if_pos h
theorem b_abs1 {z : Int} : absX [.int z] = some (.int (if z < 0 then -z else z)) := rfl
theorem b_max2 {z u : Int} : maxX [.int z, .int u] = some (.int (if u > z then u else z)) := rfl
theorem b_min2 {z u : Int} : minX [.int z, .int u] = some (.int (if u < z then u else z)) := rfl
theorem b_int1 {z : Int} : intX [.int z] = some (.int z) := rfl
theorem b_intb : intX [.bl k] = some (.int (if k then 1 else 0)) := rfl
theorem b_tupl : tupleX [.lst xs] = some (.tup xs) := rfl
theorem b_tupt : tupleX [.tup xs] = some (.tup xs) := rfl
theorem b_lisl : listX [.lst xs] = some (.lst xs) := rfl
theorem b_list' : listX [.tup xs] = some (.lst xs) := rfl
def xlr1 (x : Option (XR Rf)) : Option (XR Rf) := xb x fun r e1 => ((drf e1 r).bind rgV1).bind fun xs => some (.ok (.v (.lst xs)) e1)
theorem e_lr : xLstRg1 a e = xlr1 (a e) := rfl
theorem e_lr1 {z : Int} (h : -(2 ^ 62) ≤ z ∧ z ≤ 16777216) : xlr1 (some (.ok (.v (.int z)) e1)) = some (.ok (.v (.lst (rangeD 0 z.toNat))) e1) := by
  show ((rgL 0 z).bind _) = _
  unfold rgL
  rw [if_pos (by omega), Int.sub_zero]; rfl
/-! operators -/
theorem o_addi {z u : Int} : addX (.int z) (.int u) = some (.int (z + u)) := rfl
theorem o_addl (h : xs.length + ys.length ≤ 1000000) : addX (.lst xs) (.lst ys) = some (.lst (xs ++ ys)) := if_pos h
theorem o_catl (h : xs.length + ys.length ≤ 1000000) : catX (.lst xs) (.lst ys) = some (.lst (xs ++ ys)) := if_pos h
theorem o_subi {z u : Int} : subX (.int z) (.int u) = some (.int (z - u)) := rfl
theorem o_muli {z u : Int} (h : -(2 ^ 64) < u ∧ u < 2 ^ 64) : mulX (.int z) (.int u) = some (.int (z * u)) := if_pos (.inr (.inl h))
theorem o_mulil {z u : Int} (h : -(2 ^ 64) < z ∧ z < 2 ^ 64) : mulX (.int z) (.int u) = some (.int (z * u)) := if_pos (.inl h)
theorem o_divi {z u : Int} (h : 0 < u ∧ u.natAbs.log2 < 9000) : divX (.int z) (.int u) = some (.int (z / u)) := if_pos h
theorem o_modi {z u : Int} (h : 0 < u) : modX (.int z) (.int u) = some (.int (z % u)) := if_pos h
theorem o_lti {z u : Int} : ltX (.int z) (.int u) = some (.bl (decide (z < u))) := rfl
theorem o_lei {z u : Int} : leX (.int z) (.int u) = some (.bl (decide (z ≤ u))) := rfl
theorem o_gti {z u : Int} : gtX (.int z) (.int u) = some (.bl (decide (u < z))) := rfl
theorem o_gei {z u : Int} : geX (.int z) (.int u) = some (.bl (decide (u ≤ z))) := rfl
variable {S : ETab} {h : Bool → Bool}
theorem o_eqi {z u : Int} : eqX S (n + 1) h (.int z) (.int u) = some (.bl (h (z == u))) := rfl
theorem o_eqn : eqX S (n + 1) h .non .non = some (.bl (h true)) := rfl
theorem o_eql0 : eqX S (n + 1) h (.lst xs) (.lst []) = some (.bl (h xs.isEmpty)) := by cases xs <;> rfl
theorem ix_l {z : Int} : ixX (.lst xs) (.int z) = atI xs z := rfl
theorem ix_t {z : Int} : ixX (.tup xs) (.int z) = atI xs z := rfl
theorem ix_k {kvs : List (Key × D)} {z : Int} : ixX (.dK kvs) (.int z) = vD kvs (.inl z) := rfl
theorem at_n {k : Nat} (q : xs[k]? = some d) : atI xs (k : Int) = some d := by
  obtain ⟨h1, _⟩ := List.getElem?_eq_some_iff.mp q
  unfold atI; rw [ixN_n h1]; exact q
theorem at_0 : atI (d :: xs) 0 = some d := at_n (k := 0) rfl
theorem at_1 : atI (v :: d :: xs) 1 = some d := at_n (k := 1) rfl
theorem at_2 : atI (v :: w :: d :: xs) 2 = some d := at_n (k := 2) rfl
theorem at_3 : atI (v :: w :: v1 :: d :: xs) 3 = some d := at_n (k := 3) rfl
/-! slices -/
variable {ol oh : XOi} {lo hi : Option Int}
def xsl3 (r : Rf) (lo : Option Int) (x : Option (XR (Option Int))) : Option (XR Rf) := xb x fun hi e3 => (drf e3 r).bind fun v => xr1 (slX v lo hi) e3
def xsl2 (oh : XOi) (r : Rf) (x : Option (XR (Option Int))) : Option (XR Rf) := xb x fun lo e2 => xsl3 r lo (oh e2)
def xsl1 (ol oh : XOi) (x : Option (XR Rf)) : Option (XR Rf) := xb x fun r e1 => xsl2 oh r (ol e1)
def xsl4 (lo hi : Option Int) (o : Option D) (e : XEnv) : Option (XR Rf) := o.bind fun v => xr1 (slX v lo hi) e
theorem e_sl : xSl a ol oh e = xsl1 ol oh (a e) := rfl
theorem e_sl1 : xsl1 ol oh (some (.ok r e1)) = xsl2 oh r (ol e1) := rfl
theorem e_sl2 : xsl2 oh r (some (.ok lo e2)) = xsl3 r lo (oh e2) := rfl
theorem e_sl3 : xsl3 r lo (some (.ok hi e3)) = xsl4 lo hi (drf e3 r) e3 := rfl
theorem e_sl4 : xsl4 lo hi (some v) e = xr1 (slX v lo hi) e := rfl
theorem sl_l : slX (.lst xs) lo hi = some (.lst (DL.cutD xs lo hi)) := rfl
theorem sl_t : slX (.tup xs) lo hi = some (.tup (DL.cutD xs lo hi)) := rfl
theorem e_nop : xNoPart e = some (.ok none e) := rfl
def xpt1 (x : Option (XR Rf)) : Option (XR (Option Int)) := xb x fun r e1 => ((drf e1 r).bind intD).bind fun i => some (.ok (some i) e1)
theorem e_pt : xPart a e = xpt1 (a e) := rfl
theorem e_pt1 {z : Int} : xpt1 (some (.ok (.v (.int z)) e1)) = some (.ok (some z) e1) := rfl
/-! comprehensions -/
variable {it : XIf} {ws : List Nat} {ff : List D → List D}
def xlc1 (g : XG) (t : XT) (x : XE) (vs : List Nat) (z : Option (XR (List D))) : Option (XR Rf) := xb z fun xs e1 => if xs.length ≤ 1000000 then xLcB e1 vs (xLcL g t x vs xs [] (wipeD e1 vs)) else none
theorem e_lc : xLc it gg t a ws e = xlc1 gg t a ws (it e) := rfl
theorem e_lc1 (h : xs.length ≤ 1000000) : xlc1 gg t a ws (some (.ok xs e1)) = xLcB e1 ws (xLcL gg t a ws xs [] (wipeD e1 ws)) := if_pos h
def xlcs (ff : List D → List D) (g : XG) (t : XT) (x : XE) (vs : List Nat) (o : Option D) (e : XEnv) : Option (XR Rf) := (o.bind seqX).bind fun xs => if (ff xs).length ≤ 1000000 then xLcB e vs (xLcL g t x vs (ff xs) [] (wipeD e vs)) else none
theorem e_lcS : xLcS i ff gg t a ws e = xlcs ff gg t a ws (gt e i) e := by unfold xLcS xlcs; rw [gt_eq]
theorem e_lcS1 (h : (ff xs).length ≤ 1000000) : xlcs ff gg t a ws (some (.lst xs)) e = xLcB e ws (xLcL gg t a ws (ff xs) [] (wipeD e ws)) := if_pos h
theorem e_lcS1t (h : (ff xs).length ≤ 1000000) : xlcs ff gg t a ws (some (.tup xs)) e = xLcB e ws (xLcL gg t a ws (ff xs) [] (wipeD e ws)) := if_pos h
theorem e_lcB {e0 : XEnv} : xLcB e0 ws (some (.ok xs e)) = some (.ok (.v (.lst xs)) (rst e0 e ws)) := rfl
theorem w_0 : wipeD e [] = e := rfl
theorem w_1 : wipeD e (i :: ws) = (wipeD e ws).set i none := rfl
theorem r_0 {e0 : XEnv} : rst e0 e [] = e := rfl
theorem r_1 {e0 : XEnv} : rst e0 e (i :: ws) = (rst e0 e ws).set i (gt e0 i) := by rw [← gt_eq]; rfl
/-- a comprehension that changes nothing -/
theorem lc_map_x (h : D → D) (e0 : XEnv) : ∀ (xs acc : List D), (∀ x ∈ xs, ∃ e1, (∀ y, (gg x e0).bind (fun e1 => t e1) = some (.ok y e1) → True) ∧ gg x e0 = some e1 ∧ t e1 = some (.ok true e1) ∧ ∃ e2, a e1 = some (.ok (.v (h x)) e2) ∧ wipeD e2 ws = e0) → xLcL gg t a ws xs acc e0 = some (.ok (acc ++ xs.map h) e0)
  | [], acc, _ => by simp [xLcL]
  | x :: r, acc, s => by
    obtain ⟨e1, _, h1, h2, e2, h3, h4⟩ := s x (List.mem_cons_self ..)
    unfold xLcL
    rw [h1]
    simp only [Option.bind, h2, if_true, h3, h4]
    rw [lc_map_x h e0 r _ fun y hy => s y (List.mem_cons_of_mem _ hy)]
    simp
theorem lc_m (h : D → D) {e0 : XEnv} {xs : List D} (s : ∀ x ∈ xs, ∃ e1, gg x e0 = some e1 ∧ ∃ e2, a e1 = some (.ok (.v (h x)) e2) ∧ wipeD e2 ws = e0) : xLcL gg xYes a ws xs [] e0 = some (.ok (xs.map h) e0) := by
  have := lc_map_x (gg := gg) (t := xYes) (a := a) (ws := ws) h e0 xs [] fun x hx => by
    obtain ⟨e1, h1, h2⟩ := s x hx
    exact ⟨e1, fun _ _ => trivial, h1, rfl, h2⟩
  rw [this]; rfl
/-! dicts, errors -/
theorem e_dnew : xDNew e = some (.ok (.v (.dK [])) e) := rfl
def xra2 (c : Nat) (ns : List Nat) (o : Option (List D)) (e : XEnv) : Option XO := o.bind fun vs => if vs.length = ns.length then some (.ex (c, errF ns vs []) e) else none
def xraA (c : Nat) (ns : List Nat) (x : Option (XR (List Rf))) : Option XO := xo x fun rs e1 => xra2 c ns (vsOf rs) e1
variable {ns : List Nat} {q : Nat → Option Bool} {hs : Nat → XS} {fs : List (Nat × D)}
theorem e_raise : xRaise n ns as e = xraA n ns (as e) := rfl
theorem e_raA : xraA n ns (some (.ok rs e1)) = xra2 n ns (vsOf rs) e1 := rfl
theorem e_ra2 (h : vs.length = ns.length) : xra2 n ns (some vs) e = some (.ex (n, errF ns vs []) e) := if_pos h
def xty1 (q : Nat → Option Bool) (i : Nat) (s : Nat → XS) (x : Option XO) : Option XO := match x with
  | some (.ex y e1) => (q y.1).bind fun k => if k = true then (match s y.1 (e1.set i (some (.exn 0 none y.1 y.2))) with
    | some (.nx e2) => some (.nx (e2.set i none))
    | some (.bk e2) => some (.bk (e2.set i none))
    | some (.ct e2) => some (.ct (e2.set i none))
    | some (.rt d e2) => some (.rt d e2)
    | _ => none) else some (.ex y e1)
  | o => o
def xty3 (i : Nat) (x : Option XO) : Option XO := match x with
    | some (.nx e2) => some (.nx (e2.set i none))
    | some (.bk e2) => some (.bk (e2.set i none))
    | some (.ct e2) => some (.ct (e2.set i none))
    | some (.rt d e2) => some (.rt d e2)
    | _ => none
def xty2 (o : Option Bool) (i : Nat) (s : Nat → XS) (y : Exn) (e1 : XEnv) : Option XO := o.bind fun k => if k = true then xty3 i (s y.1 (e1.set i (some (.exn 0 none y.1 y.2)))) else some (.ex y e1)
theorem e_try : xTry q i s hs e = xty1 q i hs (s e) := rfl
theorem e_ty_nx : xty1 q i hs (some (.nx e)) = some (.nx e) := rfl
theorem e_ty_rt : xty1 q i hs (some (.rt d e)) = some (.rt d e) := rfl
theorem e_ty_bk : xty1 q i hs (some (.bk e)) = some (.bk e) := rfl
theorem e_ty_ct : xty1 q i hs (some (.ct e)) = some (.ct e) := rfl
theorem e_ty_ex : xty1 q i hs (some (.ex (n, fs) e)) = xty2 (q n) i hs (n, fs) e := rfl
theorem e_ty2 : xty2 (some true) i hs (n, fs) e = xty3 i (hs n (e.set i (some (.exn 0 none n fs)))) := rfl
theorem e_ty2f : xty2 (some false) i hs (n, fs) e = some (.ex (n, fs) e) := rfl
theorem e_ty3n : xty3 i (some (.nx e)) = some (.nx (e.set i none)) := rfl
theorem e_ty3r : xty3 i (some (.rt d e)) = some (.rt d e) := rfl
theorem e_ty3b : xty3 i (some (.bk e)) = some (.bk (e.set i none)) := rfl
theorem e_ty3c : xty3 i (some (.ct e)) = some (.ct (e.set i none)) := rfl
def xxf1 (n : Nat) (o : Option D) (e : XEnv) : Option (XR Rf) := o.bind fun v => match v with
  | .exn _ _ _ fs => xr1 (lk fs n) e
  | _ => none
theorem e_xf : xXf i n e = xxf1 n (gt e i) e := by unfold xXf xxf1; rw [gt_eq]; try rfl
theorem e_xf1 {ad : Addr} {dd : Option Addr} {k : Nat} : xxf1 n (some (.exn ad dd k fs)) e = xr1 (lk fs n) e := rfl
def xix1 (c : Nat) (q : Nat → Option Bool) (o : Option D) (e : XEnv) : Option (XR Rf) := o.bind fun v => match v with
  | .exn _ _ _ fs => if fs.isEmpty = false then (q c).bind fun b => some (.ok (.v (.bl b)) e) else none
  | _ => none
theorem e_isX {k : Nat} : xIsX i k q e = xix1 k q (gt e i) e := by unfold xIsX xix1; rw [gt_eq]; try rfl
def xix2 (o : Option Bool) (e : XEnv) : Option (XR Rf) := o.bind fun b => some (.ok (.v (.bl b)) e)
theorem e_ix1 {ad : Addr} {dd : Option Addr} {k k' : Nat} {f0 : Nat × D} : xix1 k q (some (.exn ad dd k' (f0 :: fs))) e = xix2 (q k) e := rfl
theorem e_ix2 : xix2 (some k) e = some (.ok (.v (.bl k)) e) := rfl
theorem ef_0 {acc : List (Nat × D)} : errF [] vs acc = acc := rfl
theorem ef_1 {acc : List (Nat × D)} : errF (n :: ns) (d :: vs) acc = errF ns vs ((n, d) :: acc) := rfl
theorem e_pick {is : List Nat} : xPick n is as e = xb (as e) fun rs e1 => if rs.length = n then some (.ok (pick is rs) e1) else none := rfl
theorem e_isi {qq : Ty → Option Bool} {k : Nat} {fs : List (Nat × D)} : isiX qq (.ins k fs) = (qq (.o k)).map .bl := rfl
end
end DL

/-! XL9: methods that only read, run. -/
namespace DL
open PySem PySem.Spec L2
def PtX (r : D → List D → Option D) (rD : DPt) : Prop := ∀ v vs w d ds μ (Q : DQ), r v vs = some w → RV μ d v → RVs μ ds vs → Q w μ → rD d ds μ Q
def xPL (r : D → List D → Option D) (a : XE) (as : XA) : XE := fun e => xb (a e) fun rf e1 => ((drf e1 rf).bind lsX).bind fun _ => xb (as e1) fun rs e2 => (drf e2 rf).bind fun v => (drfs e2 rs).bind fun vs => xr1 (r v vs) e2
section
variable {sl : Sl} {x y : XE} {m ma mb : DM} {as : XA} {mas : DA}
theorem s_pl {r : D → List D → Option D} {rD : DPt} (hr : PtX r rD) (ho : SndE sl x m) (ha : SndA sl as mas) : SndE sl (xPL r x as) (dPL rD m mas) := fun fm env e μ hE Q E q => by
  refine (show m env μ _ E from ho fm env e μ hE _ _ (PX.mono (PX.bind q) (fun rf e1 q1 d μ1 k1 hE1 => ?_) fun _ _ k => k))
  obtain ⟨xs, z1, q1⟩ := PX.opt q1
  obtain ⟨v, z2, z3⟩ := Option.bind_eq_some_iff.mp z1
  rw [lsX_of z3] at z2
  refine ⟨⟨xs, (drf_rv k1 hE1 z2).getL⟩, ha fm env e1 μ1 hE1 _ _ (PX.mono (PX.bind q1) (fun rs e2 q2 ds μ2 ks hE2 => ?_) fun _ _ k => k)⟩
  obtain ⟨w, z4, q2⟩ := PX.opt q2
  obtain ⟨vs, z5, q2⟩ := PX.opt q2
  obtain ⟨u, z6, q2⟩ := PX.opt q2
  exact hr w vs u d ds μ2 Q z6 (drf_rv k1 hE2 z4) (drfs_rv hE2 ks z5) (q2 u μ2 rfl hE2)
end
def countX (v : D) (vs : List D) : Option D := match vs with
  | [.bl b] => ((lsX v).bind boolsD).map fun bs => .int (bs.count b : Nat)
  | _ => none
theorem px_count : PtX countX lpCount := fun v vs w d ds μ Q q r rs hq => by
  unfold countX at q
  split at q
  · obtain ⟨bs, z1, rfl⟩ := Option.map_eq_some_iff.mp q
    obtain ⟨xs, z2, z3⟩ := Option.bind_eq_some_iff.mp z1
    rw [lsX_of z2] at r
    obtain ⟨z, rfl, s⟩ := rs.one
    rw [s.bl]
    refine I_onS2 (v := bs) ?_ hq
    rw [r.getL]; exact z3
  · cases q
section
variable {e e1 e2 : XEnv} {a : XE} {as : XA} {d v : D} {r r1 : Rf} {rs : List Rf} {y : Exn} {g : D → List D → Option D} {vs xs : List D}
def xpl3 (g : D → List D → Option D) (o : Option D) (vs : Option (List D)) (e : XEnv) : Option (XR Rf) := o.bind fun v => vs.bind fun vs => xr1 (g v vs) e
def xpl2 (g : D → List D → Option D) (rf : Rf) (x : Option (XR (List Rf))) : Option (XR Rf) := xb x fun rs e2 => xpl3 g (drf e2 rf) (drfs e2 rs) e2
def xplc (g : D → List D → Option D) (rf : Rf) (as : XA) (o : Option D) (e : XEnv) : Option (XR Rf) := (o.bind lsX).bind fun _ => xpl2 g rf (as e)
def xpl1 (g : D → List D → Option D) (as : XA) (x : Option (XR Rf)) : Option (XR Rf) := xb x fun rf e1 => xplc g rf as (drf e1 rf) e1
theorem e_pl : xPL g a as e = xpl1 g as (a e) := rfl
theorem e_pl1 : xpl1 g as (some (.ok r e1)) = xplc g r as (drf e1 r) e1 := rfl
theorem e_plc : xplc g r as (some (.lst xs)) e = xpl2 g r (as e) := rfl
theorem e_pl2 : xpl2 g r (some (.ok rs e2)) = xpl3 g (drf e2 r) (drfs e2 rs) e2 := rfl
theorem e_pl3 : xpl3 g (some v) (some vs) e = xr1 (g v vs) e := rfl
end
end DL

/-! XM: loops of a run, by what holds between two turns; a few rows more. -/
namespace DL
open PySem PySem.Spec L2
section
variable {g : XG} {b : XS} {t : XT}
theorem for_inv (I : List D → XEnv → Prop) (Post : XO → Prop) (step : ∀ x r e, I (x :: r) e → ∃ e1, g x e = some e1 ∧ ∃ o, b e1 = some o ∧ match o with
    | .nx e2 => I r e2
    | .ct e2 => I r e2
    | .bk e2 => Post (.nx e2)
    | o => Post o) (done : ∀ e, I [] e → Post (.nx e)) : ∀ xs e, I xs e → ∃ o, xForL g b xs e = some o ∧ Post o
  | [], e, h => ⟨_, rfl, done e h⟩
  | x :: r, e, h => by
    obtain ⟨e1, h1, o, h2, h3⟩ := step x r e h
    rw [fl_c, h1, fl_1, h2]
    cases o with
    | nx e2 => exact for_inv I Post step done r e2 h3
    | ct e2 => exact for_inv I Post step done r e2 h3
    | bk e2 => exact ⟨_, rfl, h3⟩
    | rt d e2 => exact ⟨_, rfl, h3⟩
    | ex y e2 => exact ⟨_, rfl, h3⟩
/-- every turn falls through -/
theorem for_nx (I : List D → XEnv → Prop) (step : ∀ x r e, I (x :: r) e → ∃ e1, g x e = some e1 ∧ ∃ e2, b e1 = some (.nx e2) ∧ I r e2) (xs : List D) (e : XEnv) (h : I xs e) : ∃ e', xForL g b xs e = some (.nx e') ∧ I [] e' := by
  obtain ⟨o, h1, e', rfl, h2⟩ := for_inv (g := g) (b := b) I (fun o => ∃ e', o = .nx e' ∧ I [] e') (fun x r e h => by
    obtain ⟨e1, h1, e2, h2, h3⟩ := step x r e h
    exact ⟨e1, h1, _, h2, h3⟩) (fun e h => ⟨e, rfl, h⟩) xs e h
  exact ⟨e', h1, h2⟩
theorem wh_inv (I : Nat → XEnv → Prop) (Post : XEnv → Prop) (step : ∀ m e, I m e → ∃ c e1, t e = some (.ok c e1) ∧ (c = true → ∃ e2, b e1 = some (.nx e2) ∧ ∃ j, j < m ∧ I j e2) ∧ (c = false → Post e1)) {m : Nat} {e : XEnv} (hm : m < fuelX) (h : I m e) : ∃ e', xWhile t b e = some (.nx e') ∧ Post e' := by
  have go : ∀ n m e, m < n → I m e → ∃ e', xWhL t b n e = some (.nx e') ∧ Post e' := fun n => by
    induction n with
    | zero => intro m e h; exact absurd h (Nat.not_lt_zero m)
    | succ n ih =>
      intro m e hm hI
      obtain ⟨c, e1, h1, h2, h3⟩ := step m e hI
      unfold xWhL
      rw [h1]
      cases c with
      | true =>
        obtain ⟨e2, h4, j, h5, h6⟩ := h2 rfl
        show ∃ e', (if true = true then (match b e1 with
          | some (.nx e2) => xWhL t b n e2
          | some (.ct e2) => xWhL t b n e2
          | some (.bk e2) => some (.nx e2)
          | o => o) else some (.nx e1)) = _ ∧ _
        rw [if_pos rfl, h4]
        exact ih j e2 (by omega) h6
      | false => exact ⟨e1, rfl, h3 rfl⟩
  exact go fuelX m e hm h
end
section
variable {d v w u : D} {xs : List D}
theorem set_0 : setX (.lst (d :: xs)) (.int 0) v = some (.lst (v :: xs)) := set_l (k := 0) (by simp)
theorem set_1 : setX (.lst (d :: w :: xs)) (.int 1) v = some (.lst (d :: v :: xs)) := set_l (k := 1) (by simp)
theorem set_2 : setX (.lst (d :: w :: u :: xs)) (.int 2) v = some (.lst (d :: w :: v :: xs)) := set_l (k := 2) (by simp)
theorem o_divs {z u : Int} (h : 0 < u) (h2 : u < 4294967296) : divX (.int z) (.int u) = some (.int (z / u)) := by
  refine o_divi ⟨h, ?_⟩
  have : u.natAbs < 2 ^ 32 := by omega
  exact Nat.lt_trans ((Nat.log2_lt (by omega)).mpr this) (by decide)
theorem el_0 {n : Nat} : List.elem n [] = false := rfl
theorem el_c {n i : Nat} {l : List Nat} : List.elem n (i :: l) = (decide (n = i) || List.elem n l) := by
  show (match n == i with
    | true => true
    | false => List.elem n l) = _
  by_cases h : n = i
  · rw [beq_iff_eq.mpr h, decide_eq_true h]; rfl
  · rw [beq_eq_false_iff_ne.mpr h, decide_eq_false h]; rfl
section
variable {o : Option (List D)}
theorem nc_l : avb true (.lst xs) o = co (.lst xs) o := rfl
theorem nc_t : avb true (.tup xs) o = co (.tup xs) o := rfl
theorem nc_i {z : Int} : avb true (.int z) o = co (.int z) o := rfl
theorem nc_s {z : Str} : avb true (.str z) o = co (.str z) o := rfl
theorem nc_b {z : Bool} : avb true (.bl z) o = co (.bl z) o := rfl
theorem nc_n : avb true .non o = co .non o := rfl
theorem nc_k {z : List (Key × D)} : avb true (.dK z) o = co (.dK z) o := rfl
theorem nc_o {c : Nat} {z : List (Nat × D)} : avb true (.ins c z) o = co (.ins c z) o := rfl
end
theorem nos_d {o i : Nat} {rs : List Rf} : noS o (.s i :: rs) = (!(decide (i = o)) && noS o rs) := by
  show (!(Nat.beq i o) && noS o rs) = _
  congr 2
  by_cases h : i = o
  · subst h; rw [Nat.beq_refl, decide_eq_true rfl]
  · rw [decide_eq_false h]
    cases q : Nat.beq i o with
    | false => rfl
    | true => exact absurd (Nat.eq_of_beq_eq_true q) h
theorem br3_b {α : Type} {x y : Option α} {z u : Int} : br3 (z == u) x y = if z = u then x else y := by
  unfold br3; by_cases h : z = u <;> simp [h]
theorem enum_map {α : Type} (f : α → D) (l : List α) : enumD (l.map f) = (l.mapIdx fun i x => D.tup [.int i, f x]) := by
  unfold enumD
  apply List.ext_getElem?
  intro i
  rw [List.getElem?_mapIdx, List.getElem?_mapIdx, List.getElem?_map]
  cases l[i]? <;> rfl
theorem perm_map_inv {α β : Type} {f : α → β} {ys l : List β} (h : ys.Perm l) : ∀ xs : List α, l = xs.map f → ∃ zs : List α, zs.Perm xs ∧ ys = zs.map f := by
  induction h with
  | nil =>
    intro xs e
    cases xs with
    | nil => exact ⟨[], List.Perm.refl _, rfl⟩
    | cons _ _ => cases e
  | cons x _ ih =>
    intro xs e
    cases xs with
    | nil => cases e
    | cons a r =>
      injection e with e1 e2
      obtain ⟨zs, p, q⟩ := ih r e2
      exact ⟨a :: zs, p.cons a, by rw [q, e1]; rfl⟩
  | swap x y l =>
    intro xs e
    match xs, e with
    | a :: b :: r, e =>
      injection e with e1 e2
      injection e2 with e2 e3
      exact ⟨b :: a :: r, List.Perm.swap a b r, by rw [e1, e2, e3]; rfl⟩
  | trans _ _ ih1 ih2 =>
    intro xs e
    obtain ⟨zs, p, q⟩ := ih2 xs e
    obtain ⟨ws, p2, q2⟩ := ih1 zs q
    exact ⟨ws, p2.trans p, q2⟩
theorem perm_erase {α : Type} : ∀ (ls : List α) (n : Nat) (h : n < ls.length), (ls[n] :: ls.eraseIdx n).Perm ls
  | [], n, h => absurd h (Nat.not_lt_zero n)
  | x :: r, 0, _ => List.Perm.refl _
  | x :: r, n + 1, h => (List.Perm.swap x _ _).trans ((perm_erase r n (Nat.lt_of_succ_lt_succ h)).cons x)
theorem rangeD_map (n : Nat) : rangeD 0 n = (List.range n).map fun (i : Nat) => D.int (i : Int) := by simp [rangeD]
theorem toNat_of {r : Int} (h : 0 ≤ r) : ∃ n : Nat, r = n := ⟨r.toNat, by omega⟩
end
end DL

/-! XM2: rows for dict displays, `in` a dict. -/
namespace DL
open PySem PySem.Spec L2
section
variable {e e1 e2 e3 : XEnv} {a b k v : XE} {p : XPs} {y : Exn} {r r1 : Rf} {ps kvs : List (Key × D)} {z : Int} {t : Str} {d w : D} {ky : Key} {S : ETab} {n : Nat} {f : Bool → Bool} {xs ys : List D}
theorem kd_i : keyD (.int z) = some (.inl z) := rfl
theorem kd_s : keyD (.str t) = some (.inr t) := rfl
def xdi1 (x : Option (XR (List (Key × D)))) : Option (XR Rf) := xb x fun ps e1 => some (.ok (.v (.dK (mergeD [] ps))) e1)
theorem e_disp : xDisp p e = xdi1 (p e) := rfl
theorem e_di1 : xdi1 (some (.ok ps e1)) = some (.ok (.v (.dK (mergeD [] ps))) e1) := rfl
theorem e_di1e : xdi1 (some (.er y e1)) = some (.er y e1) := rfl
def xpp3 (ok : Option Key) (ow : Option D) (x : Option (XR (List (Key × D)))) : Option (XR (List (Key × D))) := ok.bind fun ky => ow.bind fun w => xb x fun ps e3 => some (.ok ((ky, w) :: ps) e3)
def xpp2 (rk : Rf) (r : XPs) (x : Option (XR Rf)) : Option (XR (List (Key × D))) := xb x fun rv e2 => xpp3 ((fzv rk).bind keyD) (fzv rv) (r e2)
def xpp1 (v : XE) (r : XPs) (x : Option (XR Rf)) : Option (XR (List (Key × D))) := xb x fun rk e1 => xpp2 rk r (v e1)
theorem e_ps0 : xPs0 e = some (.ok [] e) := rfl
theorem e_ps1 : xPs1 k v p e = xpp1 v p (k e) := rfl
theorem e_pp1 : xpp1 v p (some (.ok r e1)) = xpp2 r p (v e1) := rfl
theorem e_pp1e : xpp1 v p (some (.er y e1)) = some (.er y e1) := rfl
theorem e_pp2i : xpp2 (.v (.int z)) p (some (.ok (.v d) e2)) = xpp3 (some (.inl z)) (some d) (p e2) := rfl
theorem e_pp2s : xpp2 (.v (.str t)) p (some (.ok (.v d) e2)) = xpp3 (some (.inr t)) (some d) (p e2) := rfl
theorem e_pp2e : xpp2 r p (some (.er y e2)) = some (.er y e2) := rfl
theorem e_pp3 : xpp3 (some ky) (some d) (some (.ok ps e3)) = some (.ok ((ky, d) :: ps) e3) := rfl
theorem e_pp3e : xpp3 (some ky) (some d) (some (.er y e3)) = some (.er y e3) := rfl
theorem md_0 : mergeD kvs [] = kvs := rfl
theorem md_1 : mergeD [] [(ky, d)] = [(ky, d)] := rfl
theorem md_c : mergeD kvs ((ky, d) :: ps) = mergeD (putD kvs ky d) ps := rfl
theorem in_ki : inX S n f (.int z) (.dK kvs) = some (.bl (f (vD kvs (.inl z)).isSome)) := rfl
theorem in_ks : inX S n f (.str t) (.dK kvs) = some (.bl (f (vD kvs (.inr t)).isSome)) := rfl
theorem sm_t {α : Type} {x : α} : (some x).isSome = true := rfl
theorem sm_f {α : Type} : (none : Option α).isSome = false := rfl
theorem em_n {α : Type} : ([] : List α).isEmpty = true := rfl
theorem em_c {α : Type} {x : α} {l : List α} : (x :: l).isEmpty = false := rfl
theorem em_a {α : Type} {x : α} {l : List α} : (l ++ [x]).isEmpty = false := by cases l <;> rfl
theorem inL_i {l : List Int} : inL (eqD S (n + 1)) (.int z) (l.map D.int) = some (decide (z ∈ l)) := by
  induction l with
  | nil => rfl
  | cons y r ih =>
    rw [List.map_cons]
    unfold inL
    rw [show eqD S (n + 1) (.int y) (.int z) = some (y == z) from rfl, ih]
    by_cases h : y = z
    · subst h; simp
    · have h' : ¬ z = y := fun e => h e.symm
      rw [show (y == z) = false by simp [h]]
      simp [h']
theorem in_li {l : List Int} : inX S (n + 1) f (.int z) (.lst (l.map D.int)) = some (.bl (f (decide (z ∈ l)))) := by
  show ((inL (eqD S (n + 1)) (.int z) (l.map D.int)).map _) = _
  rw [inL_i]; rfl
theorem in_ti {l : List Int} : inX S (n + 1) f (.int z) (.tup (l.map D.int)) = some (.bl (f (decide (z ∈ l)))) := by
  show ((inL (eqD S (n + 1)) (.int z) (l.map D.int)).map _) = _
  rw [inL_i]; rfl
/-- [lo:hi] keeps what a list is made of -/
theorem cut_mapF {α : Type} (g : α → D) (l : List α) (lo hi : Option Int) : ∃ r : List α, cutD (l.map g) lo hi = r.map g ∧ r.length ≤ l.length ∧ ∀ x ∈ r, x ∈ l := by
  refine ⟨(l.drop (HT.sIx l.length 0 lo)).take (HT.sIx l.length l.length hi - HT.sIx l.length 0 lo), ?_, ?_, fun x hx => List.drop_subset _ _ (List.take_subset _ _ hx)⟩
  · unfold cutD
    rw [List.length_map, List.map_take, List.map_drop]
  · rw [List.length_take, List.length_drop]; omega
theorem cut_take (xs : List D) (i : Nat) (h : i ≤ xs.length) : cutD xs none (some (i : Int)) = xs.take i := by
  unfold cutD
  rw [HT.sIx_none, HT.sIx_nat, List.drop_zero, Nat.min_eq_left h, Nat.sub_zero]
theorem cut_drop (xs : List D) (i : Nat) (h : i ≤ xs.length) : cutD xs (some (i : Int)) none = xs.drop i := by
  unfold cutD
  rw [HT.sIx_none, HT.sIx_nat, Nat.min_eq_left h, List.take_of_length_le (by simp)]
end
/-- a comprehension with a test -/
theorem lc_f {gg : XG} {t : XT} {a : XE} {ws : List Nat} (h : D → Option D) {e0 : XEnv} : ∀ (xs acc : List D), (∀ x ∈ xs, ∃ e1, gg x e0 = some e1 ∧ ∃ b e2, t e1 = some (.ok b e2) ∧ (b = false → h x = none ∧ wipeD e2 ws = e0) ∧ (b = true → ∃ y e3, a e2 = some (.ok (.v y) e3) ∧ h x = some y ∧ wipeD e3 ws = e0)) → xLcL gg t a ws xs acc e0 = some (.ok (acc ++ xs.filterMap h) e0)
  | [], acc, _ => by simp [xLcL]
  | x :: r, acc, s => by
    obtain ⟨e1, h1, b, e2, h2, h3, h4⟩ := s x (List.mem_cons_self ..)
    unfold xLcL
    rw [h1]
    simp only [Option.bind_some, h2]
    cases b with
    | false =>
      obtain ⟨h5, h6⟩ := h3 rfl
      rw [if_neg (by decide), h6, lc_f h r acc fun y hy => s y (List.mem_cons_of_mem _ hy), List.filterMap_cons_none h5]
    | true =>
      obtain ⟨y, e3, h5, h6, h7⟩ := h4 rfl
      rw [if_pos rfl, h5]
      show xLcL gg t a ws r (acc ++ [y]) (wipeD e3 ws) = _
      rw [h7, lc_f h r _ fun y hy => s y (List.mem_cons_of_mem _ hy), List.filterMap_cons_some h6, List.append_assoc]
      rfl
end DL

/-! The mirrors of law k02 (printed by gen.py). -/
namespace HT
open PySem PySem.Spec PyProof.Rows L2 DL

abbrev nF : Nat := 10
def flds : List Str := ["a", "b", "length", "crossings", "roads", "ways", "what", "count", "crossing", "road"]
abbrev tb (cls exc : Nat → Addr) : Tab := ⟨cls, exc, fldOf flds, fldOf_inj (by decide +kernel)⟩
abbrev C_Road : Nat := 0
abbrev C_Tree : Nat := 1
abbrev X_TrainError : Nat := 0
abbrev X_BadCount : Nat := 1
abbrev X_NoCrossing : Nat := 2
abbrev X_RingRoad : Nat := 3
abbrev X_NoRoad : Nat := 4
abbrev X_OffRoad : Nat := 5
abbrev F_a : Nat := 0
abbrev F_b : Nat := 1
abbrev F_length : Nat := 2
abbrev F_crossings : Nat := 3
abbrev F_roads : Nat := 4
abbrev F_ways : Nat := 5
abbrev F_what : Nat := 6
abbrev F_count : Nat := 7
abbrev F_crossing : Nat := 8
abbrev F_road : Nat := 9
abbrev qo_Road : Ty → Option Bool := qOwn 2 0
abbrev qo_Tree : Ty → Option Bool := qOwn 2 1
abbrev qb_tuple : Ty → Option Bool := qBlt 2 "tuple"
abbrev qb_list : Ty → Option Bool := qBlt 2 "list"
abbrev qb_int : Ty → Option Bool := qBlt 2 "int"
abbrev qx_TrainError : Nat → Option Bool := qExc [true, true, true, true, true, true]
abbrev qx_BadCount : Nat → Option Bool := qExc [false, true, false, false, false, false]
abbrev qx_NoCrossing : Nat → Option Bool := qExc [false, false, true, false, false, false]
abbrev qx_RingRoad : Nat → Option Bool := qExc [false, false, false, true, false, false]
abbrev qx_NoRoad : Nat → Option Bool := qExc [false, false, false, false, true, false]
abbrev qx_OffRoad : Nat → Option Bool := qExc [false, false, false, false, false, true]
abbrev qx_ValueError : Nat → Option Bool := qExc [true, true, true, true, true, true]
abbrev qx_NoRoad_OffRoad : Nat → Option Bool := qExc [false, false, false, false, true, true]
abbrev S0 : ETab := fun _ => none
def m_Road_facts : DF := dDef 1 1
 ((dRet (dTup (dCons (dFld F_a (dVar 0)) (dCons (dFld F_b (dVar 0)) (dCons (dFld F_length (dVar 0)) dNil))))))
def m_Road___eq__ : DF := dDef 2 2
 ((dRet (dAndV (dIsi qo_Road (dVar 1)) (dOp (gEq S0 6) (dMeth C_Road m_Road_facts (dVar 0) dNil) (dMeth C_Road m_Road_facts (dVar 1) dNil)))))
abbrev q_Road : QF := qFld S0 5 [F_a, F_b, F_length]
def S1 : ETab := fun c => match c with
  | 0 => some q_Road
  | _ => none
def m_Tree_facts : DF := dDef 1 1
 ((dRet (dTup (dCons (dFld F_crossings (dVar 0)) (dCons (dFld F_roads (dVar 0)) dNil)))))
def m_Tree___eq__ : DF := dDef 2 2
 ((dRet (dAndV (dIsi qo_Tree (dVar 1)) (dOp (gEq S1 6) (dMeth C_Tree m_Tree_facts (dVar 0) dNil) (dMeth C_Tree m_Tree_facts (dVar 1) dNil)))))
abbrev q_Tree : QF := qFld S1 5 [F_crossings, F_roads]
def S2 : ETab := fun c => match c with
  | 0 => some q_Road
  | 1 => some q_Tree
  | _ => none
def m_Road___init__ : DF := dDef 4 4
 ((dSeq (dSetF F_a (dVar 0) (dVar 1))
 (dSeq (dSetF F_b (dVar 0) (dVar 2))
 (dSetF F_length (dVar 0) (dVar 3)))))
def m__law_draw : DF := dDef 2 4
 ((dSeq (dIfS (dTst (dOp gGe (dOp gIx (dVar 0) (dC (.int 0))) (dC (.int 1000000000000000000))))
 (dSeq (dAsg (dOp gMod (dOp gIx (dVar 0) (dC (.int 0))) (dVar 1)) (gdName 3))
 (dSeq (dSetI (dVar 0) (dC (.int 0)) (dOp gDiv (dOp gIx (dVar 0) (dC (.int 0))) (dVar 1)))
 (dRet (dVar 3))))
 dNext)
 (dSeq (dSetI (dVar 0) (dC (.int 2)) (dOp (gAdd false) (dOp gIx (dVar 0) (dC (.int 2))) (dC (.int 1))))
 (dSeq (dAsg (dOp gMod (dOp gMulI (dOp (gAdd false) (dOp (gAdd false) (dOp gIx (dVar 0) (dC (.int 1))) (dOp gMulI (dC (.int 7919)) (dOp gIx (dVar 0) (dC (.int 2))))) (dC (.int 1))) (dC (.int 48271))) (dC (.int 2147483647))) (gdName 2))
 (dSeq (dAsg (dOp gMod (dOp gMulI (dVar 2) (dOp (gAdd false) (dOp gDiv (dVar 2) (dC (.int 1013))) (dC (.int 69621)))) (dC (.int 2147483587))) (gdName 2))
 (dRet (dOp gMod (dOp gMod (dOp (gAdd false) (dOp gDiv (dVar 2) (dC (.int 7))) (dOp gMulI (dOp gMod (dVar 2) (dC (.int 7919))) (dC (.int 40692)))) (dC (.int 2147483399))) (dVar 1))))))))
def m__law_joined : DF := dDef 3 8
 ((dSeq (dAsg (dLst true (dCons (dVar 1) dNil)) (gdName 3))
 (dSeq (dAsg (dC (.int 0)) (gdName 4))
 (dSeq (dWhile (dTst (dOp gLt (dVar 4) (dB bLen (dCons (dVar 3) dNil))))
 (dSeq (dFor (dSeqI (dVar 0)) (gdTup 3 (gdCons (gdName 5) (gdCons (gdName 6) (gdCons (gdName 7) gdNil))))
 (dSeq (dIfS (dAnd (dTst (dOp (gEq S2 6) (dVar 5) (dOp gIx (dVar 3) (dVar 4)))) (dTst (dOp (gNotIn S2 6) (dVar 6) (dVar 3))))
 (dDrop (dLM lmAppend (dVar 3) (dCons (dVar 6) dNil)))
 dNext)
 (dIfS (dAnd (dTst (dOp (gEq S2 6) (dVar 6) (dOp gIx (dVar 3) (dVar 4)))) (dTst (dOp (gNotIn S2 6) (dVar 5) (dVar 3))))
 (dDrop (dLM lmAppend (dVar 3) (dCons (dVar 5) dNil)))
 dNext)))
 (dAsg (dOp (gAdd false) (dVar 4) (dC (.int 1))) (gdName 4))))
 (dRet (dOp (gIn S2 6) (dVar 2) (dVar 3)))))))
def m__law_due : DF := dDef 2 8
 ((dSeq (dIfS (dNot (dTst (dChain gLe gLe (dC (.int 2)) (dVar 0) (dC (.int 24)))))
 (dRet (dTup (dCons (dC (.str ("crossings" : Str))) (dCons (dVar 0) dNil))))
 dNext)
 (dSeq (dIfS (dTst (dOp (gNe S2 6) (dB bLen (dCons (dVar 1) dNil)) (dOp gSub (dVar 0) (dC (.int 1)))))
 (dRet (dTup (dCons (dC (.str ("roads" : Str))) (dCons (dB bLen (dCons (dVar 1) dNil)) dNil))))
 dNext)
 (dSeq (dFor (dEnum (dVar 1)) (gdTup 2 (gdCons (gdName 2) (gdCons (gdTup 3 (gdCons (gdName 4) (gdCons (gdName 5) (gdCons (gdName 6) gdNil)))) gdNil)))
 (dSeq (dAsg (dLc false (dSeqI (dTup (dCons (dVar 4) (dCons (dVar 5) dNil)))) (gdName 7) (dNot (dTst (dChain gLe gLt (dC (.int 0)) (dVar 7) (dVar 0)))) (dVar 7) [7]) (gdName 3))
 (dSeq (dIfS (dTst (dOp (gNe S2 6) (dVar 3) (dLst false dNil)))
 (dRet (dTup (dCons (dC (.str ("crossing" : Str))) (dCons (dOp gIx (dVar 3) (dC (.int 0))) dNil))))
 dNext)
 (dSeq (dIfS (dNot (dTst (dChain gLe gLe (dC (.int 1)) (dVar 6) (dC (.int 1000000000)))))
 (dRet (dTup (dCons (dC (.str ("length" : Str))) (dCons (dVar 6) dNil))))
 dNext)
 (dIfS (dTst (dCall m__law_joined (dCons (dSl false (dVar 1) dNoPart (dPart (dVar 2))) (dCons (dVar 4) (dCons (dVar 5) dNil)))))
 (dRet (dTup (dCons (dC (.str ("ring" : Str))) (dCons (dVar 2) dNil))))
 dNext)))))
 (dRet (dC .non))))))
def m_roads_at : DF := dDef 2 5
 ((dSeq (dAsg (dLst true dNil) (gdName 2))
 (dSeq (dFor (dEnum (dFld F_roads (dVar 0))) (gdTup 2 (gdCons (gdName 3) (gdCons (gdName 4) gdNil)))
 (dSeq (dIfS (dTst (dOp (gEq S2 6) (dFld F_a (dVar 4)) (dVar 1)))
 (dDrop (dLM lmAppend (dVar 2) (dCons (dTup (dCons (dVar 3) (dCons (dFld F_b (dVar 4)) (dCons (dFld F_length (dVar 4)) dNil)))) dNil)))
 dNext)
 (dIfS (dTst (dOp (gEq S2 6) (dFld F_b (dVar 4)) (dVar 1)))
 (dDrop (dLM lmAppend (dVar 2) (dCons (dTup (dCons (dVar 3) (dCons (dFld F_a (dVar 4)) (dCons (dFld F_length (dVar 4)) dNil)))) dNil)))
 dNext)))
 (dRet (dFrz (dVar 2))))))
def m_ways_from : DF := dDef 2 8
 ((dSeq (dAsg (dDisp true (((dVar 1), (dTup (dCons (dC (.int 0)) (dCons (dC .non) dNil)))) :: [])) (gdName 2))
 (dSeq (dAsg (dLst true (dCons (dVar 1) dNil)) (gdName 3))
 (dSeq (dWhile (dTst (dOp (gNe S2 6) (dVar 3) (dLst false dNil)))
 (dSeq (dAsg (dLM lmPop (dVar 3) dNil) (gdName 4))
 (dFor (dSeqI (dCall m_roads_at (dCons (dVar 0) (dCons (dVar 4) dNil)))) (gdTup 3 (gdCons (gdName 5) (gdCons (gdName 6) (gdCons (gdName 7) gdNil))))
 (dIfS (dTst (dOp (gNotIn S2 6) (dVar 6) (dVar 2)))
 (dSeq (dSetI (dVar 2) (dVar 6) (dTup (dCons (dOp (gAdd false) (dOp gIx (dOp gIx (dVar 2) (dVar 4)) (dC (.int 0))) (dVar 7)) (dCons (dVar 5) dNil))))
 (dDrop (dLM lmAppend (dVar 3) (dCons (dVar 6) dNil))))
 dNext))))
 (dRet (dFrz (dVar 2)))))))
def m_Tree___init__ : DF := dDef 3 9
 ((dSeq (dSetF F_crossings (dVar 0) (dVar 1))
 (dSeq (dSetF F_roads (dVar 0) (dB bTuple (dCons (dVar 2) dNil)))
 (dSeq (dIfS (dNot (dTst (dChain gLe gLe (dC (.int 2)) (dVar 1) (dC (.int 24)))))
 (dRaise X_BadCount [F_what, F_count] (dCons (dC (.str ("crossings" : Str))) (dCons (dVar 1) dNil)))
 dNext)
 (dSeq (dIfS (dTst (dOp (gNe S2 6) (dB bLen (dCons (dFld F_roads (dVar 0)) dNil)) (dOp gSub (dVar 1) (dC (.int 1)))))
 (dRaise X_BadCount [F_what, F_count] (dCons (dC (.str ("roads" : Str))) (dCons (dB bLen (dCons (dFld F_roads (dVar 0)) dNil)) dNil)))
 dNext)
 (dSeq (dAsg (dLstRg false (dRg1 (dVar 1))) (gdName 3))
 (dSeq (dFor (dEnum (dFld F_roads (dVar 0))) (gdTup 2 (gdCons (gdName 4) (gdCons (gdName 5) gdNil)))
 (dSeq (dFor (dSeqI (dTup (dCons (dFld F_a (dVar 5)) (dCons (dFld F_b (dVar 5)) dNil)))) (gdName 6)
 (dIfS (dNot (dTst (dChain gLe gLt (dC (.int 0)) (dVar 6) (dVar 1))))
 (dRaise X_NoCrossing [F_crossing] (dCons (dVar 6) dNil))
 dNext))
 (dSeq (dIfS (dNot (dTst (dChain gLe gLe (dC (.int 1)) (dFld F_length (dVar 5)) (dC (.int 1000000000)))))
 (dRaise X_BadCount [F_what, F_count] (dCons (dC (.str ("length" : Str))) (dCons (dFld F_length (dVar 5)) dNil)))
 dNext)
 (dSeq (dIfS (dTst (dOp (gEq S2 6) (dOp gIx (dVar 3) (dFld F_a (dVar 5))) (dOp gIx (dVar 3) (dFld F_b (dVar 5)))))
 (dRaise X_RingRoad [F_road] (dCons (dVar 4) dNil))
 dNext)
 (dSeq (dAsg (dOp gIx (dVar 3) (dFld F_b (dVar 5))) (gdName 7))
 (dAsg (dLc false (dSeqI (dVar 3)) (gdName 8) dYes (dIf (dTst (dOp (gEq S2 6) (dVar 8) (dVar 7))) (dOp gIx (dVar 3) (dFld F_a (dVar 5))) (dVar 8)) [8]) (gdName 3)))))))
 (dSetF F_ways (dVar 0) (dLc false (dRange1 (dCons (dVar 1) dNil)) (gdName 6) dYes (dCall m_ways_from (dCons (dVar 0) (dCons (dVar 6) dNil))) [6])))))))))
def m__law_said : DF := dDef 2 4
 ((dSeq (dTryAs qx_TrainError 2 (dDrop (dMake true C_Tree m_Tree___init__ (dCons (dVar 0) (dCons (dVar 1) dNil))))
 (fun a dd c => (dSeq (dAsg (dLst false (dCons (dIsX a dd c qx_BadCount (dVar 2)) (dCons (dIsX a dd c qx_NoCrossing (dVar 2)) (dCons (dIsX a dd c qx_RingRoad (dVar 2)) dNil)))) (gdName 3))
 (dSeq (dIfS (dOr (dTst (dOp (gNe S0 6) (dPL lpCount (dVar 3) (dCons (dC (.bl true)) dNil)) (dC (.int 1)))) (dOr (dTst (dIsX a dd c qx_NoRoad_OffRoad (dVar 2))) (dNot (dTst (dIsX a dd c qx_ValueError (dVar 2))))))
 (dRet (dTup (dCons (dC (.str ("several" : Str))) (dCons (dC .non) dNil))))
 dNext)
 (dSeq (dIfS (dTst (dOp gIx (dVar 3) (dC (.int 0))))
 (dRet (dTup (dCons (dXf a dd c F_what (dVar 2)) (dCons (dXf a dd c F_count (dVar 2)) dNil))))
 dNext)
 (dRet (dIf (dTst (dOp gIx (dVar 3) (dC (.int 1)))) (dTup (dCons (dC (.str ("crossing" : Str))) (dCons (dXf a dd c F_crossing (dVar 2)) dNil))) (dTup (dCons (dC (.str ("ring" : Str))) (dCons (dXf a dd c F_road (dVar 2)) dNil))))))))))
 (dRet (dC .non))))
def m__law_source : DF := dDef 1 1
 ((dRet (dLst true (dCons (dB bAbs (dCons (dVar 0) dNil)) (dCons (dOp gMod (dVar 0) (dC (.int 2147483629))) (dCons (dC (.int 0)) dNil))))))
def m__law_pick : DF := dDef 2 2
 ((dRet (dOp gIx (dVar 1) (dCall m__law_draw (dCons (dVar 0) (dCons (dB bLen (dCons (dVar 1) dNil)) dNil))))))
def m__law_spoilt : DF := dDef 3 10
 ((dSeq (dAsg (dCall m__law_draw (dCons (dVar 0) (dCons (dC (.int 9)) dNil))) (gdName 3))
 (dSeq (dIfS (dTst (dOp (gEq S2 6) (dVar 3) (dC (.int 0))))
 (dRet (dTup (dCons (dCall m__law_pick (dCons (dVar 0) (dCons (dLst false (dCons (dOp (gAdd false) (dVar 1) (dC (.int 1))) (dCons (dOp gSub (dVar 1) (dC (.int 1))) (dCons (dC (.int 0)) (dCons (dC (.int 1)) (dCons (dC (.int (-2))) (dCons (dC (.int 25)) (dCons (dC (.int 1000000000)) dNil)))))))) dNil))) (dCons (dVar 2) dNil))))
 dNext)
 (dSeq (dIfS (dTst (dOp (gEq S2 6) (dVar 2) (dLst false dNil)))
 (dRet (dTup (dCons (dVar 1) (dCons (dLst false (dCons (dTup (dCons (dC (.int 0)) (dCons (dC (.int 1)) (dCons (dC (.int 1)) dNil)))) dNil)) dNil))))
 dNext)
 (dSeq (dAsg (dCall m__law_draw (dCons (dVar 0) (dCons (dB bLen (dCons (dVar 2) dNil)) dNil))) (gdName 4))
 (dSeq (dAsg (dOp gIx (dVar 2) (dVar 4)) (gdTup 3 (gdCons (gdName 7) (gdCons (gdName 8) (gdCons (gdName 9) gdNil)))))
 (dSeq (dIfS (dTst (dOp (gEq S2 6) (dVar 3) (dC (.int 1))))
 (dRet (dTup (dCons (dVar 1) (dCons (dOp (gAdd false) (dSl false (dVar 2) dNoPart (dPart (dVar 4))) (dSl false (dVar 2) (dPart (dOp (gAdd false) (dVar 4) (dC (.int 1)))) dNoPart)) dNil))))
 dNext)
 (dSeq (dIfS (dTst (dOp (gEq S2 6) (dVar 3) (dC (.int 2))))
 (dRet (dTup (dCons (dVar 1) (dCons (dOp (gAdd false) (dSl false (dVar 2) dNoPart (dPart (dOp (gAdd false) (dVar 4) (dC (.int 1))))) (dSl false (dVar 2) (dPart (dVar 4)) dNoPart)) dNil))))
 dNext)
 (dSeq (dIfS (dTst (dOp (gEq S2 6) (dVar 3) (dC (.int 3))))
 (dRet (dTup (dCons (dVar 1) (dCons (dOp (gAdd false) (dOp (gAdd false) (dSl false (dVar 2) dNoPart (dPart (dVar 4))) (dLst false (dCons (dOp gIx (dVar 2) (dOp gSub (dVar 4) (dC (.int 1)))) dNil))) (dSl false (dVar 2) (dPart (dOp (gAdd false) (dVar 4) (dC (.int 1)))) dNoPart)) dNil))))
 dNext)
 (dSeq (dAsg (dCall m__law_pick (dCons (dVar 0) (dCons (dLst false (dCons (dVar 1) (dCons (dC (.int (-1))) (dCons (dOp (gAdd false) (dVar 1) (dC (.int 5))) (dCons (dOp gSub (dC (.int 0)) (dVar 1)) dNil))))) dNil))) (gdName 5))
 (dSeq (dAsg (dLst true (dCons (dTup (dCons (dVar 5) (dCons (dVar 8) (dCons (dVar 9) dNil)))) (dCons (dTup (dCons (dVar 7) (dCons (dVar 5) (dCons (dVar 9) dNil)))) (dCons (dTup (dCons (dVar 5) (dCons (dVar 5) (dCons (dVar 9) dNil)))) (dCons (dTup (dCons (dVar 7) (dCons (dVar 7) (dCons (dVar 9) dNil)))) (dCons (dTup (dCons (dVar 7) (dCons (dVar 8) (dCons (dC (.int 0)) dNil)))) dNil)))))) (gdName 6))
 (dSeq (dAsg (dOp (gAdd true) (dVar 6) (dLst false (dCons (dTup (dCons (dVar 7) (dCons (dVar 8) (dCons (dOp gSub (dC (.int 0)) (dVar 9)) dNil)))) (dCons (dTup (dCons (dVar 7) (dCons (dVar 8) (dCons (dC (.int 1000000001)) dNil)))) (dCons (dTup (dCons (dVar 7) (dCons (dVar 8) (dCons (dC (.int 1000000000)) dNil)))) (dCons (dTup (dCons (dVar 8) (dCons (dVar 7) (dCons (dVar 9) dNil)))) dNil)))))) (gdName 6))
 (dSeq (dDrop (dLM lmAppend (dVar 6) (dCons (dTup (dCons (dCall m__law_draw (dCons (dVar 0) (dCons (dC (.int 3)) dNil))) (dCons (dCall m__law_draw (dCons (dVar 0) (dCons (dC (.int 5)) dNil))) (dCons (dVar 9) dNil)))) dNil)))
 (dRet (dTup (dCons (dVar 1) (dCons (dOp (gAdd false) (dOp (gAdd false) (dSl false (dVar 2) dNoPart (dPart (dVar 4))) (dLst false (dCons (dCall m__law_pick (dCons (dVar 0) (dCons (dVar 6) dNil))) dNil))) (dSl false (dVar 2) (dPart (dOp (gAdd false) (dVar 4) (dC (.int 1)))) dNoPart)) dNil)))))))))))))))))
def m__law_shuffled : DF := dDef 2 4
 ((dSeq (dAsg (dB (bList true) (dCons (dVar 1) dNil)) (gdName 2))
 (dSeq (dAsg (dLst true dNil) (gdName 3))
 (dSeq (dWhile (dTst (dOp (gNe S2 6) (dVar 2) (dLst false dNil)))
 (dDrop (dLM lmAppend (dVar 3) (dCons (dLM lmPop (dVar 2) (dCons (dCall m__law_draw (dCons (dVar 0) (dCons (dB bLen (dCons (dVar 2) dNil)) dNil))) dNil)) dNil))))
 (dRet (dFrz (dVar 3)))))))
def m__law_tree : DF := dDef 3 8
 ((dSeq (dAsg (dOp (gAdd false) (dC (.int 2)) (dCall m__law_draw (dCons (dVar 0) (dCons (dOp gSub (dVar 1) (dC (.int 1))) dNil)))) (gdName 3))
 (dSeq (dAsg (dCall m__law_shuffled (dCons (dVar 0) (dCons (dLstRg false (dRg1 (dVar 3))) dNil))) (gdName 4))
 (dSeq (dAsg (dLst true dNil) (gdName 5))
 (dSeq (dFor (dRange2 (dCons (dC (.int 1)) (dCons (dVar 3) dNil))) (gdName 6)
 (dSeq (dAsg (dLst true (dCons (dOp gIx (dVar 4) (dVar 6)) (dCons (dOp gIx (dVar 4) (dCall m__law_pick (dCons (dVar 0) (dCons (dLst false (dCons (dOp gSub (dVar 6) (dC (.int 1))) (dCons (dC (.int 0)) (dCons (dCall m__law_draw (dCons (dVar 0) (dCons (dVar 6) dNil))) dNil)))) dNil)))) dNil))) (gdName 7))
 (dSeq (dIfS (dTst (dOp (gEq S2 6) (dCall m__law_draw (dCons (dVar 0) (dCons (dC (.int 2)) dNil))) (dC (.int 0))))
 (dDrop (dLM lmReverse (dVar 7) dNil))
 dNext)
 (dDrop (dLM lmAppend (dVar 5) (dCons (dTup (dCons (dOp gIx (dVar 7) (dC (.int 0))) (dCons (dOp gIx (dVar 7) (dC (.int 1))) (dCons (dCall m__law_pick (dCons (dVar 0) (dCons (dLst false (dCons (dC (.int 1)) (dCons (dC (.int 2)) (dCons (dOp (gAdd false) (dC (.int 1)) (dCall m__law_draw (dCons (dVar 0) (dCons (dVar 2) dNil)))) dNil)))) dNil))) dNil)))) dNil))))))
 (dRet (dTup (dCons (dVar 3) (dCons (dCall m__law_shuffled (dCons (dVar 0) (dCons (dVar 5) dNil))) dNil)))))))))
def m_law : DF := dDef 1 12
 ((dSeq (dFor (dSeqI (dSl false (dOp (gAdd false) (dVar 0) (dLst false (dCons (dC (.int 0)) dNil))) dNoPart (dPart (dC (.int 8))))) (gdName 1)
 (dSeq (dAsg (dCall m__law_source (dCons (dVar 1) dNil)) (gdName 2))
 (dFor (dRange1 (dCons (dC (.int 5)) dNil)) (gdName 3)
 (dSeq (dAsg (dCall m__law_tree (dCons (dVar 2) (dCons (dC (.int 9)) (dCons (dC (.int 9)) dNil)))) (gdTup 2 (gdCons (gdName 7) (gdCons (gdName 8) gdNil))))
 (dSeq (dFor (dRange1 (dCons (dCall m__law_draw (dCons (dVar 2) (dCons (dC (.int 4)) dNil))) dNil)) (gdName 4)
 (dAsg (dCall m__law_spoilt (dCons (dVar 2) (dCons (dVar 7) (dCons (dVar 8) dNil)))) (gdTup 2 (gdCons (gdName 7) (gdCons (gdName 8) gdNil)))))
 (dSeq (dAsg (dLc false (dSeqI (dVar 8)) (gdTup 3 (gdCons (gdName 9) (gdCons (gdName 10) (gdCons (gdName 11) gdNil)))) dYes (dMake true C_Road m_Road___init__ (dCons (dVar 9) (dCons (dVar 10) (dCons (dVar 11) dNil)))) [9, 10, 11]) (gdName 5))
 (dSeq (dAsg (dB (bList false) (dCons (dVar 5) dNil)) (gdName 6))
 (dSeq (dIfS (dOr (dTst (dOp (gNe S2 6) (dCall m__law_said (dCons (dVar 7) (dCons (dVar 5) dNil))) (dCall m__law_due (dCons (dVar 7) (dCons (dVar 8) dNil))))) (dTst (dOp (gNe S2 6) (dVar 5) (dVar 6))))
 (dRet (dC (.bl false)))
 dNext)
 (dIfS (dTst (dOp (gNe S2 6) (dCall m__law_said (dCons (dVar 7) (dCons (dB bTuple (dCons (dVar 5) dNil)) dNil))) (dCall m__law_due (dCons (dVar 7) (dCons (dVar 8) dNil)))))
 (dRet (dC (.bl false)))
 dNext)))))))))
 (dRet (dC (.bl true)))))
end HT

/-! The defs of law k02 as functions that can be run (printed by run.py). -/
namespace HT
open PySem PySem.Spec L2 DL
def x_Road_facts : XF := xDef 1 1 []
 (xRet (xTup (xCons (xU (fldX F_a) (xVar 0)) (xCons (xU (fldX F_b) (xVar 0)) (xCons (xU (fldX F_length) (xVar 0)) xNil)))))
def b_Road_facts : XS :=
 (xRet (xTup (xCons (xU (fldX F_a) (xVar 0)) (xCons (xU (fldX F_b) (xVar 0)) (xCons (xU (fldX F_length) (xVar 0)) xNil)))))
theorem u_Road_facts {v0 : D} : x_Road_facts [v0] = xfin [] (b_Road_facts [some v0]) := rfl
theorem s_Road_facts : SndF [] [] false x_Road_facts m_Road_facts := s_def (sl := ⟨[], [], [], [], [], false, none⟩) (by decide)
 (s_ret (s_tup (s_cons (s_fld (s_var 0)) (s_cons (s_fld (s_var 0)) (s_cons (s_fld (s_var 0)) s_nil)))))
def x_Road___eq__ : XF := xDef 2 2 []
 (xRet (xAndV (xU (isiX qo_Road) (xVar 1)) (xOpE (eqX S0 6 id) (xMeth C_Road x_Road_facts [] (xVar 0) xNil) (xMeth C_Road x_Road_facts [] (xVar 1) xNil))))
def b_Road___eq__ : XS :=
 (xRet (xAndV (xU (isiX qo_Road) (xVar 1)) (xOpE (eqX S0 6 id) (xMeth C_Road x_Road_facts [] (xVar 0) xNil) (xMeth C_Road x_Road_facts [] (xVar 1) xNil))))
theorem u_Road___eq__ {v0 v1 : D} : x_Road___eq__ [v0, v1] = xfin [] (b_Road___eq__ [some v0, some v1]) := rfl
theorem s_Road___eq__ : SndF [] [] false x_Road___eq__ m_Road___eq__ := s_def (sl := ⟨[], [], [], [], [], false, none⟩) (by decide)
 (s_ret (s_andV (s_isi (s_var 1)) (s_opE (s_meth s_Road_facts (s_var 0) s_nil) (s_meth s_Road_facts (s_var 1) s_nil))))
def x_Tree_facts : XF := xDef 1 1 []
 (xRet (xTup (xCons (xU (fldX F_crossings) (xVar 0)) (xCons (xU (fldX F_roads) (xVar 0)) xNil))))
def b_Tree_facts : XS :=
 (xRet (xTup (xCons (xU (fldX F_crossings) (xVar 0)) (xCons (xU (fldX F_roads) (xVar 0)) xNil))))
theorem u_Tree_facts {v0 : D} : x_Tree_facts [v0] = xfin [] (b_Tree_facts [some v0]) := rfl
theorem s_Tree_facts : SndF [] [] false x_Tree_facts m_Tree_facts := s_def (sl := ⟨[], [], [], [], [], false, none⟩) (by decide)
 (s_ret (s_tup (s_cons (s_fld (s_var 0)) (s_cons (s_fld (s_var 0)) s_nil))))
def x_Tree___eq__ : XF := xDef 2 2 []
 (xRet (xAndV (xU (isiX qo_Tree) (xVar 1)) (xOpE (eqX S1 6 id) (xMeth C_Tree x_Tree_facts [] (xVar 0) xNil) (xMeth C_Tree x_Tree_facts [] (xVar 1) xNil))))
def b_Tree___eq__ : XS :=
 (xRet (xAndV (xU (isiX qo_Tree) (xVar 1)) (xOpE (eqX S1 6 id) (xMeth C_Tree x_Tree_facts [] (xVar 0) xNil) (xMeth C_Tree x_Tree_facts [] (xVar 1) xNil))))
theorem u_Tree___eq__ {v0 v1 : D} : x_Tree___eq__ [v0, v1] = xfin [] (b_Tree___eq__ [some v0, some v1]) := rfl
theorem s_Tree___eq__ : SndF [] [] false x_Tree___eq__ m_Tree___eq__ := s_def (sl := ⟨[], [], [], [], [], false, none⟩) (by decide)
 (s_ret (s_andV (s_isi (s_var 1)) (s_opE (s_meth s_Tree_facts (s_var 0) s_nil) (s_meth s_Tree_facts (s_var 1) s_nil))))
def x_Road___init__ : XF := xDef 4 4 [0]
 (xSeq (xSetF F_a 0 (xVar 1))
 (xSeq (xSetF F_b 0 (xVar 2))
 (xSetF F_length 0 (xVar 3))))
def b_Road___init__ : XS :=
 (xSeq (xSetF F_a 0 (xVar 1))
 (xSeq (xSetF F_b 0 (xVar 2))
 (xSetF F_length 0 (xVar 3))))
theorem u_Road___init__ {v0 v1 v2 v3 : D} : x_Road___init__ [v0, v1, v2, v3] = xfin [0] (b_Road___init__ [some v0, some v1, some v2, some v3]) := rfl
theorem s_Road___init__ : SndF [0] [] false x_Road___init__ m_Road___init__ := s_def (sl := ⟨[0], [], [0], [], [], false, none⟩) (by decide)
 (s_seq (s_setF F_a 0 (s_var 1))
 (s_seq (s_setF F_b 0 (s_var 2))
 (s_setF F_length 0 (s_var 3))))
def x__law_draw : XF := xDef 2 4 [0]
 (xSeq (xIfS (xTst (xOp geX (xOp ixX (xSlot 0) (xC (.int 0))) (xC (.int 1000000000000000000))))
 (xSeq (xAsg (xOp modX (xOp ixX (xSlot 0) (xC (.int 0))) (xVar 1)) (xgName 3))
 (xSeq (xSetI 0 (xC (.int 0)) (xOp divX (xOp ixX (xSlot 0) (xC (.int 0))) (xVar 1)))
 (xRet (xVar 3))))
 xNext)
 (xSeq (xSetI 0 (xC (.int 2)) (xOp addX (xOp ixX (xSlot 0) (xC (.int 2))) (xC (.int 1))))
 (xSeq (xAsg (xOp modX (xOp mulX (xOp addX (xOp addX (xOp ixX (xSlot 0) (xC (.int 1))) (xOp mulX (xC (.int 7919)) (xOp ixX (xSlot 0) (xC (.int 2))))) (xC (.int 1))) (xC (.int 48271))) (xC (.int 2147483647))) (xgName 2))
 (xSeq (xAsg (xOp modX (xOp mulX (xVar 2) (xOp addX (xOp divX (xVar 2) (xC (.int 1013))) (xC (.int 69621)))) (xC (.int 2147483587))) (xgName 2))
 (xRet (xOp modX (xOp modX (xOp addX (xOp divX (xVar 2) (xC (.int 7))) (xOp mulX (xOp modX (xVar 2) (xC (.int 7919))) (xC (.int 40692)))) (xC (.int 2147483399))) (xVar 1)))))))
def b__law_draw : XS :=
 (xSeq (xIfS (xTst (xOp geX (xOp ixX (xSlot 0) (xC (.int 0))) (xC (.int 1000000000000000000))))
 (xSeq (xAsg (xOp modX (xOp ixX (xSlot 0) (xC (.int 0))) (xVar 1)) (xgName 3))
 (xSeq (xSetI 0 (xC (.int 0)) (xOp divX (xOp ixX (xSlot 0) (xC (.int 0))) (xVar 1)))
 (xRet (xVar 3))))
 xNext)
 (xSeq (xSetI 0 (xC (.int 2)) (xOp addX (xOp ixX (xSlot 0) (xC (.int 2))) (xC (.int 1))))
 (xSeq (xAsg (xOp modX (xOp mulX (xOp addX (xOp addX (xOp ixX (xSlot 0) (xC (.int 1))) (xOp mulX (xC (.int 7919)) (xOp ixX (xSlot 0) (xC (.int 2))))) (xC (.int 1))) (xC (.int 48271))) (xC (.int 2147483647))) (xgName 2))
 (xSeq (xAsg (xOp modX (xOp mulX (xVar 2) (xOp addX (xOp divX (xVar 2) (xC (.int 1013))) (xC (.int 69621)))) (xC (.int 2147483587))) (xgName 2))
 (xRet (xOp modX (xOp modX (xOp addX (xOp divX (xVar 2) (xC (.int 7))) (xOp mulX (xOp modX (xVar 2) (xC (.int 7919))) (xC (.int 40692)))) (xC (.int 2147483399))) (xVar 1)))))))
theorem u__law_draw {v0 v1 : D} : x__law_draw [v0, v1] = xfin [0] (b__law_draw [some v0, some v1, none, none]) := rfl
theorem s__law_draw : SndF [0] [] false x__law_draw m__law_draw := s_def (sl := ⟨[0], [], [0], [], [], false, none⟩) (by decide)
 (s_seq (s_ifs (s_tst (s_op o_ge (s_op o_ix (s_slot 0) (s_c _)) (s_c _)))
 (s_seq (s_asg (s_op o_mod (s_op o_ix (s_slot 0) (s_c _)) (s_var 1)) (sg_n 3))
 (s_seq (s_setI 0 (s_c _) (s_op o_div (s_op o_ix (s_slot 0) (s_c _)) (s_var 1)))
 (s_ret (s_var 3))))
 s_next)
 (s_seq (s_setI 0 (s_c _) (s_op o_add (s_op o_ix (s_slot 0) (s_c _)) (s_c _)))
 (s_seq (s_asg (s_op o_mod (s_op o_mul (s_op o_add (s_op o_add (s_op o_ix (s_slot 0) (s_c _)) (s_op o_mul (s_c _) (s_op o_ix (s_slot 0) (s_c _)))) (s_c _)) (s_c _)) (s_c _)) (sg_n 2))
 (s_seq (s_asg (s_op o_mod (s_op o_mul (s_var 2) (s_op o_add (s_op o_div (s_var 2) (s_c _)) (s_c _))) (s_c _)) (sg_n 2))
 (s_ret (s_op o_mod (s_op o_mod (s_op o_add (s_op o_div (s_var 2) (s_c _)) (s_op o_mul (s_op o_mod (s_var 2) (s_c _)) (s_c _))) (s_c _)) (s_var 1)))))))
def x__law_joined : XF := xDef 3 8 []
 (xSeq (xAsgC (xLst (xCons (xVar 1) xNil)) 3)
 (xSeq (xAsg (xC (.int 0)) (xgName 4))
 (xSeq (xWhile (xTst (xOp ltX (xVar 4) (xB lenX (xCons (xSlot 3) xNil))))
 (xSeq (xFor (xSeqI (xVar 0)) (xgTup 3 (xgCons (xgName 5) (xgCons (xgName 6) (xgCons (xgName 7) xgNil))))
 (xSeq (xIfS (xAnd (xTst (xOpE (eqX S2 6 id) (xVar 5) (xOp ixX (xSlot 3) (xVar 4)))) (xTst (xOpL (inX S2 6 not) (xVar 6) (xSlot 3))))
 (xDrop (xLM appendX 3 (xCons (xVar 6) xNil)))
 xNext)
 (xIfS (xAnd (xTst (xOpE (eqX S2 6 id) (xVar 6) (xOp ixX (xSlot 3) (xVar 4)))) (xTst (xOpL (inX S2 6 not) (xVar 5) (xSlot 3))))
 (xDrop (xLM appendX 3 (xCons (xVar 5) xNil)))
 xNext)))
 (xAsg (xOp addX (xVar 4) (xC (.int 1))) (xgName 4))))
 (xRet (xOpL (inX S2 6 id) (xVar 2) (xSlot 3))))))
def g__law_joined_2 : XG := (xgTup 3 (xgCons (xgName 5) (xgCons (xgName 6) (xgCons (xgName 7) xgNil))))
def l__law_joined_2 : XS := (xSeq (xIfS (xAnd (xTst (xOpE (eqX S2 6 id) (xVar 5) (xOp ixX (xSlot 3) (xVar 4)))) (xTst (xOpL (inX S2 6 not) (xVar 6) (xSlot 3))))
 (xDrop (xLM appendX 3 (xCons (xVar 6) xNil)))
 xNext)
 (xIfS (xAnd (xTst (xOpE (eqX S2 6 id) (xVar 6) (xOp ixX (xSlot 3) (xVar 4)))) (xTst (xOpL (inX S2 6 not) (xVar 5) (xSlot 3))))
 (xDrop (xLM appendX 3 (xCons (xVar 5) xNil)))
 xNext))
def t__law_joined_1 : XT := (xTst (xOp ltX (xVar 4) (xB lenX (xCons (xSlot 3) xNil))))
def l__law_joined_1 : XS := (xSeq (xFor (xSeqI (xVar 0)) g__law_joined_2
 l__law_joined_2)
 (xAsg (xOp addX (xVar 4) (xC (.int 1))) (xgName 4)))
def b__law_joined : XS :=
 (xSeq (xAsgC (xLst (xCons (xVar 1) xNil)) 3)
 (xSeq (xAsg (xC (.int 0)) (xgName 4))
 (xSeq (xWhile t__law_joined_1
 l__law_joined_1)
 (xRet (xOpL (inX S2 6 id) (xVar 2) (xSlot 3))))))
theorem u__law_joined {v0 v1 v2 : D} : x__law_joined [v0, v1, v2] = xfin [] (b__law_joined [some v0, some v1, some v2, none, none, none, none, none]) := rfl
theorem s__law_joined : SndF [] [] false x__law_joined m__law_joined := s_def (sl := ⟨[3], [], [], [], [], false, none⟩) (by decide)
 (s_seq (s_asgC 3 (c_lst (s_cons (s_var 1) s_nil)))
 (s_seq (s_asg (s_c _) (sg_n 4))
 (s_seq (s_while (s_tst (s_op o_lt (s_var 4) (s_B b_len (s_cons (s_slot 3) s_nil))))
 (s_seq (s_for (s_seqI (s_var 0)) (sg_t (sg_cons (sg_n 5) (sg_cons (sg_n 6) (sg_cons (sg_n 7) sg_nil))))
 (s_seq (s_ifs (s_and (s_tst (s_opE (s_var 5) (s_op o_ix (s_slot 3) (s_var 4)))) (s_tst (s_opIn (s_var 6) (s_slot 3))))
 (s_drop (s_lm 3 mx_append (s_cons (s_var 6) s_nil)))
 s_next)
 (s_ifs (s_and (s_tst (s_opE (s_var 6) (s_op o_ix (s_slot 3) (s_var 4)))) (s_tst (s_opIn (s_var 5) (s_slot 3))))
 (s_drop (s_lm 3 mx_append (s_cons (s_var 5) s_nil)))
 s_next)))
 (s_asg (s_op o_add (s_var 4) (s_c _)) (sg_n 4))))
 (s_ret (s_opIn (s_var 2) (s_slot 3))))))
def x__law_due : XF := xDef 2 8 []
 (xSeq (xIfS (xNot (xTst (xChain leX leX (xC (.int 2)) (xVar 0) (xC (.int 24)))))
 (xRet (xTup (xCons (xC (.str ("crossings" : Str))) (xCons (xVar 0) xNil))))
 xNext)
 (xSeq (xIfS (xTst (xOpE (eqX S2 6 not) (xB lenX (xCons (xVar 1) xNil)) (xOp subX (xVar 0) (xC (.int 1)))))
 (xRet (xTup (xCons (xC (.str ("roads" : Str))) (xCons (xB lenX (xCons (xVar 1) xNil)) xNil))))
 xNext)
 (xSeq (xFor (xEnum (xVar 1)) (xgTup 2 (xgCons (xgName 2) (xgCons (xgTup 3 (xgCons (xgName 4) (xgCons (xgName 5) (xgCons (xgName 6) xgNil)))) xgNil)))
 (xSeq (xAsg (xLc (xSeqI (xTup (xCons (xVar 4) (xCons (xVar 5) xNil)))) (xgName 7) (xNot (xTst (xChain leX ltX (xC (.int 0)) (xVar 7) (xVar 0)))) (xVar 7) [7]) (xgName 3))
 (xSeq (xIfS (xTst (xOpE (eqX S2 6 not) (xVar 3) (xLst xNil)))
 (xRet (xTup (xCons (xC (.str ("crossing" : Str))) (xCons (xOp ixX (xVar 3) (xC (.int 0))) xNil))))
 xNext)
 (xSeq (xIfS (xNot (xTst (xChain leX leX (xC (.int 1)) (xVar 6) (xC (.int 1000000000)))))
 (xRet (xTup (xCons (xC (.str ("length" : Str))) (xCons (xVar 6) xNil))))
 xNext)
 (xIfS (xTst (xCall x__law_joined [] (xCons (xSl (xVar 1) xNoPart (xPart (xVar 2))) (xCons (xVar 4) (xCons (xVar 5) xNil)))))
 (xRet (xTup (xCons (xC (.str ("ring" : Str))) (xCons (xVar 2) xNil))))
 xNext)))))
 (xRet (xC .non)))))
def g__law_due_2 : XG := (xgName 7)
def t__law_due_2 : XT := (xNot (xTst (xChain leX ltX (xC (.int 0)) (xVar 7) (xVar 0))))
def c__law_due_2 : XE := (xVar 7)
def g__law_due_1 : XG := (xgTup 2 (xgCons (xgName 2) (xgCons (xgTup 3 (xgCons (xgName 4) (xgCons (xgName 5) (xgCons (xgName 6) xgNil)))) xgNil)))
def l__law_due_1 : XS := (xSeq (xAsg (xLc (xSeqI (xTup (xCons (xVar 4) (xCons (xVar 5) xNil)))) g__law_due_2 t__law_due_2 c__law_due_2 [7]) (xgName 3))
 (xSeq (xIfS (xTst (xOpE (eqX S2 6 not) (xVar 3) (xLst xNil)))
 (xRet (xTup (xCons (xC (.str ("crossing" : Str))) (xCons (xOp ixX (xVar 3) (xC (.int 0))) xNil))))
 xNext)
 (xSeq (xIfS (xNot (xTst (xChain leX leX (xC (.int 1)) (xVar 6) (xC (.int 1000000000)))))
 (xRet (xTup (xCons (xC (.str ("length" : Str))) (xCons (xVar 6) xNil))))
 xNext)
 (xIfS (xTst (xCall x__law_joined [] (xCons (xSl (xVar 1) xNoPart (xPart (xVar 2))) (xCons (xVar 4) (xCons (xVar 5) xNil)))))
 (xRet (xTup (xCons (xC (.str ("ring" : Str))) (xCons (xVar 2) xNil))))
 xNext))))
def b__law_due : XS :=
 (xSeq (xIfS (xNot (xTst (xChain leX leX (xC (.int 2)) (xVar 0) (xC (.int 24)))))
 (xRet (xTup (xCons (xC (.str ("crossings" : Str))) (xCons (xVar 0) xNil))))
 xNext)
 (xSeq (xIfS (xTst (xOpE (eqX S2 6 not) (xB lenX (xCons (xVar 1) xNil)) (xOp subX (xVar 0) (xC (.int 1)))))
 (xRet (xTup (xCons (xC (.str ("roads" : Str))) (xCons (xB lenX (xCons (xVar 1) xNil)) xNil))))
 xNext)
 (xSeq (xFor (xEnum (xVar 1)) g__law_due_1
 l__law_due_1)
 (xRet (xC .non)))))
theorem u__law_due {v0 v1 : D} : x__law_due [v0, v1] = xfin [] (b__law_due [some v0, some v1, none, none, none, none, none, none]) := rfl
theorem s__law_due : SndF [] [] false x__law_due m__law_due := s_def (sl := ⟨[], [], [], [], [], false, none⟩) (by decide)
 (s_seq (s_ifs (s_not (s_tst (s_chain o_le o_le (s_c _) (s_var 0) (s_c _))))
 (s_ret (s_tup (s_cons (s_c _) (s_cons (s_var 0) s_nil))))
 s_next)
 (s_seq (s_ifs (s_tst (s_opE (s_B b_len (s_cons (s_var 1) s_nil)) (s_op o_sub (s_var 0) (s_c _))))
 (s_ret (s_tup (s_cons (s_c _) (s_cons (s_B b_len (s_cons (s_var 1) s_nil)) s_nil))))
 s_next)
 (s_seq (s_for (s_enum (s_var 1)) (sg_t (sg_cons (sg_n 2) (sg_cons (sg_t (sg_cons (sg_n 4) (sg_cons (sg_n 5) (sg_cons (sg_n 6) sg_nil)))) sg_nil)))
 (s_seq (s_asg (s_lc (s_seqI (s_tup (s_cons (s_var 4) (s_cons (s_var 5) s_nil)))) (sg_n 7) (s_not (s_tst (s_chain o_le o_lt (s_c _) (s_var 7) (s_var 0)))) (s_var 7)) (sg_n 3))
 (s_seq (s_ifs (s_tst (s_opE (s_var 3) (s_lst s_nil)))
 (s_ret (s_tup (s_cons (s_c _) (s_cons (s_op o_ix (s_var 3) (s_c _)) s_nil))))
 s_next)
 (s_seq (s_ifs (s_not (s_tst (s_chain o_le o_le (s_c _) (s_var 6) (s_c _))))
 (s_ret (s_tup (s_cons (s_c _) (s_cons (s_var 6) s_nil))))
 s_next)
 (s_ifs (s_tst (s_call s__law_joined (s_cons (s_sl (s_var 1) so_no (so_pt (s_var 2))) (s_cons (s_var 4) (s_cons (s_var 5) s_nil)))))
 (s_ret (s_tup (s_cons (s_c _) (s_cons (s_var 2) s_nil))))
 s_next)))))
 (s_ret (s_c _)))))
def x_roads_at : XF := xDef 2 5 []
 (xSeq (xAsgC (xLst xNil) 2)
 (xSeq (xFor (xEnum (xU (fldX F_roads) (xSlot 0))) (xgTup 2 (xgCons (xgName 3) (xgCons (xgName 4) xgNil)))
 (xSeq (xIfS (xTst (xOpE (eqX S2 6 id) (xU (fldX F_a) (xVar 4)) (xVar 1)))
 (xDrop (xLM appendX 2 (xCons (xTup (xCons (xVar 3) (xCons (xU (fldX F_b) (xVar 4)) (xCons (xU (fldX F_length) (xVar 4)) xNil)))) xNil)))
 xNext)
 (xIfS (xTst (xOpE (eqX S2 6 id) (xU (fldX F_b) (xVar 4)) (xVar 1)))
 (xDrop (xLM appendX 2 (xCons (xTup (xCons (xVar 3) (xCons (xU (fldX F_a) (xVar 4)) (xCons (xU (fldX F_length) (xVar 4)) xNil)))) xNil)))
 xNext)))
 (xRet (xFrz 2))))
def g_roads_at_1 : XG := (xgTup 2 (xgCons (xgName 3) (xgCons (xgName 4) xgNil)))
def l_roads_at_1 : XS := (xSeq (xIfS (xTst (xOpE (eqX S2 6 id) (xU (fldX F_a) (xVar 4)) (xVar 1)))
 (xDrop (xLM appendX 2 (xCons (xTup (xCons (xVar 3) (xCons (xU (fldX F_b) (xVar 4)) (xCons (xU (fldX F_length) (xVar 4)) xNil)))) xNil)))
 xNext)
 (xIfS (xTst (xOpE (eqX S2 6 id) (xU (fldX F_b) (xVar 4)) (xVar 1)))
 (xDrop (xLM appendX 2 (xCons (xTup (xCons (xVar 3) (xCons (xU (fldX F_a) (xVar 4)) (xCons (xU (fldX F_length) (xVar 4)) xNil)))) xNil)))
 xNext))
def b_roads_at : XS :=
 (xSeq (xAsgC (xLst xNil) 2)
 (xSeq (xFor (xEnum (xU (fldX F_roads) (xSlot 0))) g_roads_at_1
 l_roads_at_1)
 (xRet (xFrz 2))))
theorem u_roads_at {v0 v1 : D} : x_roads_at [v0, v1] = xfin [] (b_roads_at [some v0, some v1, none, none, none]) := rfl
theorem s_roads_at : SndF [] [0] false x_roads_at m_roads_at := s_def (sl := ⟨[2], [0], [], [], [0], false, none⟩) (by decide)
 (s_seq (s_asgC 2 (c_lst s_nil))
 (s_seq (s_for (s_enum (s_fld (s_slot 0))) (sg_t (sg_cons (sg_n 3) (sg_cons (sg_n 4) sg_nil)))
 (s_seq (s_ifs (s_tst (s_opE (s_fld (s_var 4)) (s_var 1)))
 (s_drop (s_lm 2 mx_append (s_cons (s_tup (s_cons (s_var 3) (s_cons (s_fld (s_var 4)) (s_cons (s_fld (s_var 4)) s_nil)))) s_nil)))
 s_next)
 (s_ifs (s_tst (s_opE (s_fld (s_var 4)) (s_var 1)))
 (s_drop (s_lm 2 mx_append (s_cons (s_tup (s_cons (s_var 3) (s_cons (s_fld (s_var 4)) (s_cons (s_fld (s_var 4)) s_nil)))) s_nil)))
 s_next)))
 (s_ret (s_frz 2))))
def x_ways_from : XF := xDef 2 8 []
 (xSeq (xAsgC (xDisp (xPs1 (xVar 1) (xTup (xCons (xC (.int 0)) (xCons (xC .non) xNil))) xPs0)) 2)
 (xSeq (xAsgC (xLst (xCons (xVar 1) xNil)) 3)
 (xSeq (xWhile (xTst (xOpE (eqX S2 6 not) (xSlot 3) (xLst xNil)))
 (xSeq (xAsg (xLM popX 3 xNil) (xgName 4))
 (xFor (xSeqI (xCall x_roads_at [0] (xCons (xSlot 0) (xCons (xVar 4) xNil)))) (xgTup 3 (xgCons (xgName 5) (xgCons (xgName 6) (xgCons (xgName 7) xgNil))))
 (xIfS (xTst (xOpL (inX S2 6 not) (xVar 6) (xSlot 2)))
 (xSeq (xSetI 2 (xVar 6) (xTup (xCons (xOp addX (xOp ixX (xOp ixX (xSlot 2) (xVar 4)) (xC (.int 0))) (xVar 7)) (xCons (xVar 5) xNil))))
 (xDrop (xLM appendX 3 (xCons (xVar 6) xNil))))
 xNext))))
 (xRet (xFrz 2)))))
def g_ways_from_2 : XG := (xgTup 3 (xgCons (xgName 5) (xgCons (xgName 6) (xgCons (xgName 7) xgNil))))
def l_ways_from_2 : XS := (xIfS (xTst (xOpL (inX S2 6 not) (xVar 6) (xSlot 2)))
 (xSeq (xSetI 2 (xVar 6) (xTup (xCons (xOp addX (xOp ixX (xOp ixX (xSlot 2) (xVar 4)) (xC (.int 0))) (xVar 7)) (xCons (xVar 5) xNil))))
 (xDrop (xLM appendX 3 (xCons (xVar 6) xNil))))
 xNext)
def t_ways_from_1 : XT := (xTst (xOpE (eqX S2 6 not) (xSlot 3) (xLst xNil)))
def l_ways_from_1 : XS := (xSeq (xAsg (xLM popX 3 xNil) (xgName 4))
 (xFor (xSeqI (xCall x_roads_at [0] (xCons (xSlot 0) (xCons (xVar 4) xNil)))) g_ways_from_2
 l_ways_from_2))
def b_ways_from : XS :=
 (xSeq (xAsgC (xDisp (xPs1 (xVar 1) (xTup (xCons (xC (.int 0)) (xCons (xC .non) xNil))) xPs0)) 2)
 (xSeq (xAsgC (xLst (xCons (xVar 1) xNil)) 3)
 (xSeq (xWhile t_ways_from_1
 l_ways_from_1)
 (xRet (xFrz 2)))))
theorem u_ways_from {v0 v1 : D} : x_ways_from [v0, v1] = xfin [] (b_ways_from [some v0, some v1, none, none, none, none, none, none]) := rfl
theorem s_ways_from : SndF [] [0] false x_ways_from m_ways_from := s_def (sl := ⟨[2, 3], [0], [], [], [0], false, none⟩) (by decide)
 (s_seq (s_asgC 2 (c_disp (sp_1 (s_var 1) (s_tup (s_cons (s_c _) (s_cons (s_c _) s_nil))) sp_0)))
 (s_seq (s_asgC 3 (c_lst (s_cons (s_var 1) s_nil)))
 (s_seq (s_while (s_tst (s_opE (s_slot 3) (s_lst s_nil)))
 (s_seq (s_asg (s_lm 3 mx_pop s_nil) (sg_n 4))
 (s_for (s_seqI (s_call s_roads_at (s_cons (s_slot 0) (s_cons (s_var 4) s_nil)))) (sg_t (sg_cons (sg_n 5) (sg_cons (sg_n 6) (sg_cons (sg_n 7) sg_nil))))
 (s_ifs (s_tst (s_opIn (s_var 6) (s_slot 2)))
 (s_seq (s_setI 2 (s_var 6) (s_tup (s_cons (s_op o_add (s_op o_ix (s_op o_ix (s_slot 2) (s_var 4)) (s_c _)) (s_var 7)) (s_cons (s_var 5) s_nil))))
 (s_drop (s_lm 3 mx_append (s_cons (s_var 6) s_nil))))
 s_next))))
 (s_ret (s_frz 2)))))
def x_Tree___init__ : XF := xDef 3 9 [0]
 (xSeq (xSetF F_crossings 0 (xVar 1))
 (xSeq (xSetF F_roads 0 (xB tupleX (xCons (xVar 2) xNil)))
 (xSeq (xIfS (xNot (xTst (xChain leX leX (xC (.int 2)) (xVar 1) (xC (.int 24)))))
 (xRaise X_BadCount [F_what, F_count] (xCons (xC (.str ("crossings" : Str))) (xCons (xVar 1) xNil)))
 xNext)
 (xSeq (xIfS (xTst (xOpE (eqX S2 6 not) (xB lenX (xCons (xU (fldX F_roads) (xSlot 0)) xNil)) (xOp subX (xVar 1) (xC (.int 1)))))
 (xRaise X_BadCount [F_what, F_count] (xCons (xC (.str ("roads" : Str))) (xCons (xB lenX (xCons (xU (fldX F_roads) (xSlot 0)) xNil)) xNil)))
 xNext)
 (xSeq (xAsg (xLstRg1 (xVar 1)) (xgName 3))
 (xSeq (xFor (xEnum (xU (fldX F_roads) (xSlot 0))) (xgTup 2 (xgCons (xgName 4) (xgCons (xgName 5) xgNil)))
 (xSeq (xFor (xSeqI (xTup (xCons (xU (fldX F_a) (xVar 5)) (xCons (xU (fldX F_b) (xVar 5)) xNil)))) (xgName 6)
 (xIfS (xNot (xTst (xChain leX ltX (xC (.int 0)) (xVar 6) (xVar 1))))
 (xRaise X_NoCrossing [F_crossing] (xCons (xVar 6) xNil))
 xNext))
 (xSeq (xIfS (xNot (xTst (xChain leX leX (xC (.int 1)) (xU (fldX F_length) (xVar 5)) (xC (.int 1000000000)))))
 (xRaise X_BadCount [F_what, F_count] (xCons (xC (.str ("length" : Str))) (xCons (xU (fldX F_length) (xVar 5)) xNil)))
 xNext)
 (xSeq (xIfS (xTst (xOpE (eqX S2 6 id) (xOp ixX (xVar 3) (xU (fldX F_a) (xVar 5))) (xOp ixX (xVar 3) (xU (fldX F_b) (xVar 5)))))
 (xRaise X_RingRoad [F_road] (xCons (xVar 4) xNil))
 xNext)
 (xSeq (xAsg (xOp ixX (xVar 3) (xU (fldX F_b) (xVar 5))) (xgName 7))
 (xAsg (xLc (xSeqI (xVar 3)) (xgName 8) xYes (xIf (xTst (xOpE (eqX S2 6 id) (xVar 8) (xVar 7))) (xOp ixX (xVar 3) (xU (fldX F_a) (xVar 5))) (xVar 8)) [8]) (xgName 3)))))))
 (xSetF F_ways 0 (xLc (xRange1 (xCons (xVar 1) xNil)) (xgName 6) xYes (xCall x_ways_from [0] (xCons (xSlot 0) (xCons (xVar 6) xNil))) [6]))))))))
def g_Tree___init___2 : XG := (xgName 6)
def l_Tree___init___2 : XS := (xIfS (xNot (xTst (xChain leX ltX (xC (.int 0)) (xVar 6) (xVar 1))))
 (xRaise X_NoCrossing [F_crossing] (xCons (xVar 6) xNil))
 xNext)
def g_Tree___init___3 : XG := (xgName 8)
def c_Tree___init___3 : XE := (xIf (xTst (xOpE (eqX S2 6 id) (xVar 8) (xVar 7))) (xOp ixX (xVar 3) (xU (fldX F_a) (xVar 5))) (xVar 8))
def g_Tree___init___1 : XG := (xgTup 2 (xgCons (xgName 4) (xgCons (xgName 5) xgNil)))
def l_Tree___init___1 : XS := (xSeq (xFor (xSeqI (xTup (xCons (xU (fldX F_a) (xVar 5)) (xCons (xU (fldX F_b) (xVar 5)) xNil)))) g_Tree___init___2
 l_Tree___init___2)
 (xSeq (xIfS (xNot (xTst (xChain leX leX (xC (.int 1)) (xU (fldX F_length) (xVar 5)) (xC (.int 1000000000)))))
 (xRaise X_BadCount [F_what, F_count] (xCons (xC (.str ("length" : Str))) (xCons (xU (fldX F_length) (xVar 5)) xNil)))
 xNext)
 (xSeq (xIfS (xTst (xOpE (eqX S2 6 id) (xOp ixX (xVar 3) (xU (fldX F_a) (xVar 5))) (xOp ixX (xVar 3) (xU (fldX F_b) (xVar 5)))))
 (xRaise X_RingRoad [F_road] (xCons (xVar 4) xNil))
 xNext)
 (xSeq (xAsg (xOp ixX (xVar 3) (xU (fldX F_b) (xVar 5))) (xgName 7))
 (xAsg (xLc (xSeqI (xVar 3)) g_Tree___init___3 xYes c_Tree___init___3 [8]) (xgName 3))))))
def g_Tree___init___4 : XG := (xgName 6)
def c_Tree___init___4 : XE := (xCall x_ways_from [0] (xCons (xSlot 0) (xCons (xVar 6) xNil)))
def b_Tree___init__ : XS :=
 (xSeq (xSetF F_crossings 0 (xVar 1))
 (xSeq (xSetF F_roads 0 (xB tupleX (xCons (xVar 2) xNil)))
 (xSeq (xIfS (xNot (xTst (xChain leX leX (xC (.int 2)) (xVar 1) (xC (.int 24)))))
 (xRaise X_BadCount [F_what, F_count] (xCons (xC (.str ("crossings" : Str))) (xCons (xVar 1) xNil)))
 xNext)
 (xSeq (xIfS (xTst (xOpE (eqX S2 6 not) (xB lenX (xCons (xU (fldX F_roads) (xSlot 0)) xNil)) (xOp subX (xVar 1) (xC (.int 1)))))
 (xRaise X_BadCount [F_what, F_count] (xCons (xC (.str ("roads" : Str))) (xCons (xB lenX (xCons (xU (fldX F_roads) (xSlot 0)) xNil)) xNil)))
 xNext)
 (xSeq (xAsg (xLstRg1 (xVar 1)) (xgName 3))
 (xSeq (xFor (xEnum (xU (fldX F_roads) (xSlot 0))) g_Tree___init___1
 l_Tree___init___1)
 (xSetF F_ways 0 (xLc (xRange1 (xCons (xVar 1) xNil)) g_Tree___init___4 xYes c_Tree___init___4 [6]))))))))
theorem u_Tree___init__ {v0 v1 v2 : D} : x_Tree___init__ [v0, v1, v2] = xfin [0] (b_Tree___init__ [some v0, some v1, some v2, none, none, none, none, none, none]) := rfl
theorem s_Tree___init__ : SndF [0] [] false x_Tree___init__ m_Tree___init__ := s_def (sl := ⟨[0], [], [0], [], [], false, none⟩) (by decide)
 (s_seq (s_setF F_crossings 0 (s_var 1))
 (s_seq (s_setF F_roads 0 (s_B b_tuple (s_cons (s_var 2) s_nil)))
 (s_seq (s_ifs (s_not (s_tst (s_chain o_le o_le (s_c _) (s_var 1) (s_c _))))
 (s_raise (s_cons (s_c _) (s_cons (s_var 1) s_nil)))
 s_next)
 (s_seq (s_ifs (s_tst (s_opE (s_B b_len (s_cons (s_fld (s_slot 0)) s_nil)) (s_op o_sub (s_var 1) (s_c _))))
 (s_raise (s_cons (s_c _) (s_cons (s_B b_len (s_cons (s_fld (s_slot 0)) s_nil)) s_nil)))
 s_next)
 (s_seq (s_asg (s_lstRg1 (s_var 1)) (sg_n 3))
 (s_seq (s_for (s_enum (s_fld (s_slot 0))) (sg_t (sg_cons (sg_n 4) (sg_cons (sg_n 5) sg_nil)))
 (s_seq (s_for (s_seqI (s_tup (s_cons (s_fld (s_var 5)) (s_cons (s_fld (s_var 5)) s_nil)))) (sg_n 6)
 (s_ifs (s_not (s_tst (s_chain o_le o_lt (s_c _) (s_var 6) (s_var 1))))
 (s_raise (s_cons (s_var 6) s_nil))
 s_next))
 (s_seq (s_ifs (s_not (s_tst (s_chain o_le o_le (s_c _) (s_fld (s_var 5)) (s_c _))))
 (s_raise (s_cons (s_c _) (s_cons (s_fld (s_var 5)) s_nil)))
 s_next)
 (s_seq (s_ifs (s_tst (s_opE (s_op o_ix (s_var 3) (s_fld (s_var 5))) (s_op o_ix (s_var 3) (s_fld (s_var 5)))))
 (s_raise (s_cons (s_var 4) s_nil))
 s_next)
 (s_seq (s_asg (s_op o_ix (s_var 3) (s_fld (s_var 5))) (sg_n 7))
 (s_asg (s_lc (s_seqI (s_var 3)) (sg_n 8) s_yes (s_if (s_tst (s_opE (s_var 8) (s_var 7))) (s_op o_ix (s_var 3) (s_fld (s_var 5))) (s_var 8))) (sg_n 3)))))))
 (s_setF F_ways 0 (s_lc (s_range1 (s_cons (s_var 1) s_nil)) (sg_n 6) s_yes (s_call s_ways_from (s_cons (s_slot 0) (s_cons (s_var 6) s_nil)))))))))))
def x__law_said : XF := xDef 2 4 []
 (xSeq (xTry qx_TrainError 2 (xDrop (xMake C_Tree x_Tree___init__ [] (xCons (xVar 0) (xCons (xVar 1) xNil))))
 (fun c => (xSeq (xAsg (xLst (xCons (xIsX 2 c qx_BadCount) (xCons (xIsX 2 c qx_NoCrossing) (xCons (xIsX 2 c qx_RingRoad) xNil)))) (xgName 3))
 (xSeq (xIfS (xOr (xTst (xOpE (eqX S0 6 not) (xPL countX (xVar 3) (xCons (xC (.bl true)) xNil)) (xC (.int 1)))) (xOr (xTst (xIsX 2 c qx_NoRoad_OffRoad)) (xNot (xTst (xIsX 2 c qx_ValueError)))))
 (xRet (xTup (xCons (xC (.str ("several" : Str))) (xCons (xC .non) xNil))))
 xNext)
 (xSeq (xIfS (xTst (xOp ixX (xVar 3) (xC (.int 0))))
 (xRet (xTup (xCons (xXf 2 F_what) (xCons (xXf 2 F_count) xNil))))
 xNext)
 (xRet (xIf (xTst (xOp ixX (xVar 3) (xC (.int 1)))) (xTup (xCons (xC (.str ("crossing" : Str))) (xCons (xXf 2 F_crossing) xNil))) (xTup (xCons (xC (.str ("ring" : Str))) (xCons (xXf 2 F_road) xNil))))))))))
 (xRet (xC .non)))
def b__law_said : XS :=
 (xSeq (xTry qx_TrainError 2 (xDrop (xMake C_Tree x_Tree___init__ [] (xCons (xVar 0) (xCons (xVar 1) xNil))))
 (fun c => (xSeq (xAsg (xLst (xCons (xIsX 2 c qx_BadCount) (xCons (xIsX 2 c qx_NoCrossing) (xCons (xIsX 2 c qx_RingRoad) xNil)))) (xgName 3))
 (xSeq (xIfS (xOr (xTst (xOpE (eqX S0 6 not) (xPL countX (xVar 3) (xCons (xC (.bl true)) xNil)) (xC (.int 1)))) (xOr (xTst (xIsX 2 c qx_NoRoad_OffRoad)) (xNot (xTst (xIsX 2 c qx_ValueError)))))
 (xRet (xTup (xCons (xC (.str ("several" : Str))) (xCons (xC .non) xNil))))
 xNext)
 (xSeq (xIfS (xTst (xOp ixX (xVar 3) (xC (.int 0))))
 (xRet (xTup (xCons (xXf 2 F_what) (xCons (xXf 2 F_count) xNil))))
 xNext)
 (xRet (xIf (xTst (xOp ixX (xVar 3) (xC (.int 1)))) (xTup (xCons (xC (.str ("crossing" : Str))) (xCons (xXf 2 F_crossing) xNil))) (xTup (xCons (xC (.str ("ring" : Str))) (xCons (xXf 2 F_road) xNil))))))))))
 (xRet (xC .non)))
theorem u__law_said {v0 v1 : D} : x__law_said [v0, v1] = xfin [] (b__law_said [some v0, some v1, none, none]) := rfl
theorem s__law_said : SndF [] [] false x__law_said m__law_said := s_def (sl := ⟨[], [], [], [2], [], false, none⟩) (by decide)
 (s_seq (s_try (s_drop (s_make s_Tree___init__ (s_cons (s_var 0) (s_cons (s_var 1) s_nil))))
 (fun a dd c => (s_seq (s_asg (s_lst (s_cons s_isX (s_cons s_isX (s_cons s_isX s_nil)))) (sg_n 3))
 (s_seq (s_ifs (s_or (s_tst (s_opE (s_pl px_count (s_var 3) (s_cons (s_c _) s_nil)) (s_c _))) (s_or (s_tst s_isX) (s_not (s_tst s_isX))))
 (s_ret (s_tup (s_cons (s_c _) (s_cons (s_c _) s_nil))))
 s_next)
 (s_seq (s_ifs (s_tst (s_op o_ix (s_var 3) (s_c _)))
 (s_ret (s_tup (s_cons s_xf (s_cons s_xf s_nil))))
 s_next)
 (s_ret (s_if (s_tst (s_op o_ix (s_var 3) (s_c _))) (s_tup (s_cons (s_c _) (s_cons s_xf s_nil))) (s_tup (s_cons (s_c _) (s_cons s_xf s_nil))))))))))
 (s_ret (s_c _)))
def x__law_source : XF := xDef 1 1 []
 (xRetC (xLst (xCons (xB absX (xCons (xVar 0) xNil)) (xCons (xOp modX (xVar 0) (xC (.int 2147483629))) (xCons (xC (.int 0)) xNil)))))
def b__law_source : XS :=
 (xRetC (xLst (xCons (xB absX (xCons (xVar 0) xNil)) (xCons (xOp modX (xVar 0) (xC (.int 2147483629))) (xCons (xC (.int 0)) xNil)))))
theorem u__law_source {v0 : D} : x__law_source [v0] = xfin [] (b__law_source [some v0]) := rfl
theorem s__law_source : SndF [] [] true x__law_source m__law_source := s_def (sl := ⟨[], [], [], [], [], true, none⟩) (by decide)
 (s_retC (c_lst (s_cons (s_B b_abs (s_cons (s_var 0) s_nil)) (s_cons (s_op o_mod (s_var 0) (s_c _)) (s_cons (s_c _) s_nil)))))
def x__law_pick : XF := xDef 2 2 [0]
 (xRet (xOp ixX (xSlot 1) (xCallM x__law_draw [] 0 (xCons (xSlot 0) (xCons (xB lenX (xCons (xSlot 1) xNil)) xNil)))))
def b__law_pick : XS :=
 (xRet (xOp ixX (xSlot 1) (xCallM x__law_draw [] 0 (xCons (xSlot 0) (xCons (xB lenX (xCons (xSlot 1) xNil)) xNil)))))
theorem u__law_pick {v0 v1 : D} : x__law_pick [v0, v1] = xfin [0] (b__law_pick [some v0, some v1]) := rfl
theorem s__law_pick : SndF [0] [1] false x__law_pick m__law_pick := s_def (sl := ⟨[0], [1], [0], [], [1], false, none⟩) (by decide)
 (s_ret (s_op o_ix (s_slot 1) (s_callM s__law_draw (s_cons (s_slot 0) (s_cons (s_B b_len (s_cons (s_slot 1) s_nil)) s_nil)))))
def x__law_spoilt : XF := xDef 3 10 [0]
 (xSeq (xAsg (xCallM x__law_draw [] 0 (xCons (xSlot 0) (xCons (xC (.int 9)) xNil))) (xgName 3))
 (xSeq (xIfS (xTst (xOpE (eqX S2 6 id) (xVar 3) (xC (.int 0))))
 (xRet (xTup (xCons (xCallM x__law_pick [1] 0 (xCons (xSlot 0) (xCons (xLst (xCons (xOp addX (xVar 1) (xC (.int 1))) (xCons (xOp subX (xVar 1) (xC (.int 1))) (xCons (xC (.int 0)) (xCons (xC (.int 1)) (xCons (xC (.int (-2))) (xCons (xC (.int 25)) (xCons (xC (.int 1000000000)) xNil)))))))) xNil))) (xCons (xVar 2) xNil))))
 xNext)
 (xSeq (xIfS (xTst (xOpE (eqX S2 6 id) (xVar 2) (xLst xNil)))
 (xRet (xTup (xCons (xVar 1) (xCons (xLst (xCons (xTup (xCons (xC (.int 0)) (xCons (xC (.int 1)) (xCons (xC (.int 1)) xNil)))) xNil)) xNil))))
 xNext)
 (xSeq (xAsg (xCallM x__law_draw [] 0 (xCons (xSlot 0) (xCons (xB lenX (xCons (xVar 2) xNil)) xNil))) (xgName 4))
 (xSeq (xAsg (xOp ixX (xVar 2) (xVar 4)) (xgTup 3 (xgCons (xgName 7) (xgCons (xgName 8) (xgCons (xgName 9) xgNil)))))
 (xSeq (xIfS (xTst (xOpE (eqX S2 6 id) (xVar 3) (xC (.int 1))))
 (xRet (xTup (xCons (xVar 1) (xCons (xOp addX (xSl (xVar 2) xNoPart (xPart (xVar 4))) (xSl (xVar 2) (xPart (xOp addX (xVar 4) (xC (.int 1)))) xNoPart)) xNil))))
 xNext)
 (xSeq (xIfS (xTst (xOpE (eqX S2 6 id) (xVar 3) (xC (.int 2))))
 (xRet (xTup (xCons (xVar 1) (xCons (xOp addX (xSl (xVar 2) xNoPart (xPart (xOp addX (xVar 4) (xC (.int 1))))) (xSl (xVar 2) (xPart (xVar 4)) xNoPart)) xNil))))
 xNext)
 (xSeq (xIfS (xTst (xOpE (eqX S2 6 id) (xVar 3) (xC (.int 3))))
 (xRet (xTup (xCons (xVar 1) (xCons (xOp addX (xOp addX (xSl (xVar 2) xNoPart (xPart (xVar 4))) (xLst (xCons (xOp ixX (xVar 2) (xOp subX (xVar 4) (xC (.int 1)))) xNil))) (xSl (xVar 2) (xPart (xOp addX (xVar 4) (xC (.int 1)))) xNoPart)) xNil))))
 xNext)
 (xSeq (xAsg (xCallM x__law_pick [1] 0 (xCons (xSlot 0) (xCons (xLst (xCons (xVar 1) (xCons (xC (.int (-1))) (xCons (xOp addX (xVar 1) (xC (.int 5))) (xCons (xOp subX (xC (.int 0)) (xVar 1)) xNil))))) xNil))) (xgName 5))
 (xSeq (xAsgC (xLst (xCons (xTup (xCons (xVar 5) (xCons (xVar 8) (xCons (xVar 9) xNil)))) (xCons (xTup (xCons (xVar 7) (xCons (xVar 5) (xCons (xVar 9) xNil)))) (xCons (xTup (xCons (xVar 5) (xCons (xVar 5) (xCons (xVar 9) xNil)))) (xCons (xTup (xCons (xVar 7) (xCons (xVar 7) (xCons (xVar 9) xNil)))) (xCons (xTup (xCons (xVar 7) (xCons (xVar 8) (xCons (xC (.int 0)) xNil)))) xNil)))))) 6)
 (xSeq (xAsgC (xOp catX (xSlot 6) (xLst (xCons (xTup (xCons (xVar 7) (xCons (xVar 8) (xCons (xOp subX (xC (.int 0)) (xVar 9)) xNil)))) (xCons (xTup (xCons (xVar 7) (xCons (xVar 8) (xCons (xC (.int 1000000001)) xNil)))) (xCons (xTup (xCons (xVar 7) (xCons (xVar 8) (xCons (xC (.int 1000000000)) xNil)))) (xCons (xTup (xCons (xVar 8) (xCons (xVar 7) (xCons (xVar 9) xNil)))) xNil)))))) 6)
 (xSeq (xDrop (xLM appendX 6 (xCons (xTup (xCons (xCallM x__law_draw [] 0 (xCons (xSlot 0) (xCons (xC (.int 3)) xNil))) (xCons (xCallM x__law_draw [] 0 (xCons (xSlot 0) (xCons (xC (.int 5)) xNil))) (xCons (xVar 9) xNil)))) xNil)))
 (xRet (xTup (xCons (xVar 1) (xCons (xOp addX (xOp addX (xSl (xVar 2) xNoPart (xPart (xVar 4))) (xLst (xCons (xCallM x__law_pick [1] 0 (xCons (xSlot 0) (xCons (xSlot 6) xNil))) xNil))) (xSl (xVar 2) (xPart (xOp addX (xVar 4) (xC (.int 1)))) xNoPart)) xNil))))))))))))))))
def b__law_spoilt : XS :=
 (xSeq (xAsg (xCallM x__law_draw [] 0 (xCons (xSlot 0) (xCons (xC (.int 9)) xNil))) (xgName 3))
 (xSeq (xIfS (xTst (xOpE (eqX S2 6 id) (xVar 3) (xC (.int 0))))
 (xRet (xTup (xCons (xCallM x__law_pick [1] 0 (xCons (xSlot 0) (xCons (xLst (xCons (xOp addX (xVar 1) (xC (.int 1))) (xCons (xOp subX (xVar 1) (xC (.int 1))) (xCons (xC (.int 0)) (xCons (xC (.int 1)) (xCons (xC (.int (-2))) (xCons (xC (.int 25)) (xCons (xC (.int 1000000000)) xNil)))))))) xNil))) (xCons (xVar 2) xNil))))
 xNext)
 (xSeq (xIfS (xTst (xOpE (eqX S2 6 id) (xVar 2) (xLst xNil)))
 (xRet (xTup (xCons (xVar 1) (xCons (xLst (xCons (xTup (xCons (xC (.int 0)) (xCons (xC (.int 1)) (xCons (xC (.int 1)) xNil)))) xNil)) xNil))))
 xNext)
 (xSeq (xAsg (xCallM x__law_draw [] 0 (xCons (xSlot 0) (xCons (xB lenX (xCons (xVar 2) xNil)) xNil))) (xgName 4))
 (xSeq (xAsg (xOp ixX (xVar 2) (xVar 4)) (xgTup 3 (xgCons (xgName 7) (xgCons (xgName 8) (xgCons (xgName 9) xgNil)))))
 (xSeq (xIfS (xTst (xOpE (eqX S2 6 id) (xVar 3) (xC (.int 1))))
 (xRet (xTup (xCons (xVar 1) (xCons (xOp addX (xSl (xVar 2) xNoPart (xPart (xVar 4))) (xSl (xVar 2) (xPart (xOp addX (xVar 4) (xC (.int 1)))) xNoPart)) xNil))))
 xNext)
 (xSeq (xIfS (xTst (xOpE (eqX S2 6 id) (xVar 3) (xC (.int 2))))
 (xRet (xTup (xCons (xVar 1) (xCons (xOp addX (xSl (xVar 2) xNoPart (xPart (xOp addX (xVar 4) (xC (.int 1))))) (xSl (xVar 2) (xPart (xVar 4)) xNoPart)) xNil))))
 xNext)
 (xSeq (xIfS (xTst (xOpE (eqX S2 6 id) (xVar 3) (xC (.int 3))))
 (xRet (xTup (xCons (xVar 1) (xCons (xOp addX (xOp addX (xSl (xVar 2) xNoPart (xPart (xVar 4))) (xLst (xCons (xOp ixX (xVar 2) (xOp subX (xVar 4) (xC (.int 1)))) xNil))) (xSl (xVar 2) (xPart (xOp addX (xVar 4) (xC (.int 1)))) xNoPart)) xNil))))
 xNext)
 (xSeq (xAsg (xCallM x__law_pick [1] 0 (xCons (xSlot 0) (xCons (xLst (xCons (xVar 1) (xCons (xC (.int (-1))) (xCons (xOp addX (xVar 1) (xC (.int 5))) (xCons (xOp subX (xC (.int 0)) (xVar 1)) xNil))))) xNil))) (xgName 5))
 (xSeq (xAsgC (xLst (xCons (xTup (xCons (xVar 5) (xCons (xVar 8) (xCons (xVar 9) xNil)))) (xCons (xTup (xCons (xVar 7) (xCons (xVar 5) (xCons (xVar 9) xNil)))) (xCons (xTup (xCons (xVar 5) (xCons (xVar 5) (xCons (xVar 9) xNil)))) (xCons (xTup (xCons (xVar 7) (xCons (xVar 7) (xCons (xVar 9) xNil)))) (xCons (xTup (xCons (xVar 7) (xCons (xVar 8) (xCons (xC (.int 0)) xNil)))) xNil)))))) 6)
 (xSeq (xAsgC (xOp catX (xSlot 6) (xLst (xCons (xTup (xCons (xVar 7) (xCons (xVar 8) (xCons (xOp subX (xC (.int 0)) (xVar 9)) xNil)))) (xCons (xTup (xCons (xVar 7) (xCons (xVar 8) (xCons (xC (.int 1000000001)) xNil)))) (xCons (xTup (xCons (xVar 7) (xCons (xVar 8) (xCons (xC (.int 1000000000)) xNil)))) (xCons (xTup (xCons (xVar 8) (xCons (xVar 7) (xCons (xVar 9) xNil)))) xNil)))))) 6)
 (xSeq (xDrop (xLM appendX 6 (xCons (xTup (xCons (xCallM x__law_draw [] 0 (xCons (xSlot 0) (xCons (xC (.int 3)) xNil))) (xCons (xCallM x__law_draw [] 0 (xCons (xSlot 0) (xCons (xC (.int 5)) xNil))) (xCons (xVar 9) xNil)))) xNil)))
 (xRet (xTup (xCons (xVar 1) (xCons (xOp addX (xOp addX (xSl (xVar 2) xNoPart (xPart (xVar 4))) (xLst (xCons (xCallM x__law_pick [1] 0 (xCons (xSlot 0) (xCons (xSlot 6) xNil))) xNil))) (xSl (xVar 2) (xPart (xOp addX (xVar 4) (xC (.int 1)))) xNoPart)) xNil))))))))))))))))
theorem u__law_spoilt {v0 v1 v2 : D} : x__law_spoilt [v0, v1, v2] = xfin [0] (b__law_spoilt [some v0, some v1, some v2, none, none, none, none, none, none, none]) := rfl
theorem s__law_spoilt : SndF [0] [] false x__law_spoilt m__law_spoilt := s_def (sl := ⟨[0, 6], [], [0], [], [], false, none⟩) (by decide)
 (s_seq (s_asg (s_callM s__law_draw (s_cons (s_slot 0) (s_cons (s_c _) s_nil))) (sg_n 3))
 (s_seq (s_ifs (s_tst (s_opE (s_var 3) (s_c _)))
 (s_ret (s_tup (s_cons (s_callM s__law_pick (s_cons (s_slot 0) (s_cons (s_lst (s_cons (s_op o_add (s_var 1) (s_c _)) (s_cons (s_op o_sub (s_var 1) (s_c _)) (s_cons (s_c _) (s_cons (s_c _) (s_cons (s_c _) (s_cons (s_c _) (s_cons (s_c _) s_nil)))))))) s_nil))) (s_cons (s_var 2) s_nil))))
 s_next)
 (s_seq (s_ifs (s_tst (s_opE (s_var 2) (s_lst s_nil)))
 (s_ret (s_tup (s_cons (s_var 1) (s_cons (s_lst (s_cons (s_tup (s_cons (s_c _) (s_cons (s_c _) (s_cons (s_c _) s_nil)))) s_nil)) s_nil))))
 s_next)
 (s_seq (s_asg (s_callM s__law_draw (s_cons (s_slot 0) (s_cons (s_B b_len (s_cons (s_var 2) s_nil)) s_nil))) (sg_n 4))
 (s_seq (s_asg (s_op o_ix (s_var 2) (s_var 4)) (sg_t (sg_cons (sg_n 7) (sg_cons (sg_n 8) (sg_cons (sg_n 9) sg_nil)))))
 (s_seq (s_ifs (s_tst (s_opE (s_var 3) (s_c _)))
 (s_ret (s_tup (s_cons (s_var 1) (s_cons (s_op o_add (s_sl (s_var 2) so_no (so_pt (s_var 4))) (s_sl (s_var 2) (so_pt (s_op o_add (s_var 4) (s_c _))) so_no)) s_nil))))
 s_next)
 (s_seq (s_ifs (s_tst (s_opE (s_var 3) (s_c _)))
 (s_ret (s_tup (s_cons (s_var 1) (s_cons (s_op o_add (s_sl (s_var 2) so_no (so_pt (s_op o_add (s_var 4) (s_c _)))) (s_sl (s_var 2) (so_pt (s_var 4)) so_no)) s_nil))))
 s_next)
 (s_seq (s_ifs (s_tst (s_opE (s_var 3) (s_c _)))
 (s_ret (s_tup (s_cons (s_var 1) (s_cons (s_op o_add (s_op o_add (s_sl (s_var 2) so_no (so_pt (s_var 4))) (s_lst (s_cons (s_op o_ix (s_var 2) (s_op o_sub (s_var 4) (s_c _))) s_nil))) (s_sl (s_var 2) (so_pt (s_op o_add (s_var 4) (s_c _))) so_no)) s_nil))))
 s_next)
 (s_seq (s_asg (s_callM s__law_pick (s_cons (s_slot 0) (s_cons (s_lst (s_cons (s_var 1) (s_cons (s_c _) (s_cons (s_op o_add (s_var 1) (s_c _)) (s_cons (s_op o_sub (s_c _) (s_var 1)) s_nil))))) s_nil))) (sg_n 5))
 (s_seq (s_asgC 6 (c_lst (s_cons (s_tup (s_cons (s_var 5) (s_cons (s_var 8) (s_cons (s_var 9) s_nil)))) (s_cons (s_tup (s_cons (s_var 7) (s_cons (s_var 5) (s_cons (s_var 9) s_nil)))) (s_cons (s_tup (s_cons (s_var 5) (s_cons (s_var 5) (s_cons (s_var 9) s_nil)))) (s_cons (s_tup (s_cons (s_var 7) (s_cons (s_var 7) (s_cons (s_var 9) s_nil)))) (s_cons (s_tup (s_cons (s_var 7) (s_cons (s_var 8) (s_cons (s_c _) s_nil)))) s_nil)))))))
 (s_seq (s_asgC 6 (c_cat (s_slot 6) (s_lst (s_cons (s_tup (s_cons (s_var 7) (s_cons (s_var 8) (s_cons (s_op o_sub (s_c _) (s_var 9)) s_nil)))) (s_cons (s_tup (s_cons (s_var 7) (s_cons (s_var 8) (s_cons (s_c _) s_nil)))) (s_cons (s_tup (s_cons (s_var 7) (s_cons (s_var 8) (s_cons (s_c _) s_nil)))) (s_cons (s_tup (s_cons (s_var 8) (s_cons (s_var 7) (s_cons (s_var 9) s_nil)))) s_nil)))))))
 (s_seq (s_drop (s_lm 6 mx_append (s_cons (s_tup (s_cons (s_callM s__law_draw (s_cons (s_slot 0) (s_cons (s_c _) s_nil))) (s_cons (s_callM s__law_draw (s_cons (s_slot 0) (s_cons (s_c _) s_nil))) (s_cons (s_var 9) s_nil)))) s_nil)))
 (s_ret (s_tup (s_cons (s_var 1) (s_cons (s_op o_add (s_op o_add (s_sl (s_var 2) so_no (so_pt (s_var 4))) (s_lst (s_cons (s_callM s__law_pick (s_cons (s_slot 0) (s_cons (s_slot 6) s_nil))) s_nil))) (s_sl (s_var 2) (so_pt (s_op o_add (s_var 4) (s_c _))) so_no)) s_nil))))))))))))))))
def x__law_shuffled : XF := xDef 2 4 [0]
 (xSeq (xAsgC (xB listX (xCons (xSlot 1) xNil)) 2)
 (xSeq (xAsgC (xLst xNil) 3)
 (xSeq (xWhile (xTst (xOpE (eqX S2 6 not) (xSlot 2) (xLst xNil)))
 (xDrop (xLM appendX 3 (xCons (xLM popX 2 (xCons (xCallM x__law_draw [] 0 (xCons (xSlot 0) (xCons (xB lenX (xCons (xSlot 2) xNil)) xNil))) xNil)) xNil))))
 (xRet (xFrz 3)))))
def t__law_shuffled_1 : XT := (xTst (xOpE (eqX S2 6 not) (xSlot 2) (xLst xNil)))
def l__law_shuffled_1 : XS := (xDrop (xLM appendX 3 (xCons (xLM popX 2 (xCons (xCallM x__law_draw [] 0 (xCons (xSlot 0) (xCons (xB lenX (xCons (xSlot 2) xNil)) xNil))) xNil)) xNil)))
def b__law_shuffled : XS :=
 (xSeq (xAsgC (xB listX (xCons (xSlot 1) xNil)) 2)
 (xSeq (xAsgC (xLst xNil) 3)
 (xSeq (xWhile t__law_shuffled_1
 l__law_shuffled_1)
 (xRet (xFrz 3)))))
theorem u__law_shuffled {v0 v1 : D} : x__law_shuffled [v0, v1] = xfin [0] (b__law_shuffled [some v0, some v1, none, none]) := rfl
theorem s__law_shuffled : SndF [0] [1] false x__law_shuffled m__law_shuffled := s_def (sl := ⟨[0, 2, 3], [1], [0], [], [1], false, none⟩) (by decide)
 (s_seq (s_asgC 2 (c_list (s_cons (s_slot 1) s_nil)))
 (s_seq (s_asgC 3 (c_lst s_nil))
 (s_seq (s_while (s_tst (s_opE (s_slot 2) (s_lst s_nil)))
 (s_drop (s_lm 3 mx_append (s_cons (s_lm 2 mx_pop (s_cons (s_callM s__law_draw (s_cons (s_slot 0) (s_cons (s_B b_len (s_cons (s_slot 2) s_nil)) s_nil))) s_nil)) s_nil))))
 (s_ret (s_frz 3)))))
def x__law_tree : XF := xDef 3 8 [0]
 (xSeq (xAsg (xOp addX (xC (.int 2)) (xCallM x__law_draw [] 0 (xCons (xSlot 0) (xCons (xOp subX (xVar 1) (xC (.int 1))) xNil)))) (xgName 3))
 (xSeq (xAsg (xCallM x__law_shuffled [1] 0 (xCons (xSlot 0) (xCons (xLstRg1 (xVar 3)) xNil))) (xgName 4))
 (xSeq (xAsgC (xLst xNil) 5)
 (xSeq (xFor (xRange2 (xCons (xC (.int 1)) (xCons (xVar 3) xNil))) (xgName 6)
 (xSeq (xAsgC (xLst (xCons (xOp ixX (xVar 4) (xVar 6)) (xCons (xOp ixX (xVar 4) (xCallM x__law_pick [1] 0 (xCons (xSlot 0) (xCons (xLst (xCons (xOp subX (xVar 6) (xC (.int 1))) (xCons (xC (.int 0)) (xCons (xCallM x__law_draw [] 0 (xCons (xSlot 0) (xCons (xVar 6) xNil))) xNil)))) xNil)))) xNil))) 7)
 (xSeq (xIfS (xTst (xOpE (eqX S2 6 id) (xCallM x__law_draw [] 0 (xCons (xSlot 0) (xCons (xC (.int 2)) xNil))) (xC (.int 0))))
 (xDrop (xLM reverseX 7 xNil))
 xNext)
 (xDrop (xLM appendX 5 (xCons (xTup (xCons (xOp ixX (xSlot 7) (xC (.int 0))) (xCons (xOp ixX (xSlot 7) (xC (.int 1))) (xCons (xCallM x__law_pick [1] 0 (xCons (xSlot 0) (xCons (xLst (xCons (xC (.int 1)) (xCons (xC (.int 2)) (xCons (xOp addX (xC (.int 1)) (xCallM x__law_draw [] 0 (xCons (xSlot 0) (xCons (xVar 2) xNil)))) xNil)))) xNil))) xNil)))) xNil))))))
 (xRet (xTup (xCons (xVar 3) (xCons (xCallM x__law_shuffled [1] 0 (xCons (xSlot 0) (xCons (xSlot 5) xNil))) xNil))))))))
def g__law_tree_1 : XG := (xgName 6)
def l__law_tree_1 : XS := (xSeq (xAsgC (xLst (xCons (xOp ixX (xVar 4) (xVar 6)) (xCons (xOp ixX (xVar 4) (xCallM x__law_pick [1] 0 (xCons (xSlot 0) (xCons (xLst (xCons (xOp subX (xVar 6) (xC (.int 1))) (xCons (xC (.int 0)) (xCons (xCallM x__law_draw [] 0 (xCons (xSlot 0) (xCons (xVar 6) xNil))) xNil)))) xNil)))) xNil))) 7)
 (xSeq (xIfS (xTst (xOpE (eqX S2 6 id) (xCallM x__law_draw [] 0 (xCons (xSlot 0) (xCons (xC (.int 2)) xNil))) (xC (.int 0))))
 (xDrop (xLM reverseX 7 xNil))
 xNext)
 (xDrop (xLM appendX 5 (xCons (xTup (xCons (xOp ixX (xSlot 7) (xC (.int 0))) (xCons (xOp ixX (xSlot 7) (xC (.int 1))) (xCons (xCallM x__law_pick [1] 0 (xCons (xSlot 0) (xCons (xLst (xCons (xC (.int 1)) (xCons (xC (.int 2)) (xCons (xOp addX (xC (.int 1)) (xCallM x__law_draw [] 0 (xCons (xSlot 0) (xCons (xVar 2) xNil)))) xNil)))) xNil))) xNil)))) xNil)))))
def b__law_tree : XS :=
 (xSeq (xAsg (xOp addX (xC (.int 2)) (xCallM x__law_draw [] 0 (xCons (xSlot 0) (xCons (xOp subX (xVar 1) (xC (.int 1))) xNil)))) (xgName 3))
 (xSeq (xAsg (xCallM x__law_shuffled [1] 0 (xCons (xSlot 0) (xCons (xLstRg1 (xVar 3)) xNil))) (xgName 4))
 (xSeq (xAsgC (xLst xNil) 5)
 (xSeq (xFor (xRange2 (xCons (xC (.int 1)) (xCons (xVar 3) xNil))) g__law_tree_1
 l__law_tree_1)
 (xRet (xTup (xCons (xVar 3) (xCons (xCallM x__law_shuffled [1] 0 (xCons (xSlot 0) (xCons (xSlot 5) xNil))) xNil))))))))
theorem u__law_tree {v0 v1 v2 : D} : x__law_tree [v0, v1, v2] = xfin [0] (b__law_tree [some v0, some v1, some v2, none, none, none, none, none]) := rfl
theorem s__law_tree : SndF [0] [] false x__law_tree m__law_tree := s_def (sl := ⟨[0, 5, 7], [], [0], [], [], false, none⟩) (by decide)
 (s_seq (s_asg (s_op o_add (s_c _) (s_callM s__law_draw (s_cons (s_slot 0) (s_cons (s_op o_sub (s_var 1) (s_c _)) s_nil)))) (sg_n 3))
 (s_seq (s_asg (s_callM s__law_shuffled (s_cons (s_slot 0) (s_cons (s_lstRg1 (s_var 3)) s_nil))) (sg_n 4))
 (s_seq (s_asgC 5 (c_lst s_nil))
 (s_seq (s_for (s_range2 (s_cons (s_c _) (s_cons (s_var 3) s_nil))) (sg_n 6)
 (s_seq (s_asgC 7 (c_lst (s_cons (s_op o_ix (s_var 4) (s_var 6)) (s_cons (s_op o_ix (s_var 4) (s_callM s__law_pick (s_cons (s_slot 0) (s_cons (s_lst (s_cons (s_op o_sub (s_var 6) (s_c _)) (s_cons (s_c _) (s_cons (s_callM s__law_draw (s_cons (s_slot 0) (s_cons (s_var 6) s_nil))) s_nil)))) s_nil)))) s_nil))))
 (s_seq (s_ifs (s_tst (s_opE (s_callM s__law_draw (s_cons (s_slot 0) (s_cons (s_c _) s_nil))) (s_c _)))
 (s_drop (s_lm 7 mx_reverse s_nil))
 s_next)
 (s_drop (s_lm 5 mx_append (s_cons (s_tup (s_cons (s_op o_ix (s_slot 7) (s_c _)) (s_cons (s_op o_ix (s_slot 7) (s_c _)) (s_cons (s_callM s__law_pick (s_cons (s_slot 0) (s_cons (s_lst (s_cons (s_c _) (s_cons (s_c _) (s_cons (s_op o_add (s_c _) (s_callM s__law_draw (s_cons (s_slot 0) (s_cons (s_var 2) s_nil)))) s_nil)))) s_nil))) s_nil)))) s_nil))))))
 (s_ret (s_tup (s_cons (s_var 3) (s_cons (s_callM s__law_shuffled (s_cons (s_slot 0) (s_cons (s_slot 5) s_nil))) s_nil))))))))
def x_law : XF := xDef 1 12 []
 (xSeq (xFor (xSeqI (xSl (xOp addX (xVar 0) (xLst (xCons (xC (.int 0)) xNil))) xNoPart (xPart (xC (.int 8))))) (xgName 1)
 (xSeq (xAsgC (xCallC x__law_source [] (xCons (xVar 1) xNil)) 2)
 (xFor (xRange1 (xCons (xC (.int 5)) xNil)) (xgName 3)
 (xSeq (xAsg (xCallM x__law_tree [] 2 (xCons (xSlot 2) (xCons (xC (.int 9)) (xCons (xC (.int 9)) xNil)))) (xgTup 2 (xgCons (xgName 7) (xgCons (xgName 8) xgNil))))
 (xSeq (xFor (xRange1 (xCons (xCallM x__law_draw [] 2 (xCons (xSlot 2) (xCons (xC (.int 4)) xNil))) xNil)) (xgName 4)
 (xAsg (xCallM x__law_spoilt [] 2 (xCons (xSlot 2) (xCons (xVar 7) (xCons (xVar 8) xNil)))) (xgTup 2 (xgCons (xgName 7) (xgCons (xgName 8) xgNil)))))
 (xSeq (xAsg (xLc (xSeqI (xVar 8)) (xgTup 3 (xgCons (xgName 9) (xgCons (xgName 10) (xgCons (xgName 11) xgNil)))) xYes (xMake C_Road x_Road___init__ [] (xCons (xVar 9) (xCons (xVar 10) (xCons (xVar 11) xNil)))) [9, 10, 11]) (xgName 5))
 (xSeq (xAsg (xB listX (xCons (xVar 5) xNil)) (xgName 6))
 (xSeq (xIfS (xOr (xTst (xOpE (eqX S2 6 not) (xCall x__law_said [] (xCons (xVar 7) (xCons (xVar 5) xNil))) (xCall x__law_due [] (xCons (xVar 7) (xCons (xVar 8) xNil))))) (xTst (xOpE (eqX S2 6 not) (xVar 5) (xVar 6))))
 (xRet (xC (.bl false)))
 xNext)
 (xIfS (xTst (xOpE (eqX S2 6 not) (xCall x__law_said [] (xCons (xVar 7) (xCons (xB tupleX (xCons (xVar 5) xNil)) xNil))) (xCall x__law_due [] (xCons (xVar 7) (xCons (xVar 8) xNil)))))
 (xRet (xC (.bl false)))
 xNext)))))))))
 (xRet (xC (.bl true))))
def g_law_3 : XG := (xgName 4)
def l_law_3 : XS := (xAsg (xCallM x__law_spoilt [] 2 (xCons (xSlot 2) (xCons (xVar 7) (xCons (xVar 8) xNil)))) (xgTup 2 (xgCons (xgName 7) (xgCons (xgName 8) xgNil))))
def g_law_4 : XG := (xgTup 3 (xgCons (xgName 9) (xgCons (xgName 10) (xgCons (xgName 11) xgNil))))
def c_law_4 : XE := (xMake C_Road x_Road___init__ [] (xCons (xVar 9) (xCons (xVar 10) (xCons (xVar 11) xNil))))
def g_law_2 : XG := (xgName 3)
def l_law_2 : XS := (xSeq (xAsg (xCallM x__law_tree [] 2 (xCons (xSlot 2) (xCons (xC (.int 9)) (xCons (xC (.int 9)) xNil)))) (xgTup 2 (xgCons (xgName 7) (xgCons (xgName 8) xgNil))))
 (xSeq (xFor (xRange1 (xCons (xCallM x__law_draw [] 2 (xCons (xSlot 2) (xCons (xC (.int 4)) xNil))) xNil)) g_law_3
 l_law_3)
 (xSeq (xAsg (xLc (xSeqI (xVar 8)) g_law_4 xYes c_law_4 [9, 10, 11]) (xgName 5))
 (xSeq (xAsg (xB listX (xCons (xVar 5) xNil)) (xgName 6))
 (xSeq (xIfS (xOr (xTst (xOpE (eqX S2 6 not) (xCall x__law_said [] (xCons (xVar 7) (xCons (xVar 5) xNil))) (xCall x__law_due [] (xCons (xVar 7) (xCons (xVar 8) xNil))))) (xTst (xOpE (eqX S2 6 not) (xVar 5) (xVar 6))))
 (xRet (xC (.bl false)))
 xNext)
 (xIfS (xTst (xOpE (eqX S2 6 not) (xCall x__law_said [] (xCons (xVar 7) (xCons (xB tupleX (xCons (xVar 5) xNil)) xNil))) (xCall x__law_due [] (xCons (xVar 7) (xCons (xVar 8) xNil)))))
 (xRet (xC (.bl false)))
 xNext))))))
def g_law_1 : XG := (xgName 1)
def l_law_1 : XS := (xSeq (xAsgC (xCallC x__law_source [] (xCons (xVar 1) xNil)) 2)
 (xFor (xRange1 (xCons (xC (.int 5)) xNil)) g_law_2
 l_law_2))
def b_law : XS :=
 (xSeq (xFor (xSeqI (xSl (xOp addX (xVar 0) (xLst (xCons (xC (.int 0)) xNil))) xNoPart (xPart (xC (.int 8))))) g_law_1
 l_law_1)
 (xRet (xC (.bl true))))
theorem u_law {v0 : D} : x_law [v0] = xfin [] (b_law [some v0, none, none, none, none, none, none, none, none, none, none, none]) := rfl
theorem s_law : SndF [] [] false x_law m_law := s_def (sl := ⟨[2], [], [], [], [], false, none⟩) (by decide)
 (s_seq (s_for (s_seqI (s_sl (s_op o_add (s_var 0) (s_lst (s_cons (s_c _) s_nil))) so_no (so_pt (s_c _)))) (sg_n 1)
 (s_seq (s_asgC 2 (c_call s__law_source (s_cons (s_var 1) s_nil)))
 (s_for (s_range1 (s_cons (s_c _) s_nil)) (sg_n 3)
 (s_seq (s_asg (s_callM s__law_tree (s_cons (s_slot 2) (s_cons (s_c _) (s_cons (s_c _) s_nil)))) (sg_t (sg_cons (sg_n 7) (sg_cons (sg_n 8) sg_nil))))
 (s_seq (s_for (s_range1 (s_cons (s_callM s__law_draw (s_cons (s_slot 2) (s_cons (s_c _) s_nil))) s_nil)) (sg_n 4)
 (s_asg (s_callM s__law_spoilt (s_cons (s_slot 2) (s_cons (s_var 7) (s_cons (s_var 8) s_nil)))) (sg_t (sg_cons (sg_n 7) (sg_cons (sg_n 8) sg_nil)))))
 (s_seq (s_asg (s_lc (s_seqI (s_var 8)) (sg_t (sg_cons (sg_n 9) (sg_cons (sg_n 10) (sg_cons (sg_n 11) sg_nil)))) s_yes (s_make s_Road___init__ (s_cons (s_var 9) (s_cons (s_var 10) (s_cons (s_var 11) s_nil))))) (sg_n 5))
 (s_seq (s_asg (s_B b_list (s_cons (s_var 5) s_nil)) (sg_n 6))
 (s_seq (s_ifs (s_or (s_tst (s_opE (s_call s__law_said (s_cons (s_var 7) (s_cons (s_var 5) s_nil))) (s_call s__law_due (s_cons (s_var 7) (s_cons (s_var 8) s_nil))))) (s_tst (s_opE (s_var 5) (s_var 6))))
 (s_ret (s_c _))
 s_next)
 (s_ifs (s_tst (s_opE (s_call s__law_said (s_cons (s_var 7) (s_cons (s_B b_tuple (s_cons (s_var 5) s_nil)) s_nil))) (s_call s__law_due (s_cons (s_var 7) (s_cons (s_var 8) s_nil)))))
 (s_ret (s_c _))
 s_next)))))))))
 (s_ret (s_c _)))
end HT

/-! XA1: what the laws k01 .. k10, k71 .. draw with; places, roads. -/
namespace HT
open PySem PySem.Spec L2 DL
local macro_rules | `(tactic| walk_at "x") => `(tactic| simp -implicitDefEqProofs +decide only [gt_0, gt_s, e_var, e_v1, e_slot, e_s1, e_c, drf_v, drf_s, e_r1, e_op, e_op1, e_op1e, e_op2, e_op2e, e_op3, e_oe, e_oe1, e_oe1e, e_oe2, e_oe2e, e_oe3, e_oe3l, e_oe3r, e_oe3b, e_ol, e_ol1, e_ol1e, e_ol2, e_ol2e, e_ol3, e_ol3l, e_u, e_u1, e_u1e, e_u2, e_tst, e_t1, e_t1e, e_t2, br3_t, br3_f, br3_d, br3_n, br3_a, e_and, e_and1, e_and1e, e_or, e_or1, e_or1e, e_not, e_not1, e_not1e, e_yes, e_av, e_av1, e_av1e, e_av2, e_ov, e_ov1, e_ov1e, e_ov2, e_nv, e_nv1, e_nv1e, e_nv2, e_if, e_if1, e_if1e, e_ch, e_ch1, e_ch3, e_ch4, e_ch2, e_nil, e_cons, e_c1, e_c1e, e_c2, e_c2e, vs_0, vs_1, co_s, e_tup, e_tu1, e_tu1e, e_tu2, e_lst, e_ls1, e_ls1e, e_ls2, av_0, av_v0, av_v, avb_f, av_s, avs_t, e_call, e_ca1, e_ca1e, e_ca2, e_R, e_Re, e_callC, e_cc1, e_cc1e, e_cc2, e_RC, e_callM, e_cm1, e_cm1e, e_cm2, nos_0, nos_v, e_R1, e_R1k, e_R1e, e_make, e_mk1, e_mk1e, e_mk2, e_Mk, e_Mke, e_meth, e_me1, e_me1e, e_me2, e_me2e, fin_nx, fin_rt, fin_ex, outs_0, outs_1, e_seq, q_nx, q_rt, q_bk, q_ct, q_ex, e_next, e_break, e_cont, e_retN, e_drop, e_dr1, e_dr1e, e_ret, e_re1, e_re1e, e_retC, e_rc1, e_rc1k, e_ifs, e_is1, e_is1e, e_asg, e_as1, e_as1e, e_as2, g_name, g_nil, g_cons, g_c1, g_tupT, g_tupL, e_asgC, e_ac1, e_ac1k, e_ac1e, e_par, e_pa1, e_pa1e, e_for, e_fo1, e_fo1e, e_forS, e_fs1, e_fs1t, fl_1, fl_nx, fl_ct, fl_bk, fl_rt, fl_ex, e_seqI, e_si1, e_si1t, e_si1e, e_enum, e_en1, e_en1t, e_zip, e_zi1, e_zi2, seq_l, seq_t, e_range1, e_range2, e_frz, e_fz, e_fzk, e_lm, e_lm1, e_lm2, e_lm2e, e_lm3, e_lm4, m_rev, m_clr, e_setI, e_siA, e_siAe, e_si0, e_si2, e_si3, e_si4, fzv_v, e_setF, e_sf1, e_sf1e, e_sf2, put_0, put_c, lk_c, u_fld, u_isN, u_isN_i, u_isN_s, u_isN_t, u_isN_l, u_isN_o, u_neg, e_B, e_B1, e_B1e, e_B2, ds_0, ds_v, ds_s, cs_s, b_lenl, b_lent, b_lenk, b_abs1, b_max2, b_min2, b_int1, b_intb, b_tupl, b_tupt, b_lisl, b_list', e_lr, o_addi, o_subi, o_muli, o_mulil, o_modi, o_lti, o_lei, o_gti, o_gei, o_eqi, o_eqn, o_eql0, ix_l, ix_t, ix_k, at_0, at_1, at_2, at_3, e_sl, e_sl1, e_sl2, e_sl3, e_sl4, sl_l, sl_t, e_nop, e_pt, e_pt1, e_lc, e_lcS, e_lcB, w_0, w_1, r_0, r_1, e_dnew, e_raise, e_raA, e_ra2, e_try, e_ty_nx, e_ty_rt, e_ty_bk, e_ty_ct, e_ty_ex, e_ty2, e_ty2f, e_ty3n, e_ty3r, e_ty3b, e_ty3c, e_xf, e_xf1, e_isX, e_ix1, e_ix2, ef_0, ef_1, e_isi, e_pl, e_pl1, e_plc, e_pl2, e_pl3, set_0, set_1, set_2, o_divs, el_0, el_c, nc_l, nc_t, nc_i, nc_s, nc_b, nc_n, nc_k, nc_o, nos_d, br3_b, kd_i, kd_s, e_disp, e_di1, e_di1e, e_ps0, e_ps1, e_pp1, e_pp1e, e_pp2i, e_pp2s, e_pp2e, e_pp3, e_pp3e, md_0, md_1, in_ki, in_ks, sm_t, sm_f, em_n, em_c, em_a, in_li, in_ti, List.set_cons_zero, List.set_cons_succ, List.length_cons, List.length_nil, Nat.reduceAdd, Nat.reduceLeDiff, Nat.reduceEqDiff, Nat.reduceLT, Int.reduceLT, Int.reduceLE, Int.reduceNeg, Int.reducePow, Int.reduceSub, Int.reduceAdd, Int.reduceToNat, if_true, if_false, ite_true, ite_false, reduceIte, and_self, and_true, true_and, false_and, and_false, Option.getD_some, Option.getD_none, Nat.zero_add, Nat.reduceSub, Nat.reducePow, Nat.reduceMul, reduceCtorEq, beq_self_eq_true, id_eq, List.map_nil, List.map_cons, Bool.not_true, Bool.not_false, Option.map_some, Option.bind_some, List.reverse_cons, List.reverse_nil, List.nil_append, List.cons_append, not_true_eq_false, not_false_eq_true, decide_true, decide_false, Bool.true_or, Bool.false_or, Bool.or_false, Bool.or_true, Int.toNat_natCast, decide_eq_true_eq, eq_self, Bool.true_and, Bool.and_true, Bool.false_and, Bool.and_false])
local macro_rules | `(tactic| walk_at "xa") => `(tactic| simp -implicitDefEqProofs +decide only [gt_0, gt_s, e_var, e_v1, e_slot, e_s1, e_c, drf_v, drf_s, e_r1, e_op, e_op1, e_op1e, e_op2, e_op2e, e_op3, e_oe, e_oe1, e_oe1e, e_oe2, e_oe2e, e_oe3, e_oe3l, e_oe3r, e_oe3b, e_ol, e_ol1, e_ol1e, e_ol2, e_ol2e, e_ol3, e_ol3l, e_u, e_u1, e_u1e, e_u2, e_tst, e_t1, e_t1e, e_t2, br3_t, br3_f, br3_d, br3_n, br3_a, e_and, e_and1, e_and1e, e_or, e_or1, e_or1e, e_not, e_not1, e_not1e, e_yes, e_av, e_av1, e_av1e, e_av2, e_ov, e_ov1, e_ov1e, e_ov2, e_nv, e_nv1, e_nv1e, e_nv2, e_if, e_if1, e_if1e, e_ch, e_ch1, e_ch3, e_ch4, e_ch2, e_nil, e_cons, e_c1, e_c1e, e_c2, e_c2e, vs_0, vs_1, co_s, e_tup, e_tu1, e_tu1e, e_tu2, e_lst, e_ls1, e_ls1e, e_ls2, av_0, av_v0, av_v, avb_f, av_s, avs_t, e_call, e_ca1, e_ca1e, e_ca2, e_R, e_Re, e_callC, e_cc1, e_cc1e, e_cc2, e_RC, e_callM, e_cm1, e_cm1e, e_cm2, nos_0, nos_v, e_R1, e_R1k, e_R1e, e_make, e_mk1, e_mk1e, e_mk2, e_Mk, e_Mke, e_meth, e_me1, e_me1e, e_me2, e_me2e, fin_nx, fin_rt, fin_ex, outs_0, outs_1, e_seq, q_nx, q_rt, q_bk, q_ct, q_ex, e_next, e_break, e_cont, e_retN, e_drop, e_dr1, e_dr1e, e_ret, e_re1, e_re1e, e_retC, e_rc1, e_rc1k, e_ifs, e_is1, e_is1e, e_asg, e_as1, e_as1e, e_as2, g_name, g_nil, g_cons, g_c1, g_tupT, g_tupL, e_asgC, e_ac1, e_ac1k, e_ac1e, e_par, e_pa1, e_pa1e, e_for, e_fo1, e_fo1e, e_forS, e_fs1, e_fs1t, fl_1, fl_nx, fl_ct, fl_bk, fl_rt, fl_ex, e_seqI, e_si1, e_si1t, e_si1e, e_enum, e_en1, e_en1t, e_zip, e_zi1, e_zi2, seq_l, seq_t, e_range1, e_range2, e_frz, e_fz, e_fzk, e_lm, e_lm1, e_lm2, e_lm2e, e_lm3, e_lm4, m_rev, m_clr, e_setI, e_siA, e_siAe, e_si0, e_si2, e_si3, e_si4, fzv_v, e_setF, e_sf1, e_sf1e, e_sf2, put_0, put_c, lk_c, u_fld, u_isN, u_isN_i, u_isN_s, u_isN_t, u_isN_l, u_isN_o, u_neg, e_B, e_B1, e_B1e, e_B2, ds_0, ds_v, ds_s, cs_s, b_lenl, b_lent, b_lenk, b_abs1, b_max2, b_min2, b_int1, b_intb, b_tupl, b_tupt, b_lisl, b_list', e_lr, o_addi, o_subi, o_muli, o_mulil, o_modi, o_lti, o_lei, o_gti, o_gei, o_eqi, o_eqn, o_eql0, ix_l, ix_t, ix_k, at_0, at_1, at_2, at_3, e_sl, e_sl1, e_sl2, e_sl3, e_sl4, sl_l, sl_t, e_nop, e_pt, e_pt1, e_lc, e_lcS, e_lcB, w_0, w_1, r_0, r_1, e_dnew, e_raise, e_raA, e_ra2, e_try, e_ty_nx, e_ty_rt, e_ty_bk, e_ty_ct, e_ty_ex, e_ty2, e_ty2f, e_ty3n, e_ty3r, e_ty3b, e_ty3c, e_xf, e_xf1, e_isX, e_ix1, e_ix2, ef_0, ef_1, e_isi, e_pl, e_pl1, e_plc, e_pl2, e_pl3, set_0, set_1, set_2, o_divs, el_0, el_c, nc_l, nc_t, nc_i, nc_s, nc_b, nc_n, nc_k, nc_o, nos_d, br3_b, kd_i, kd_s, e_disp, e_di1, e_di1e, e_ps0, e_ps1, e_pp1, e_pp1e, e_pp2i, e_pp2s, e_pp2e, e_pp3, e_pp3e, md_0, md_1, in_ki, in_ks, sm_t, sm_f, em_n, em_c, em_a, in_li, in_ti, List.set_cons_zero, List.set_cons_succ, List.length_cons, List.length_nil, Nat.reduceAdd, Nat.reduceLeDiff, Nat.reduceEqDiff, Nat.reduceLT, Int.reduceLT, Int.reduceLE, Int.reduceNeg, Int.reducePow, Int.reduceSub, Int.reduceAdd, Int.reduceToNat, if_true, if_false, ite_true, ite_false, reduceIte, and_self, and_true, true_and, false_and, and_false, Option.getD_some, Option.getD_none, Nat.zero_add, Nat.reduceSub, Nat.reducePow, Nat.reduceMul, reduceCtorEq, beq_self_eq_true, id_eq, List.map_nil, List.map_cons, Bool.not_true, Bool.not_false, Option.map_some, Option.bind_some, List.reverse_cons, List.reverse_nil, List.nil_append, List.cons_append, not_true_eq_false, not_false_eq_true, decide_true, decide_false, Bool.true_or, Bool.false_or, Bool.or_false, Bool.or_true, Int.toNat_natCast, decide_eq_true_eq, eq_self, Bool.true_and, Bool.and_true, Bool.false_and, Bool.and_false, *])
local macro_rules | `(tactic| walk_at "xl") => `(tactic| simp -implicitDefEqProofs +decide only [gt_0, gt_s, e_var, e_v1, e_slot, e_s1, e_c, drf_v, drf_s, e_r1, e_op, e_op1, e_op1e, e_op2, e_op2e, e_op3, e_oe, e_oe1, e_oe1e, e_oe2, e_oe2e, e_oe3, e_oe3l, e_oe3r, e_oe3b, e_ol, e_ol1, e_ol1e, e_ol2, e_ol2e, e_ol3, e_ol3l, e_u, e_u1, e_u1e, e_u2, e_tst, e_t1, e_t1e, e_t2, br3_t, br3_f, br3_d, br3_n, br3_a, e_and, e_and1, e_and1e, e_or, e_or1, e_or1e, e_not, e_not1, e_not1e, e_yes, e_av, e_av1, e_av1e, e_av2, e_ov, e_ov1, e_ov1e, e_ov2, e_nv, e_nv1, e_nv1e, e_nv2, e_if, e_if1, e_if1e, e_ch, e_ch1, e_ch3, e_ch4, e_ch2, e_nil, e_cons, e_c1, e_c1e, e_c2, e_c2e, vs_0, vs_1, co_s, e_tup, e_tu1, e_tu1e, e_tu2, e_lst, e_ls1, e_ls1e, e_ls2, av_0, av_v0, av_v, avb_f, av_s, avs_t, e_call, e_ca1, e_ca1e, e_ca2, e_R, e_Re, e_callC, e_cc1, e_cc1e, e_cc2, e_RC, e_callM, e_cm1, e_cm1e, e_cm2, nos_0, nos_v, e_R1, e_R1k, e_R1e, e_make, e_mk1, e_mk1e, e_mk2, e_Mk, e_Mke, e_meth, e_me1, e_me1e, e_me2, e_me2e, fin_nx, fin_rt, fin_ex, outs_0, outs_1, e_seq, q_nx, q_rt, q_bk, q_ct, q_ex, e_next, e_break, e_cont, e_retN, e_drop, e_dr1, e_dr1e, e_ret, e_re1, e_re1e, e_retC, e_rc1, e_rc1k, e_ifs, e_is1, e_is1e, e_asg, e_as1, e_as1e, e_as2, g_name, g_nil, g_cons, g_c1, g_tupT, g_tupL, e_asgC, e_ac1, e_ac1k, e_ac1e, e_par, e_pa1, e_pa1e, e_for, e_fo1, e_fo1e, e_forS, e_fs1, e_fs1t, fl_1, fl_nx, fl_ct, fl_bk, fl_rt, fl_ex, e_seqI, e_si1, e_si1t, e_si1e, e_enum, e_en1, e_en1t, e_zip, e_zi1, e_zi2, seq_l, seq_t, e_range1, e_range2, e_frz, e_fz, e_fzk, e_lm, e_lm1, e_lm2, e_lm2e, e_lm3, e_lm4, m_rev, m_clr, e_setI, e_siA, e_siAe, e_si0, e_si2, e_si3, e_si4, fzv_v, e_setF, e_sf1, e_sf1e, e_sf2, put_0, put_c, lk_c, u_fld, u_isN, u_isN_i, u_isN_s, u_isN_t, u_isN_l, u_isN_o, u_neg, e_B, e_B1, e_B1e, e_B2, ds_0, ds_v, ds_s, cs_s, b_lenl, b_lent, b_lenk, b_abs1, b_max2, b_min2, b_int1, b_intb, b_tupl, b_tupt, b_lisl, b_list', e_lr, o_addi, o_subi, o_muli, o_mulil, o_modi, o_lti, o_lei, o_gti, o_gei, o_eqi, o_eqn, o_eql0, ix_l, ix_t, ix_k, at_0, at_1, at_2, at_3, e_sl, e_sl1, e_sl2, e_sl3, e_sl4, sl_l, sl_t, e_nop, e_pt, e_pt1, e_lc, e_lcS, e_lcB, w_0, w_1, r_0, r_1, e_dnew, e_raise, e_raA, e_ra2, e_try, e_ty_nx, e_ty_rt, e_ty_bk, e_ty_ct, e_ty_ex, e_ty2, e_ty2f, e_ty3n, e_ty3r, e_ty3b, e_ty3c, e_xf, e_xf1, e_isX, e_ix1, e_ix2, ef_0, ef_1, e_isi, e_pl, e_pl1, e_plc, e_pl2, e_pl3, set_0, set_1, set_2, o_divs, el_0, el_c, nc_l, nc_t, nc_i, nc_s, nc_b, nc_n, nc_k, nc_o, nos_d, br3_b, kd_i, kd_s, e_disp, e_di1, e_di1e, e_ps0, e_ps1, e_pp1, e_pp1e, e_pp2i, e_pp2s, e_pp2e, e_pp3, e_pp3e, md_0, md_1, in_ki, in_ks, sm_t, sm_f, em_n, em_c, em_a, in_li, in_ti, List.set_cons_zero, List.set_cons_succ, List.length_cons, List.length_nil, Nat.reduceAdd, Nat.reduceLeDiff, Nat.reduceEqDiff, Nat.reduceLT, Int.reduceLT, Int.reduceLE, Int.reduceNeg, Int.reducePow, Int.reduceSub, Int.reduceAdd, Int.reduceToNat, if_true, if_false, ite_true, ite_false, reduceIte, and_self, and_true, true_and, false_and, and_false, Option.getD_some, Option.getD_none, Nat.zero_add, Nat.reduceSub, Nat.reducePow, Nat.reduceMul, reduceCtorEq, beq_self_eq_true, id_eq, List.map_nil, List.map_cons, Bool.not_true, Bool.not_false, Option.map_some, Option.bind_some, List.reverse_cons, List.reverse_nil, List.nil_append, List.cons_append, not_true_eq_false, not_false_eq_true, decide_true, decide_false, Bool.true_or, Bool.false_or, Bool.or_false, Bool.or_true, Int.toNat_natCast, decide_eq_true_eq, eq_self, Bool.true_and, Bool.and_true, Bool.false_and, Bool.and_false, fl_c, fl_0, *])
structure Src where
  x : Int
  y : Int
  z : Int
  hx : 0 ≤ x
  hy : 0 ≤ y
  hz : 0 ≤ z
def Src.d (s : Src) : D := .lst [.int s.x, .int s.y, .int s.z]
theorem draw_ok (s : Src) (n : Int) (h : 0 < n) (h2 : n < 4294967296) : ∃ (r : Int) (s' : Src), x__law_draw [s.d, .int n] = some (.ok (.int r) [s'.d]) ∧ 0 ≤ r ∧ r < n := by
  obtain ⟨x, y, z, hx, hy, hz⟩ := s
  simp only [Src.d, u__law_draw, b__law_draw]
  walk_at "x"
  by_cases c : 1000000000000000000 ≤ x
  · walk_at "xa"
    exact ⟨_, ⟨x / n, y, z, Int.ediv_nonneg hx (by omega), hy, hz⟩, rfl, Int.emod_nonneg _ (by omega), Int.emod_lt_of_pos _ h⟩
  · walk_at "xa"
    have m0 := Int.emod_nonneg ((y + 7919 * (z + 1) + 1) * 48271) (b := 2147483647) (by omega)
    have m1 := Int.emod_lt_of_pos ((y + 7919 * (z + 1) + 1) * 48271) (b := 2147483647) (by omega)
    rw [o_mulil ⟨by omega, by omega⟩]
    walk_at "xa"
    exact ⟨_, ⟨x, y, z + 1, hx, hy, by omega⟩, rfl, Int.emod_nonneg _ (by omega), Int.emod_lt_of_pos _ h⟩
theorem source_ok (x : Int) : ∃ s : Src, x__law_source [.int x] = some (.ok s.d []) := by
  simp only [u__law_source, b__law_source]
  walk_at "x"
  exact ⟨⟨if x < 0 then -x else x, x % 2147483629, 0, by split <;> omega, Int.emod_nonneg _ (by omega), by omega⟩, rfl⟩
theorem pick_ok (s : Src) (xs : List D) (h : 0 < xs.length) (h2 : xs.length < 1000) : ∃ (d : D) (s' : Src), x__law_pick [s.d, .lst xs] = some (.ok d [s'.d]) ∧ d ∈ xs := by
  obtain ⟨r, s', e, r0, r1⟩ := draw_ok s xs.length (by omega) (by omega)
  obtain ⟨k, rfl⟩ := toNat_of r0
  have hk : k < xs.length := by omega
  simp only [u__law_pick, b__law_pick]
  walk_at "x"
  simp only [e]
  simp only [Src.d]
  walk_at "x"
  rw [at_n (List.getElem?_eq_getElem hk)]
  walk_at "x"
  exact ⟨_, s', rfl, List.getElem_mem hk⟩
theorem shuffled_ok (s : Src) (xs : List D) (v : D) (hv : seqX v = some xs) (h2 : xs.length < 1000) : ∃ (ys : List D) (s' : Src), x__law_shuffled [s.d, v] = some (.ok (.lst ys) [s'.d]) ∧ ys.Perm xs := by
  simp only [u__law_shuffled, b__law_shuffled]
  have el : listX [v] = some (.lst xs) := by show (seqX v).map _ = _; rw [hv]; rfl
  simp only [Src.d]
  walk_at "x"
  simp only [el]
  walk_at "x"
  have key := wh_inv (t := t__law_shuffled_1) (b := l__law_shuffled_1)
    (fun m e => ∃ (s' : Src) (ls fs : List D), e = [some s'.d, some v, some (.lst ls), some (.lst fs)] ∧ ls.length = m ∧ (fs ++ ls).Perm xs)
    (fun e => ∃ (s' : Src) (fs : List D), e = [some s'.d, some v, some (.lst []), some (.lst fs)] ∧ fs.Perm xs) ?_ (m := xs.length) (e := [some (.lst [.int s.x, .int s.y, .int s.z]), some v, some (.lst xs), some (.lst [])]) (Nat.lt_trans h2 (by decide)) ⟨s, xs, [], rfl, rfl, by simp⟩
  · obtain ⟨e', h1, s', fs, rfl, hp⟩ := key
    simp only [h1]
    walk_at "x"
    exact ⟨fs, s', rfl, hp⟩
  · rintro m e ⟨s', ls, fs, rfl, hm, hp⟩
    simp only [t__law_shuffled_1, l__law_shuffled_1]
    cases ls with
    | nil =>
      refine ⟨false, _, by walk_at "x", (fun z => nomatch z), fun _ => ⟨s', fs, rfl, by simpa using hp⟩⟩
    | cons l0 lr =>
      refine ⟨true, _, by walk_at "x"; rfl, fun _ => ?_, (fun z => nomatch z)⟩
      have hl := hp.length_eq
      simp at hl
      obtain ⟨r, s2, e, r0, r1⟩ := draw_ok s' ((l0 :: lr).length : Int) (by simp only [List.length_cons]; omega) (by simp only [List.length_cons]; omega)
      obtain ⟨k, rfl⟩ := toNat_of r0
      have hk : k < (l0 :: lr).length := by omega
      walk_at "x"
      simp only [List.length_cons] at e
      simp only [e]
      simp only [Src.d]
      walk_at "x"
      rw [m_popi hk]
      walk_at "x"
      rw [m_app (by omega)]
      walk_at "x"
      refine ⟨_, rfl, ((l0 :: lr).eraseIdx k).length, ?_, s2, _, _, rfl, rfl, ?_⟩
      · rw [List.length_eraseIdx_of_lt hk]; simp at hm ⊢; omega
      · refine List.Perm.trans ?_ hp
        rw [List.append_assoc]
        exact List.Perm.append_left fs (perm_erase (l0 :: lr) k hk)
end HT

/-! XA2: trees drawn; roads, trees made. -/
namespace HT
open PySem PySem.Spec L2 DL
local macro_rules | `(tactic| walk_at "x") => `(tactic| simp -implicitDefEqProofs +decide only [gt_0, gt_s, e_var, e_v1, e_slot, e_s1, e_c, drf_v, drf_s, e_r1, e_op, e_op1, e_op1e, e_op2, e_op2e, e_op3, e_oe, e_oe1, e_oe1e, e_oe2, e_oe2e, e_oe3, e_oe3l, e_oe3r, e_oe3b, e_ol, e_ol1, e_ol1e, e_ol2, e_ol2e, e_ol3, e_ol3l, e_u, e_u1, e_u1e, e_u2, e_tst, e_t1, e_t1e, e_t2, br3_t, br3_f, br3_d, br3_n, br3_a, e_and, e_and1, e_and1e, e_or, e_or1, e_or1e, e_not, e_not1, e_not1e, e_yes, e_av, e_av1, e_av1e, e_av2, e_ov, e_ov1, e_ov1e, e_ov2, e_nv, e_nv1, e_nv1e, e_nv2, e_if, e_if1, e_if1e, e_ch, e_ch1, e_ch3, e_ch4, e_ch2, e_nil, e_cons, e_c1, e_c1e, e_c2, e_c2e, vs_0, vs_1, co_s, e_tup, e_tu1, e_tu1e, e_tu2, e_lst, e_ls1, e_ls1e, e_ls2, av_0, av_v0, av_v, avb_f, av_s, avs_t, e_call, e_ca1, e_ca1e, e_ca2, e_R, e_Re, e_callC, e_cc1, e_cc1e, e_cc2, e_RC, e_callM, e_cm1, e_cm1e, e_cm2, nos_0, nos_v, e_R1, e_R1k, e_R1e, e_make, e_mk1, e_mk1e, e_mk2, e_Mk, e_Mke, e_meth, e_me1, e_me1e, e_me2, e_me2e, fin_nx, fin_rt, fin_ex, outs_0, outs_1, e_seq, q_nx, q_rt, q_bk, q_ct, q_ex, e_next, e_break, e_cont, e_retN, e_drop, e_dr1, e_dr1e, e_ret, e_re1, e_re1e, e_retC, e_rc1, e_rc1k, e_ifs, e_is1, e_is1e, e_asg, e_as1, e_as1e, e_as2, g_name, g_nil, g_cons, g_c1, g_tupT, g_tupL, e_asgC, e_ac1, e_ac1k, e_ac1e, e_par, e_pa1, e_pa1e, e_for, e_fo1, e_fo1e, e_forS, e_fs1, e_fs1t, fl_1, fl_nx, fl_ct, fl_bk, fl_rt, fl_ex, e_seqI, e_si1, e_si1t, e_si1e, e_enum, e_en1, e_en1t, e_zip, e_zi1, e_zi2, seq_l, seq_t, e_range1, e_range2, e_frz, e_fz, e_fzk, e_lm, e_lm1, e_lm2, e_lm2e, e_lm3, e_lm4, m_rev, m_clr, e_setI, e_siA, e_siAe, e_si0, e_si2, e_si3, e_si4, fzv_v, e_setF, e_sf1, e_sf1e, e_sf2, put_0, put_c, lk_c, u_fld, u_isN, u_isN_i, u_isN_s, u_isN_t, u_isN_l, u_isN_o, u_neg, e_B, e_B1, e_B1e, e_B2, ds_0, ds_v, ds_s, cs_s, b_lenl, b_lent, b_lenk, b_abs1, b_max2, b_min2, b_int1, b_intb, b_tupl, b_tupt, b_lisl, b_list', e_lr, o_addi, o_subi, o_muli, o_mulil, o_modi, o_lti, o_lei, o_gti, o_gei, o_eqi, o_eqn, o_eql0, ix_l, ix_t, ix_k, at_0, at_1, at_2, at_3, e_sl, e_sl1, e_sl2, e_sl3, e_sl4, sl_l, sl_t, e_nop, e_pt, e_pt1, e_lc, e_lcS, e_lcB, w_0, w_1, r_0, r_1, e_dnew, e_raise, e_raA, e_ra2, e_try, e_ty_nx, e_ty_rt, e_ty_bk, e_ty_ct, e_ty_ex, e_ty2, e_ty2f, e_ty3n, e_ty3r, e_ty3b, e_ty3c, e_xf, e_xf1, e_isX, e_ix1, e_ix2, ef_0, ef_1, e_isi, e_pl, e_pl1, e_plc, e_pl2, e_pl3, set_0, set_1, set_2, o_divs, el_0, el_c, nc_l, nc_t, nc_i, nc_s, nc_b, nc_n, nc_k, nc_o, nos_d, br3_b, kd_i, kd_s, e_disp, e_di1, e_di1e, e_ps0, e_ps1, e_pp1, e_pp1e, e_pp2i, e_pp2s, e_pp2e, e_pp3, e_pp3e, md_0, md_1, in_ki, in_ks, sm_t, sm_f, em_n, em_c, em_a, in_li, in_ti, List.set_cons_zero, List.set_cons_succ, List.length_cons, List.length_nil, Nat.reduceAdd, Nat.reduceLeDiff, Nat.reduceEqDiff, Nat.reduceLT, Int.reduceLT, Int.reduceLE, Int.reduceNeg, Int.reducePow, Int.reduceSub, Int.reduceAdd, Int.reduceToNat, if_true, if_false, ite_true, ite_false, reduceIte, and_self, and_true, true_and, false_and, and_false, Option.getD_some, Option.getD_none, Nat.zero_add, Nat.reduceSub, Nat.reducePow, Nat.reduceMul, reduceCtorEq, beq_self_eq_true, id_eq, List.map_nil, List.map_cons, Bool.not_true, Bool.not_false, Option.map_some, Option.bind_some, List.reverse_cons, List.reverse_nil, List.nil_append, List.cons_append, not_true_eq_false, not_false_eq_true, decide_true, decide_false, Bool.true_or, Bool.false_or, Bool.or_false, Bool.or_true, Int.toNat_natCast, decide_eq_true_eq, eq_self, Bool.true_and, Bool.and_true, Bool.false_and, Bool.and_false])
local macro_rules | `(tactic| walk_at "xa") => `(tactic| simp -implicitDefEqProofs +decide only [gt_0, gt_s, e_var, e_v1, e_slot, e_s1, e_c, drf_v, drf_s, e_r1, e_op, e_op1, e_op1e, e_op2, e_op2e, e_op3, e_oe, e_oe1, e_oe1e, e_oe2, e_oe2e, e_oe3, e_oe3l, e_oe3r, e_oe3b, e_ol, e_ol1, e_ol1e, e_ol2, e_ol2e, e_ol3, e_ol3l, e_u, e_u1, e_u1e, e_u2, e_tst, e_t1, e_t1e, e_t2, br3_t, br3_f, br3_d, br3_n, br3_a, e_and, e_and1, e_and1e, e_or, e_or1, e_or1e, e_not, e_not1, e_not1e, e_yes, e_av, e_av1, e_av1e, e_av2, e_ov, e_ov1, e_ov1e, e_ov2, e_nv, e_nv1, e_nv1e, e_nv2, e_if, e_if1, e_if1e, e_ch, e_ch1, e_ch3, e_ch4, e_ch2, e_nil, e_cons, e_c1, e_c1e, e_c2, e_c2e, vs_0, vs_1, co_s, e_tup, e_tu1, e_tu1e, e_tu2, e_lst, e_ls1, e_ls1e, e_ls2, av_0, av_v0, av_v, avb_f, av_s, avs_t, e_call, e_ca1, e_ca1e, e_ca2, e_R, e_Re, e_callC, e_cc1, e_cc1e, e_cc2, e_RC, e_callM, e_cm1, e_cm1e, e_cm2, nos_0, nos_v, e_R1, e_R1k, e_R1e, e_make, e_mk1, e_mk1e, e_mk2, e_Mk, e_Mke, e_meth, e_me1, e_me1e, e_me2, e_me2e, fin_nx, fin_rt, fin_ex, outs_0, outs_1, e_seq, q_nx, q_rt, q_bk, q_ct, q_ex, e_next, e_break, e_cont, e_retN, e_drop, e_dr1, e_dr1e, e_ret, e_re1, e_re1e, e_retC, e_rc1, e_rc1k, e_ifs, e_is1, e_is1e, e_asg, e_as1, e_as1e, e_as2, g_name, g_nil, g_cons, g_c1, g_tupT, g_tupL, e_asgC, e_ac1, e_ac1k, e_ac1e, e_par, e_pa1, e_pa1e, e_for, e_fo1, e_fo1e, e_forS, e_fs1, e_fs1t, fl_1, fl_nx, fl_ct, fl_bk, fl_rt, fl_ex, e_seqI, e_si1, e_si1t, e_si1e, e_enum, e_en1, e_en1t, e_zip, e_zi1, e_zi2, seq_l, seq_t, e_range1, e_range2, e_frz, e_fz, e_fzk, e_lm, e_lm1, e_lm2, e_lm2e, e_lm3, e_lm4, m_rev, m_clr, e_setI, e_siA, e_siAe, e_si0, e_si2, e_si3, e_si4, fzv_v, e_setF, e_sf1, e_sf1e, e_sf2, put_0, put_c, lk_c, u_fld, u_isN, u_isN_i, u_isN_s, u_isN_t, u_isN_l, u_isN_o, u_neg, e_B, e_B1, e_B1e, e_B2, ds_0, ds_v, ds_s, cs_s, b_lenl, b_lent, b_lenk, b_abs1, b_max2, b_min2, b_int1, b_intb, b_tupl, b_tupt, b_lisl, b_list', e_lr, o_addi, o_subi, o_muli, o_mulil, o_modi, o_lti, o_lei, o_gti, o_gei, o_eqi, o_eqn, o_eql0, ix_l, ix_t, ix_k, at_0, at_1, at_2, at_3, e_sl, e_sl1, e_sl2, e_sl3, e_sl4, sl_l, sl_t, e_nop, e_pt, e_pt1, e_lc, e_lcS, e_lcB, w_0, w_1, r_0, r_1, e_dnew, e_raise, e_raA, e_ra2, e_try, e_ty_nx, e_ty_rt, e_ty_bk, e_ty_ct, e_ty_ex, e_ty2, e_ty2f, e_ty3n, e_ty3r, e_ty3b, e_ty3c, e_xf, e_xf1, e_isX, e_ix1, e_ix2, ef_0, ef_1, e_isi, e_pl, e_pl1, e_plc, e_pl2, e_pl3, set_0, set_1, set_2, o_divs, el_0, el_c, nc_l, nc_t, nc_i, nc_s, nc_b, nc_n, nc_k, nc_o, nos_d, br3_b, kd_i, kd_s, e_disp, e_di1, e_di1e, e_ps0, e_ps1, e_pp1, e_pp1e, e_pp2i, e_pp2s, e_pp2e, e_pp3, e_pp3e, md_0, md_1, in_ki, in_ks, sm_t, sm_f, em_n, em_c, em_a, in_li, in_ti, List.set_cons_zero, List.set_cons_succ, List.length_cons, List.length_nil, Nat.reduceAdd, Nat.reduceLeDiff, Nat.reduceEqDiff, Nat.reduceLT, Int.reduceLT, Int.reduceLE, Int.reduceNeg, Int.reducePow, Int.reduceSub, Int.reduceAdd, Int.reduceToNat, if_true, if_false, ite_true, ite_false, reduceIte, and_self, and_true, true_and, false_and, and_false, Option.getD_some, Option.getD_none, Nat.zero_add, Nat.reduceSub, Nat.reducePow, Nat.reduceMul, reduceCtorEq, beq_self_eq_true, id_eq, List.map_nil, List.map_cons, Bool.not_true, Bool.not_false, Option.map_some, Option.bind_some, List.reverse_cons, List.reverse_nil, List.nil_append, List.cons_append, not_true_eq_false, not_false_eq_true, decide_true, decide_false, Bool.true_or, Bool.false_or, Bool.or_false, Bool.or_true, Int.toNat_natCast, decide_eq_true_eq, eq_self, Bool.true_and, Bool.and_true, Bool.false_and, Bool.and_false, *])
local macro_rules | `(tactic| walk_at "xl") => `(tactic| simp -implicitDefEqProofs +decide only [gt_0, gt_s, e_var, e_v1, e_slot, e_s1, e_c, drf_v, drf_s, e_r1, e_op, e_op1, e_op1e, e_op2, e_op2e, e_op3, e_oe, e_oe1, e_oe1e, e_oe2, e_oe2e, e_oe3, e_oe3l, e_oe3r, e_oe3b, e_ol, e_ol1, e_ol1e, e_ol2, e_ol2e, e_ol3, e_ol3l, e_u, e_u1, e_u1e, e_u2, e_tst, e_t1, e_t1e, e_t2, br3_t, br3_f, br3_d, br3_n, br3_a, e_and, e_and1, e_and1e, e_or, e_or1, e_or1e, e_not, e_not1, e_not1e, e_yes, e_av, e_av1, e_av1e, e_av2, e_ov, e_ov1, e_ov1e, e_ov2, e_nv, e_nv1, e_nv1e, e_nv2, e_if, e_if1, e_if1e, e_ch, e_ch1, e_ch3, e_ch4, e_ch2, e_nil, e_cons, e_c1, e_c1e, e_c2, e_c2e, vs_0, vs_1, co_s, e_tup, e_tu1, e_tu1e, e_tu2, e_lst, e_ls1, e_ls1e, e_ls2, av_0, av_v0, av_v, avb_f, av_s, avs_t, e_call, e_ca1, e_ca1e, e_ca2, e_R, e_Re, e_callC, e_cc1, e_cc1e, e_cc2, e_RC, e_callM, e_cm1, e_cm1e, e_cm2, nos_0, nos_v, e_R1, e_R1k, e_R1e, e_make, e_mk1, e_mk1e, e_mk2, e_Mk, e_Mke, e_meth, e_me1, e_me1e, e_me2, e_me2e, fin_nx, fin_rt, fin_ex, outs_0, outs_1, e_seq, q_nx, q_rt, q_bk, q_ct, q_ex, e_next, e_break, e_cont, e_retN, e_drop, e_dr1, e_dr1e, e_ret, e_re1, e_re1e, e_retC, e_rc1, e_rc1k, e_ifs, e_is1, e_is1e, e_asg, e_as1, e_as1e, e_as2, g_name, g_nil, g_cons, g_c1, g_tupT, g_tupL, e_asgC, e_ac1, e_ac1k, e_ac1e, e_par, e_pa1, e_pa1e, e_for, e_fo1, e_fo1e, e_forS, e_fs1, e_fs1t, fl_1, fl_nx, fl_ct, fl_bk, fl_rt, fl_ex, e_seqI, e_si1, e_si1t, e_si1e, e_enum, e_en1, e_en1t, e_zip, e_zi1, e_zi2, seq_l, seq_t, e_range1, e_range2, e_frz, e_fz, e_fzk, e_lm, e_lm1, e_lm2, e_lm2e, e_lm3, e_lm4, m_rev, m_clr, e_setI, e_siA, e_siAe, e_si0, e_si2, e_si3, e_si4, fzv_v, e_setF, e_sf1, e_sf1e, e_sf2, put_0, put_c, lk_c, u_fld, u_isN, u_isN_i, u_isN_s, u_isN_t, u_isN_l, u_isN_o, u_neg, e_B, e_B1, e_B1e, e_B2, ds_0, ds_v, ds_s, cs_s, b_lenl, b_lent, b_lenk, b_abs1, b_max2, b_min2, b_int1, b_intb, b_tupl, b_tupt, b_lisl, b_list', e_lr, o_addi, o_subi, o_muli, o_mulil, o_modi, o_lti, o_lei, o_gti, o_gei, o_eqi, o_eqn, o_eql0, ix_l, ix_t, ix_k, at_0, at_1, at_2, at_3, e_sl, e_sl1, e_sl2, e_sl3, e_sl4, sl_l, sl_t, e_nop, e_pt, e_pt1, e_lc, e_lcS, e_lcB, w_0, w_1, r_0, r_1, e_dnew, e_raise, e_raA, e_ra2, e_try, e_ty_nx, e_ty_rt, e_ty_bk, e_ty_ct, e_ty_ex, e_ty2, e_ty2f, e_ty3n, e_ty3r, e_ty3b, e_ty3c, e_xf, e_xf1, e_isX, e_ix1, e_ix2, ef_0, ef_1, e_isi, e_pl, e_pl1, e_plc, e_pl2, e_pl3, set_0, set_1, set_2, o_divs, el_0, el_c, nc_l, nc_t, nc_i, nc_s, nc_b, nc_n, nc_k, nc_o, nos_d, br3_b, kd_i, kd_s, e_disp, e_di1, e_di1e, e_ps0, e_ps1, e_pp1, e_pp1e, e_pp2i, e_pp2s, e_pp2e, e_pp3, e_pp3e, md_0, md_1, in_ki, in_ks, sm_t, sm_f, em_n, em_c, em_a, in_li, in_ti, List.set_cons_zero, List.set_cons_succ, List.length_cons, List.length_nil, Nat.reduceAdd, Nat.reduceLeDiff, Nat.reduceEqDiff, Nat.reduceLT, Int.reduceLT, Int.reduceLE, Int.reduceNeg, Int.reducePow, Int.reduceSub, Int.reduceAdd, Int.reduceToNat, if_true, if_false, ite_true, ite_false, reduceIte, and_self, and_true, true_and, false_and, and_false, Option.getD_some, Option.getD_none, Nat.zero_add, Nat.reduceSub, Nat.reducePow, Nat.reduceMul, reduceCtorEq, beq_self_eq_true, id_eq, List.map_nil, List.map_cons, Bool.not_true, Bool.not_false, Option.map_some, Option.bind_some, List.reverse_cons, List.reverse_nil, List.nil_append, List.cons_append, not_true_eq_false, not_false_eq_true, decide_true, decide_false, Bool.true_or, Bool.false_or, Bool.or_false, Bool.or_true, Int.toNat_natCast, decide_eq_true_eq, eq_self, Bool.true_and, Bool.and_true, Bool.false_and, Bool.and_false, fl_c, fl_0, *])
/-- a road's facts: its ends, its length -/
structure Fc where
  a : Int
  b : Int
  n : Int
def Fc.d (f : Fc) : D := .tup [.int f.a, .int f.b, .int f.n]
def Fc.r (f : Fc) : D := .ins C_Road [(F_a, .int f.a), (F_b, .int f.b), (F_length, .int f.n)]
/-- the end that stands later -/
def Fc.chi (pos : Int → Nat) (f : Fc) : Int := if pos f.a < pos f.b then f.b else f.a
def Fc.ok (many : Int) (f : Fc) : Prop := 0 ≤ f.a ∧ f.a < many ∧ 0 ≤ f.b ∧ f.b < many ∧ 1 ≤ f.n ∧ f.n ≤ 1000000000
structure Forest (many : Int) (fs : List Fc) : Prop where
  ok : ∀ f ∈ fs, f.ok many
  ex : ∃ pos : Int → Nat, (∀ x y, 0 ≤ x → x < many → 0 ≤ y → y < many → pos x = pos y → x = y) ∧ (∀ f ∈ fs, f.a ≠ f.b) ∧ (fs.map (Fc.chi pos)).Nodup
theorem Forest.perm {many : Int} {fs gs : List Fc} (h : Forest many fs) (p : gs.Perm fs) : Forest many gs := by
  obtain ⟨pos, h1, h2, h3⟩ := h.ex
  exact ⟨fun f hf => h.ok f (p.mem_iff.mp hf), pos, h1, fun f hf => h2 f (p.mem_iff.mp hf), (p.map _).nodup_iff.mpr h3⟩
structure TreeOk (many : Int) (fs : List Fc) : Prop where
  lo : 2 ≤ many
  hi : many ≤ 24
  len : (fs.length : Int) = many - 1
  fo : Forest many fs
theorem idx_of {os : List Int} (hn : os.Nodup) {i : Nat} {x : Int} (h : os[i]? = some x) : os.idxOf x = i := by
  obtain ⟨h1, h2⟩ := List.getElem?_eq_some_iff.mp h
  have h3 : os.idxOf x < os.length := List.idxOf_lt_length_of_mem (h2 ▸ List.getElem_mem h1)
  have h4 : os[os.idxOf x]? = some x := by rw [List.getElem?_eq_getElem h3, List.getElem_idxOf h3]
  exact nd_get hn h4 h
theorem nd_map {α β : Type} {g : α → β} (hg : ∀ x y, g x = g y → x = y) {l : List α} (h : l.Nodup) : (l.map g).Nodup := List.Pairwise.map g (fun a b n e => n (hg a b e)) h
theorem at_of {xs : List D} {z : Int} {j : Nat} {v : D} (e : z = (j : Int)) (h : xs[j]? = some v) : atI xs z = some v := by subst e; exact at_n h
/-! ### a tree drawn -/
theorem tree_turn (s : Src) (n : Nat) (most long : Int) (ps : List Nat) (hpl : ps.length = n) (h3 : 1 ≤ long) (h4 : long ≤ 1000000000) (i : Nat) (hi : 1 + i < n) (hn : n ≤ 24) (fs : List D) (hf : fs.length ≤ 1000) (o6 o7 : Option D) :
    ∃ (s' : Src) (p q z : Int) (j : Nat) (o : Option D), j < 1 + i ∧ ((p = (ps[1 + i]! : Nat) ∧ q = (ps[j]! : Nat)) ∨ (p = (ps[j]! : Nat) ∧ q = (ps[1 + i]! : Nat))) ∧ 1 ≤ z ∧ z ≤ 1000000000 ∧
      l__law_tree_1 [some s.d, some (.int most), some (.int long), some (.int n), some (.lst (ps.map fun (i : Nat) => D.int (i : Int))), some (.lst fs), some (.int (1 + (i : Int))), o7] = some (.nx [some s'.d, some (.int most), some (.int long), some (.int n), some (.lst (ps.map fun (i : Nat) => D.int (i : Int))), some (.lst (fs ++ [.tup [.int p, .int q, .int z]])), some (.int (1 + (i : Int))), o]) := by
  have g1 : (ps.map fun (i : Nat) => D.int (i : Int))[1 + i]? = some (.int (ps[1 + i]! : Nat)) := by rw [List.getElem?_map, List.getElem?_eq_getElem (by omega)]; simp [List.getElem!_eq_getElem?_getD, List.getElem?_eq_getElem (show 1 + i < ps.length by omega)]
  obtain ⟨r2, s2, e2, r20, r21⟩ := draw_ok s (1 + (i : Int)) (by omega) (by omega)
  obtain ⟨d, s3, e3, hd⟩ := pick_ok s2 [.int (1 + (i : Int) - 1), .int 0, .int r2] (by simp) (by simp)
  obtain ⟨j, rfl, hj⟩ : ∃ j : Nat, d = .int j ∧ j < 1 + i := by
    simp only [List.mem_cons, List.not_mem_nil, or_false] at hd
    rcases hd with rfl | rfl | rfl
    · exact ⟨i, by congr 1; omega, by omega⟩
    · exact ⟨0, rfl, by omega⟩
    · exact ⟨r2.toNat, by congr 1; omega, by omega⟩
  have g2 : (ps.map fun (i : Nat) => D.int (i : Int))[j]? = some (.int (ps[j]! : Nat)) := by rw [List.getElem?_map, List.getElem?_eq_getElem (by omega)]; simp [List.getElem!_eq_getElem?_getD, List.getElem?_eq_getElem (show j < ps.length by omega)]
  obtain ⟨r4, s4, e4, r40, r41⟩ := draw_ok s3 2 (by omega) (by omega)
  obtain ⟨r5, s5, e5, r50, r51⟩ := draw_ok s4 long (by omega) (by omega)
  obtain ⟨d6, s6, e6, hd6⟩ := pick_ok s5 [.int 1, .int 2, .int (1 + r5)] (by simp) (by simp)
  obtain ⟨z, rfl, z0, z1⟩ : ∃ z : Int, d6 = .int z ∧ 1 ≤ z ∧ z ≤ 1000000000 := by
    simp only [List.mem_cons, List.not_mem_nil, or_false] at hd6
    rcases hd6 with rfl | rfl | rfl
    · exact ⟨1, rfl, by omega, by omega⟩
    · exact ⟨2, rfl, by omega, by omega⟩
    · exact ⟨1 + r5, rfl, by omega, by omega⟩
  have a1 := at_of (z := 1 + (i : Int)) (j := 1 + i) (by omega) g1
  have a2 := at_n g2
  simp only [Src.d] at e2 e3 e4 e5 e6 ⊢
  simp only [l__law_tree_1]
  walk_at "xa"
  by_cases c : r4 = 0
  · walk_at "xa"
    rw [m_app (by omega)]
    walk_at "x"
    exact ⟨s6, _, _, z, j, _, hj, .inr ⟨rfl, rfl⟩, z0, z1, rfl⟩
  · walk_at "xa"
    rw [m_app (by omega)]
    walk_at "x"
    exact ⟨s6, _, _, z, j, _, hj, .inl ⟨rfl, rfl⟩, z0, z1, rfl⟩
theorem tree_drawn (s : Src) (most long : Int) (h1 : 2 ≤ most) (h2 : most ≤ 24) (h3 : 1 ≤ long) (h4 : long ≤ 1000000000) :
    ∃ (many : Int) (fs : List Fc) (s' : Src), x__law_tree [s.d, .int most, .int long] = some (.ok (.tup [.int many, .lst (fs.map Fc.d)]) [s'.d]) ∧ TreeOk many fs ∧ many ≤ most := by
  obtain ⟨r, s1, e1, r0, r1⟩ := draw_ok s (most - 1) (by omega) (by omega)
  obtain ⟨n, en⟩ : ∃ n : Nat, 2 + r = n := ⟨(2 + r).toNat, by omega⟩
  have hn24 : n ≤ 24 := by omega
  obtain ⟨ys, s2, e2, hp⟩ := shuffled_ok s1 (rangeD 0 n) (.lst (rangeD 0 n)) rfl (by simp [rangeD]; omega)
  rw [rangeD_map] at hp
  obtain ⟨ps, hp2, rfl⟩ := perm_map_inv hp _ rfl
  have hpl : ps.length = n := by have := hp2.length_eq; simpa using this
  have hpn : ps.Nodup := hp2.nodup_iff.mpr List.nodup_range
  have hpm : ∀ i, i < n → ps[i]! < n := fun i hi => by
    rw [getElem!_pos ps i (by omega)]
    exact List.mem_range.mp (hp2.mem_iff.mp (List.getElem_mem (by omega)))
  have posI : ∀ i, i < n → (ps.map fun (i : Nat) => (i : Int)).idxOf ((ps[i]! : Nat) : Int) = i := fun i hi => by
    rw [getElem!_pos ps i (by omega)]
    refine idx_of (nd_map (fun x y e => Int.ofNat.inj e) hpn) ?_
    rw [List.getElem?_map, List.getElem?_eq_getElem (by omega)]; rfl
  have key := for_nx (g := g__law_tree_1) (b := l__law_tree_1) (fun r e => ∃ (k : Nat) (s' : Src) (fs : List Fc) (o6 o7 : Option D), k ≤ n - 1 ∧ r = (rangeD 1 (n - 1)).drop k ∧
      e = [some s'.d, some (.int most), some (.int long), some (.int n), some (.lst (ps.map fun (i : Nat) => D.int (i : Int))), some (.lst (fs.map Fc.d)), o6, o7] ∧
      (∀ g ∈ fs, g.ok n) ∧ (∀ g ∈ fs, g.a ≠ g.b) ∧ fs.map (Fc.chi fun x => (ps.map fun (i : Nat) => (i : Int)).idxOf x) = ((ps.map fun (i : Nat) => (i : Int)).drop 1).take k) ?_
      (rangeD 1 (n - 1)) [some s2.d, some (.int most), some (.int long), some (.int n), some (.lst (ps.map fun (i : Nat) => D.int (i : Int))), some (.lst []), none, none] ⟨0, s2, [], none, none, by omega, rfl, rfl, by simp, by simp, by simp⟩
  · obtain ⟨e', h1, k, s3, fs, o6, o7, hk, hr, rfl, hok, hne, hch⟩ := key
    have hkn : k = n - 1 := by
      rcases Nat.lt_or_ge k (n - 1) with z | z
      · have := congrArg List.length hr
        simp [rangeD] at this; omega
      · omega
    subst hkn
    have lfs : fs.length = n - 1 := by have := congrArg List.length hch; simp at this; omega
    obtain ⟨ys, s4, e4, hp4⟩ := shuffled_ok s3 (fs.map Fc.d) (.lst (fs.map Fc.d)) rfl (by simp; omega)
    obtain ⟨gs, hg, rfl⟩ := perm_map_inv hp4 fs rfl
    have lr : ((n : Int) - 1).toNat = n - 1 := by omega
    clear hr
    simp only [u__law_tree, b__law_tree]
    simp only [Src.d] at e1 e2 e4 h1 ⊢
    walk_at "xa"
    rw [e_lr1 ⟨by omega, by omega⟩]
    walk_at "xa"
    rw [e_rb1 (by omega)]
    walk_at "xa"
    refine ⟨n, gs, s4, rfl, ⟨by omega, by omega, ?_, Forest.perm ⟨hok, fun x => (ps.map fun (i : Nat) => (i : Int)).idxOf x, fun x y x0 x1 y0 y1 e => ?_, hne, ?_⟩ hg⟩, by omega⟩
    · have := hg.length_eq; omega
    · have mem : ∀ x : Int, 0 ≤ x → x < n → x ∈ ps.map fun (i : Nat) => (i : Int) := fun x x0 x1 => by
        refine List.mem_map.mpr ⟨x.toNat, hp2.mem_iff.mpr (List.mem_range.mpr (by omega)), by omega⟩
      have gx := List.getElem_idxOf (List.idxOf_lt_length_of_mem (mem x x0 x1))
      have gy := List.getElem_idxOf (List.idxOf_lt_length_of_mem (mem y y0 y1))
      rw [← gx, ← gy]
      congr 1
    · rw [hch]; exact List.Nodup.sublist ((List.take_sublist _ _).trans (List.drop_sublist _ _)) (nd_map (fun x y e => Int.ofNat.inj e) hpn)
  · rintro x r e ⟨i, s3, fs, o6, o7, hk, hr, rfl, hok, hne, hch⟩
    have hl : (rangeD 1 (n - 1)).length = n - 1 := by simp [rangeD]
    have hi : i < n - 1 := by
      rcases Nat.lt_or_ge i (n - 1) with z | z
      · exact z
      · rw [List.drop_of_length_le (by rw [hl]; exact z)] at hr; cases hr
    rw [List.drop_eq_getElem_cons (by rw [hl]; exact hi)] at hr
    injection hr with ex er
    have ex : x = .int (1 + (i : Int)) := by rw [ex]; simp [rangeD]
    subst ex
    have lfs : fs.length = i := by have := congrArg List.length hch; simp at this; omega
    obtain ⟨s4, p, q, z, j, o, hj, hpq, z0, z1, e4⟩ := tree_turn s3 n most long ps hpl h3 h4 i (by omega) hn24 (fs.map Fc.d) (by simp; omega) (some (.int (1 + (i : Int)))) o7
    refine ⟨_, rfl, _, e4, i + 1, s4, fs ++ [⟨p, q, z⟩], _, _, by omega, er, by rw [List.map_append]; rfl, ?_, ?_, ?_⟩
    · have m1 := hpm (1 + i) (by omega)
      have m2 := hpm j (by omega)
      intro g hg
      rcases List.mem_append.mp hg with hg | hg
      · exact hok g hg
      · simp only [List.mem_cons, List.not_mem_nil, or_false] at hg
        subst hg
        unfold Fc.ok
        dsimp only
        rcases hpq with ⟨rfl, rfl⟩ | ⟨rfl, rfl⟩ <;> exact ⟨by omega, by omega, by omega, by omega, z0, z1⟩
    · have p1 := posI (1 + i) (by omega)
      have p2 := posI j (by omega)
      intro g hg
      rcases List.mem_append.mp hg with hg | hg
      · exact hne g hg
      · simp only [List.mem_cons, List.not_mem_nil, or_false] at hg
        subst hg
        rcases hpq with ⟨rfl, rfl⟩ | ⟨rfl, rfl⟩
        · intro (z : ((ps[1 + i]! : Nat) : Int) = _)
          rw [z, p2] at p1; omega
        · intro (z : ((ps[j]! : Nat) : Int) = _)
          rw [z, p1] at p2; omega
    · have p1 := posI (1 + i) (by omega)
      have p2 := posI j (by omega)
      rw [List.map_append, hch, List.take_add_one]
      congr 1
      rw [List.getElem?_drop, List.getElem?_map, List.getElem?_eq_getElem (show 1 + i < ps.length by omega)]
      show [Fc.chi _ _] = [((ps[1 + i] : Nat) : Int)]
      rw [← getElem!_pos ps (1 + i) (by omega)]
      congr 1
      unfold Fc.chi
      rcases hpq with ⟨rfl, rfl⟩ | ⟨rfl, rfl⟩
      · rw [if_neg]
        dsimp only
        rw [p1, p2]; omega
      · rw [if_pos]
        dsimp only
        rw [p1, p2]; omega
end HT

/-! XA3: roads_at, ways_from, Tree. -/
namespace HT
open PySem PySem.Spec L2 DL
local macro_rules | `(tactic| walk_at "x") => `(tactic| simp -implicitDefEqProofs +decide only [gt_0, gt_s, e_var, e_v1, e_slot, e_s1, e_c, drf_v, drf_s, e_r1, e_op, e_op1, e_op1e, e_op2, e_op2e, e_op3, e_oe, e_oe1, e_oe1e, e_oe2, e_oe2e, e_oe3, e_oe3l, e_oe3r, e_oe3b, e_ol, e_ol1, e_ol1e, e_ol2, e_ol2e, e_ol3, e_ol3l, e_u, e_u1, e_u1e, e_u2, e_tst, e_t1, e_t1e, e_t2, br3_t, br3_f, br3_d, br3_n, br3_a, e_and, e_and1, e_and1e, e_or, e_or1, e_or1e, e_not, e_not1, e_not1e, e_yes, e_av, e_av1, e_av1e, e_av2, e_ov, e_ov1, e_ov1e, e_ov2, e_nv, e_nv1, e_nv1e, e_nv2, e_if, e_if1, e_if1e, e_ch, e_ch1, e_ch3, e_ch4, e_ch2, e_nil, e_cons, e_c1, e_c1e, e_c2, e_c2e, vs_0, vs_1, co_s, e_tup, e_tu1, e_tu1e, e_tu2, e_lst, e_ls1, e_ls1e, e_ls2, av_0, av_v0, av_v, avb_f, av_s, avs_t, e_call, e_ca1, e_ca1e, e_ca2, e_R, e_Re, e_callC, e_cc1, e_cc1e, e_cc2, e_RC, e_callM, e_cm1, e_cm1e, e_cm2, nos_0, nos_v, e_R1, e_R1k, e_R1e, e_make, e_mk1, e_mk1e, e_mk2, e_Mk, e_Mke, e_meth, e_me1, e_me1e, e_me2, e_me2e, fin_nx, fin_rt, fin_ex, outs_0, outs_1, e_seq, q_nx, q_rt, q_bk, q_ct, q_ex, e_next, e_break, e_cont, e_retN, e_drop, e_dr1, e_dr1e, e_ret, e_re1, e_re1e, e_retC, e_rc1, e_rc1k, e_ifs, e_is1, e_is1e, e_asg, e_as1, e_as1e, e_as2, g_name, g_nil, g_cons, g_c1, g_tupT, g_tupL, e_asgC, e_ac1, e_ac1k, e_ac1e, e_par, e_pa1, e_pa1e, e_for, e_fo1, e_fo1e, e_forS, e_fs1, e_fs1t, fl_1, fl_nx, fl_ct, fl_bk, fl_rt, fl_ex, e_seqI, e_si1, e_si1t, e_si1e, e_enum, e_en1, e_en1t, e_zip, e_zi1, e_zi2, seq_l, seq_t, e_range1, e_range2, e_frz, e_fz, e_fzk, e_lm, e_lm1, e_lm2, e_lm2e, e_lm3, e_lm4, m_rev, m_clr, e_setI, e_siA, e_siAe, e_si0, e_si2, e_si3, e_si4, fzv_v, e_setF, e_sf1, e_sf1e, e_sf2, put_0, put_c, lk_c, u_fld, u_isN, u_isN_i, u_isN_s, u_isN_t, u_isN_l, u_isN_o, u_neg, e_B, e_B1, e_B1e, e_B2, ds_0, ds_v, ds_s, cs_s, b_lenl, b_lent, b_lenk, b_abs1, b_max2, b_min2, b_int1, b_intb, b_tupl, b_tupt, b_lisl, b_list', e_lr, o_addi, o_subi, o_muli, o_mulil, o_modi, o_lti, o_lei, o_gti, o_gei, o_eqi, o_eqn, o_eql0, ix_l, ix_t, ix_k, at_0, at_1, at_2, at_3, e_sl, e_sl1, e_sl2, e_sl3, e_sl4, sl_l, sl_t, e_nop, e_pt, e_pt1, e_lc, e_lcS, e_lcB, w_0, w_1, r_0, r_1, e_dnew, e_raise, e_raA, e_ra2, e_try, e_ty_nx, e_ty_rt, e_ty_bk, e_ty_ct, e_ty_ex, e_ty2, e_ty2f, e_ty3n, e_ty3r, e_ty3b, e_ty3c, e_xf, e_xf1, e_isX, e_ix1, e_ix2, ef_0, ef_1, e_isi, e_pl, e_pl1, e_plc, e_pl2, e_pl3, set_0, set_1, set_2, o_divs, el_0, el_c, nc_l, nc_t, nc_i, nc_s, nc_b, nc_n, nc_k, nc_o, nos_d, br3_b, kd_i, kd_s, e_disp, e_di1, e_di1e, e_ps0, e_ps1, e_pp1, e_pp1e, e_pp2i, e_pp2s, e_pp2e, e_pp3, e_pp3e, md_0, md_1, in_ki, in_ks, sm_t, sm_f, em_n, em_c, em_a, in_li, in_ti, List.set_cons_zero, List.set_cons_succ, List.length_cons, List.length_nil, Nat.reduceAdd, Nat.reduceLeDiff, Nat.reduceEqDiff, Nat.reduceLT, Int.reduceLT, Int.reduceLE, Int.reduceNeg, Int.reducePow, Int.reduceSub, Int.reduceAdd, Int.reduceToNat, if_true, if_false, ite_true, ite_false, reduceIte, and_self, and_true, true_and, false_and, and_false, Option.getD_some, Option.getD_none, Nat.zero_add, Nat.reduceSub, Nat.reducePow, Nat.reduceMul, reduceCtorEq, beq_self_eq_true, id_eq, List.map_nil, List.map_cons, Bool.not_true, Bool.not_false, Option.map_some, Option.bind_some, List.reverse_cons, List.reverse_nil, List.nil_append, List.cons_append, not_true_eq_false, not_false_eq_true, decide_true, decide_false, Bool.true_or, Bool.false_or, Bool.or_false, Bool.or_true, Int.toNat_natCast, decide_eq_true_eq, eq_self, Bool.true_and, Bool.and_true, Bool.false_and, Bool.and_false])
local macro_rules | `(tactic| walk_at "xa") => `(tactic| simp -implicitDefEqProofs +decide only [gt_0, gt_s, e_var, e_v1, e_slot, e_s1, e_c, drf_v, drf_s, e_r1, e_op, e_op1, e_op1e, e_op2, e_op2e, e_op3, e_oe, e_oe1, e_oe1e, e_oe2, e_oe2e, e_oe3, e_oe3l, e_oe3r, e_oe3b, e_ol, e_ol1, e_ol1e, e_ol2, e_ol2e, e_ol3, e_ol3l, e_u, e_u1, e_u1e, e_u2, e_tst, e_t1, e_t1e, e_t2, br3_t, br3_f, br3_d, br3_n, br3_a, e_and, e_and1, e_and1e, e_or, e_or1, e_or1e, e_not, e_not1, e_not1e, e_yes, e_av, e_av1, e_av1e, e_av2, e_ov, e_ov1, e_ov1e, e_ov2, e_nv, e_nv1, e_nv1e, e_nv2, e_if, e_if1, e_if1e, e_ch, e_ch1, e_ch3, e_ch4, e_ch2, e_nil, e_cons, e_c1, e_c1e, e_c2, e_c2e, vs_0, vs_1, co_s, e_tup, e_tu1, e_tu1e, e_tu2, e_lst, e_ls1, e_ls1e, e_ls2, av_0, av_v0, av_v, avb_f, av_s, avs_t, e_call, e_ca1, e_ca1e, e_ca2, e_R, e_Re, e_callC, e_cc1, e_cc1e, e_cc2, e_RC, e_callM, e_cm1, e_cm1e, e_cm2, nos_0, nos_v, e_R1, e_R1k, e_R1e, e_make, e_mk1, e_mk1e, e_mk2, e_Mk, e_Mke, e_meth, e_me1, e_me1e, e_me2, e_me2e, fin_nx, fin_rt, fin_ex, outs_0, outs_1, e_seq, q_nx, q_rt, q_bk, q_ct, q_ex, e_next, e_break, e_cont, e_retN, e_drop, e_dr1, e_dr1e, e_ret, e_re1, e_re1e, e_retC, e_rc1, e_rc1k, e_ifs, e_is1, e_is1e, e_asg, e_as1, e_as1e, e_as2, g_name, g_nil, g_cons, g_c1, g_tupT, g_tupL, e_asgC, e_ac1, e_ac1k, e_ac1e, e_par, e_pa1, e_pa1e, e_for, e_fo1, e_fo1e, e_forS, e_fs1, e_fs1t, fl_1, fl_nx, fl_ct, fl_bk, fl_rt, fl_ex, e_seqI, e_si1, e_si1t, e_si1e, e_enum, e_en1, e_en1t, e_zip, e_zi1, e_zi2, seq_l, seq_t, e_range1, e_range2, e_frz, e_fz, e_fzk, e_lm, e_lm1, e_lm2, e_lm2e, e_lm3, e_lm4, m_rev, m_clr, e_setI, e_siA, e_siAe, e_si0, e_si2, e_si3, e_si4, fzv_v, e_setF, e_sf1, e_sf1e, e_sf2, put_0, put_c, lk_c, u_fld, u_isN, u_isN_i, u_isN_s, u_isN_t, u_isN_l, u_isN_o, u_neg, e_B, e_B1, e_B1e, e_B2, ds_0, ds_v, ds_s, cs_s, b_lenl, b_lent, b_lenk, b_abs1, b_max2, b_min2, b_int1, b_intb, b_tupl, b_tupt, b_lisl, b_list', e_lr, o_addi, o_subi, o_muli, o_mulil, o_modi, o_lti, o_lei, o_gti, o_gei, o_eqi, o_eqn, o_eql0, ix_l, ix_t, ix_k, at_0, at_1, at_2, at_3, e_sl, e_sl1, e_sl2, e_sl3, e_sl4, sl_l, sl_t, e_nop, e_pt, e_pt1, e_lc, e_lcS, e_lcB, w_0, w_1, r_0, r_1, e_dnew, e_raise, e_raA, e_ra2, e_try, e_ty_nx, e_ty_rt, e_ty_bk, e_ty_ct, e_ty_ex, e_ty2, e_ty2f, e_ty3n, e_ty3r, e_ty3b, e_ty3c, e_xf, e_xf1, e_isX, e_ix1, e_ix2, ef_0, ef_1, e_isi, e_pl, e_pl1, e_plc, e_pl2, e_pl3, set_0, set_1, set_2, o_divs, el_0, el_c, nc_l, nc_t, nc_i, nc_s, nc_b, nc_n, nc_k, nc_o, nos_d, br3_b, kd_i, kd_s, e_disp, e_di1, e_di1e, e_ps0, e_ps1, e_pp1, e_pp1e, e_pp2i, e_pp2s, e_pp2e, e_pp3, e_pp3e, md_0, md_1, in_ki, in_ks, sm_t, sm_f, em_n, em_c, em_a, in_li, in_ti, List.set_cons_zero, List.set_cons_succ, List.length_cons, List.length_nil, Nat.reduceAdd, Nat.reduceLeDiff, Nat.reduceEqDiff, Nat.reduceLT, Int.reduceLT, Int.reduceLE, Int.reduceNeg, Int.reducePow, Int.reduceSub, Int.reduceAdd, Int.reduceToNat, if_true, if_false, ite_true, ite_false, reduceIte, and_self, and_true, true_and, false_and, and_false, Option.getD_some, Option.getD_none, Nat.zero_add, Nat.reduceSub, Nat.reducePow, Nat.reduceMul, reduceCtorEq, beq_self_eq_true, id_eq, List.map_nil, List.map_cons, Bool.not_true, Bool.not_false, Option.map_some, Option.bind_some, List.reverse_cons, List.reverse_nil, List.nil_append, List.cons_append, not_true_eq_false, not_false_eq_true, decide_true, decide_false, Bool.true_or, Bool.false_or, Bool.or_false, Bool.or_true, Int.toNat_natCast, decide_eq_true_eq, eq_self, Bool.true_and, Bool.and_true, Bool.false_and, Bool.and_false, *])
local macro_rules | `(tactic| walk_at "xl") => `(tactic| simp -implicitDefEqProofs +decide only [gt_0, gt_s, e_var, e_v1, e_slot, e_s1, e_c, drf_v, drf_s, e_r1, e_op, e_op1, e_op1e, e_op2, e_op2e, e_op3, e_oe, e_oe1, e_oe1e, e_oe2, e_oe2e, e_oe3, e_oe3l, e_oe3r, e_oe3b, e_ol, e_ol1, e_ol1e, e_ol2, e_ol2e, e_ol3, e_ol3l, e_u, e_u1, e_u1e, e_u2, e_tst, e_t1, e_t1e, e_t2, br3_t, br3_f, br3_d, br3_n, br3_a, e_and, e_and1, e_and1e, e_or, e_or1, e_or1e, e_not, e_not1, e_not1e, e_yes, e_av, e_av1, e_av1e, e_av2, e_ov, e_ov1, e_ov1e, e_ov2, e_nv, e_nv1, e_nv1e, e_nv2, e_if, e_if1, e_if1e, e_ch, e_ch1, e_ch3, e_ch4, e_ch2, e_nil, e_cons, e_c1, e_c1e, e_c2, e_c2e, vs_0, vs_1, co_s, e_tup, e_tu1, e_tu1e, e_tu2, e_lst, e_ls1, e_ls1e, e_ls2, av_0, av_v0, av_v, avb_f, av_s, avs_t, e_call, e_ca1, e_ca1e, e_ca2, e_R, e_Re, e_callC, e_cc1, e_cc1e, e_cc2, e_RC, e_callM, e_cm1, e_cm1e, e_cm2, nos_0, nos_v, e_R1, e_R1k, e_R1e, e_make, e_mk1, e_mk1e, e_mk2, e_Mk, e_Mke, e_meth, e_me1, e_me1e, e_me2, e_me2e, fin_nx, fin_rt, fin_ex, outs_0, outs_1, e_seq, q_nx, q_rt, q_bk, q_ct, q_ex, e_next, e_break, e_cont, e_retN, e_drop, e_dr1, e_dr1e, e_ret, e_re1, e_re1e, e_retC, e_rc1, e_rc1k, e_ifs, e_is1, e_is1e, e_asg, e_as1, e_as1e, e_as2, g_name, g_nil, g_cons, g_c1, g_tupT, g_tupL, e_asgC, e_ac1, e_ac1k, e_ac1e, e_par, e_pa1, e_pa1e, e_for, e_fo1, e_fo1e, e_forS, e_fs1, e_fs1t, fl_1, fl_nx, fl_ct, fl_bk, fl_rt, fl_ex, e_seqI, e_si1, e_si1t, e_si1e, e_enum, e_en1, e_en1t, e_zip, e_zi1, e_zi2, seq_l, seq_t, e_range1, e_range2, e_frz, e_fz, e_fzk, e_lm, e_lm1, e_lm2, e_lm2e, e_lm3, e_lm4, m_rev, m_clr, e_setI, e_siA, e_siAe, e_si0, e_si2, e_si3, e_si4, fzv_v, e_setF, e_sf1, e_sf1e, e_sf2, put_0, put_c, lk_c, u_fld, u_isN, u_isN_i, u_isN_s, u_isN_t, u_isN_l, u_isN_o, u_neg, e_B, e_B1, e_B1e, e_B2, ds_0, ds_v, ds_s, cs_s, b_lenl, b_lent, b_lenk, b_abs1, b_max2, b_min2, b_int1, b_intb, b_tupl, b_tupt, b_lisl, b_list', e_lr, o_addi, o_subi, o_muli, o_mulil, o_modi, o_lti, o_lei, o_gti, o_gei, o_eqi, o_eqn, o_eql0, ix_l, ix_t, ix_k, at_0, at_1, at_2, at_3, e_sl, e_sl1, e_sl2, e_sl3, e_sl4, sl_l, sl_t, e_nop, e_pt, e_pt1, e_lc, e_lcS, e_lcB, w_0, w_1, r_0, r_1, e_dnew, e_raise, e_raA, e_ra2, e_try, e_ty_nx, e_ty_rt, e_ty_bk, e_ty_ct, e_ty_ex, e_ty2, e_ty2f, e_ty3n, e_ty3r, e_ty3b, e_ty3c, e_xf, e_xf1, e_isX, e_ix1, e_ix2, ef_0, ef_1, e_isi, e_pl, e_pl1, e_plc, e_pl2, e_pl3, set_0, set_1, set_2, o_divs, el_0, el_c, nc_l, nc_t, nc_i, nc_s, nc_b, nc_n, nc_k, nc_o, nos_d, br3_b, kd_i, kd_s, e_disp, e_di1, e_di1e, e_ps0, e_ps1, e_pp1, e_pp1e, e_pp2i, e_pp2s, e_pp2e, e_pp3, e_pp3e, md_0, md_1, in_ki, in_ks, sm_t, sm_f, em_n, em_c, em_a, in_li, in_ti, List.set_cons_zero, List.set_cons_succ, List.length_cons, List.length_nil, Nat.reduceAdd, Nat.reduceLeDiff, Nat.reduceEqDiff, Nat.reduceLT, Int.reduceLT, Int.reduceLE, Int.reduceNeg, Int.reducePow, Int.reduceSub, Int.reduceAdd, Int.reduceToNat, if_true, if_false, ite_true, ite_false, reduceIte, and_self, and_true, true_and, false_and, and_false, Option.getD_some, Option.getD_none, Nat.zero_add, Nat.reduceSub, Nat.reducePow, Nat.reduceMul, reduceCtorEq, beq_self_eq_true, id_eq, List.map_nil, List.map_cons, Bool.not_true, Bool.not_false, Option.map_some, Option.bind_some, List.reverse_cons, List.reverse_nil, List.nil_append, List.cons_append, not_true_eq_false, not_false_eq_true, decide_true, decide_false, Bool.true_or, Bool.false_or, Bool.or_false, Bool.or_true, Int.toNat_natCast, decide_eq_true_eq, eq_self, Bool.true_and, Bool.and_true, Bool.false_and, Bool.and_false, fl_c, fl_0, *])
def nrD (k v n : Int) : D := .tup [.int k, .int v, .int n]
def turnL (k : Int) (f : Fc) (x : Int) : List D := (if f.a = x then [nrD k f.b f.n] else []) ++ (if f.b = x then [nrD k f.a f.n] else [])
def nearL : Int → List Fc → Int → List D
  | _, [], _ => []
  | k, f :: r, x => turnL k f x ++ nearL (k + 1) r x
def eF : Int → List Fc → List D
  | _, [] => []
  | k, f :: r => .tup [.int k, f.r] :: eF (k + 1) r
theorem eF_idx : ∀ (fs : List Fc) (k : Int), (fs.mapIdx fun i f => D.tup [.int (k + (i : Int)), f.r]) = eF k fs
  | [], _ => rfl
  | f :: r, k => by
    rw [List.mapIdx_cons, eF, ← eF_idx r (k + 1)]
    congr 1
    · simp
    · apply List.ext_getElem?
      intro i
      rw [List.getElem?_mapIdx, List.getElem?_mapIdx]
      cases r[i]? with
      | none => rfl
      | some f =>
        show some (D.tup [.int (k + ((i + 1 : Nat) : Int)), f.r]) = some (D.tup [.int (k + 1 + (i : Int)), f.r])
        rw [show k + ((i + 1 : Nat) : Int) = k + 1 + (i : Int) by omega]
theorem enum_eF (fs : List Fc) : enumD (fs.map Fc.r) = eF 0 fs := by
  rw [enum_map, ← eF_idx fs 0]
  congr 1
  funext i f
  rw [Int.zero_add]
theorem turnL_len (k : Int) (f : Fc) (x : Int) : (turnL k f x).length ≤ 2 := by
  unfold turnL; split <;> split <;> simp
theorem roads_turn (t : D) (x k : Int) (f : Fc) (acc : List D) (hl : acc.length ≤ 900) :
    l_roads_at_1 [some t, some (.int x), some (.lst acc), some (.int k), some f.r] = some (.nx [some t, some (.int x), some (.lst (acc ++ turnL k f x)), some (.int k), some f.r]) := by
  simp only [l_roads_at_1, Fc.r, turnL, nrD]
  walk_at "x"
  by_cases c1 : f.a = x
  · by_cases c2 : f.b = x
    · simp only [c1, c2]
      walk_at "x"
      rw [m_app (by omega)]
      walk_at "x"
      rw [m_app (by rw [List.length_append]; simp; omega)]
      walk_at "x"
      simp only [List.append_assoc, List.cons_append, List.nil_append]
    · simp only [c1]
      walk_at "xa"
      rw [m_app (by omega)]
      walk_at "xa"
      first | done | simp only [List.append_nil]
  · by_cases c2 : f.b = x
    · simp only [c2]
      walk_at "xa"
      rw [m_app (by omega)]
      walk_at "xa"
    · walk_at "xa"
      first | done | simp only [List.append_nil]
theorem roads_loop (t : D) (x : Int) : ∀ (fs : List Fc) (k : Int) (acc : List D) (o3 o4 : Option D), acc.length + 2 * fs.length ≤ 900 →
    ∃ o3' o4', xForL g_roads_at_1 l_roads_at_1 (eF k fs) [some t, some (.int x), some (.lst acc), o3, o4] = some (.nx [some t, some (.int x), some (.lst (acc ++ nearL k fs x)), o3', o4'])
  | [], k, acc, o3, o4, _ => ⟨o3, o4, by rw [nearL, List.append_nil]; rfl⟩
  | f :: r, k, acc, o3, o4, hl => by
    have hl' : acc.length + 2 * (r.length + 1) ≤ 900 := hl
    have ht := turnL_len k f x
    obtain ⟨o3', o4', ih⟩ := roads_loop t x r (k + 1) (acc ++ turnL k f x) (some (.int k)) (some f.r) (by rw [List.length_append]; omega)
    refine ⟨o3', o4', ?_⟩
    rw [eF, fl_c]
    rw [show g_roads_at_1 (.tup [.int k, f.r]) [some t, some (.int x), some (.lst acc), o3, o4] = some [some t, some (.int x), some (.lst acc), some (.int k), some f.r] from rfl]
    rw [fl_1, roads_turn t x k f acc (by omega), fl_nx, ih, nearL, List.append_assoc]
theorem roads_at_ok (c : Nat) (fl : List (Nat × D)) (fs : List Fc) (x : Int) (h : lk fl F_roads = some (.tup (fs.map Fc.r))) (hl : fs.length ≤ 400) :
    x_roads_at [.ins c fl, .int x] = some (.ok (.lst (nearL 0 fs x)) []) := by
  obtain ⟨o3, o4, e⟩ := roads_loop (.ins c fl) x fs 0 [] none none (by simp; omega)
  simp only [u_roads_at, b_roads_at]
  walk_at "x"
  simp only [h]
  walk_at "x"
  rw [enum_eF, e]
  walk_at "x"
theorem nearL_in : ∀ (fs : List Fc) (k x : Int), ∀ d ∈ nearL k fs x, ∃ (i v l : Int) (g : Fc), d = .tup [.int i, .int v, .int l] ∧ g ∈ fs ∧ (v = g.a ∨ v = g.b)
  | [], k, x, d, h => by cases h
  | f :: r, k, x, d, h => by
    rw [nearL] at h
    rcases List.mem_append.mp h with h | h
    · unfold turnL at h
      rcases List.mem_append.mp h with h | h
      · split at h
        · exact ⟨k, f.b, f.n, f, by simpa [nrD] using h, List.mem_cons_self .., .inr rfl⟩
        · cases h
      · split at h
        · exact ⟨k, f.a, f.n, f, by simpa [nrD] using h, List.mem_cons_self .., .inl rfl⟩
        · cases h
    · obtain ⟨i, v, l, g, h1, h2, h3⟩ := nearL_in r (k + 1) x d h
      exact ⟨i, v, l, g, h1, List.mem_cons_of_mem _ h2, h3⟩
theorem nd_le : ∀ (m : Nat) (ks : List Int), ks.Nodup → (∀ k ∈ ks, 0 ≤ k ∧ k < m) → ks.length ≤ m
  | 0, ks, _, h => by
    cases ks with
    | nil => simp
    | cons k r => have := h k (List.mem_cons_self ..); omega
  | m + 1, ks, hn, h => by
    have h1 : (ks.erase (m : Int)).length ≤ m := nd_le m _ (hn.erase _) fun k hk => by
      have q := (hn.mem_erase_iff).mp hk
      have := h k q.2
      have := q.1
      omega
    by_cases hm : (m : Int) ∈ ks
    · rw [List.length_erase_of_mem hm] at h1; omega
    · rw [List.erase_of_not_mem hm] at h1; omega
/-- the ways found: int keys, each with a tuple that starts with a number -/
structure WaysOk (many : Int) (kvs : List (Key × D)) (ks : List Int) : Prop where
  nd : ks.Nodup
  rg : ∀ k ∈ ks, 0 ≤ k ∧ k < many
  len : kvs.length = ks.length
  get : ∀ k ∈ ks, ∃ (l : Int) (w : D), vD kvs (.inl k) = some (.tup [.int l, w])
  no : ∀ k, k ∉ ks → vD kvs (.inl k) = none
theorem vD_app : ∀ {kvs : List (Key × D)} {k j : Key} {d : D}, vD (kvs ++ [(j, d)]) k = match vD kvs k with
    | some e => some e
    | none => if j = k then some d else none
  | [], k, j, d => rfl
  | (i, e) :: r, k, j, d => by
    show (if i = k then some e else vD (r ++ [(j, d)]) k) = match (if i = k then some e else vD r k) with
      | some e => some e
      | none => if j = k then some d else none
    by_cases q : i = k
    · rw [if_pos q, if_pos q]
    · rw [if_neg q, if_neg q]; exact vD_app
theorem WaysOk.add {many : Int} {kvs : List (Key × D)} {ks : List Int} (h : WaysOk many kvs ks) {v l : Int} {w : D} (hv : v ∉ ks) (h0 : 0 ≤ v) (h1 : v < many) : WaysOk many (putD kvs (.inl v) (.tup [.int l, w])) (v :: ks) := by
  have e : putD kvs (.inl v) (.tup [.int l, w]) = kvs ++ [(.inl v, .tup [.int l, w])] := by unfold putD; rw [h.no v hv]
  rw [e]
  refine ⟨List.nodup_cons.mpr ⟨hv, h.nd⟩, ?_, ?_, ?_, ?_⟩
  · intro k hk
    rcases List.mem_cons.mp hk with rfl | hk
    · exact ⟨h0, h1⟩
    · exact h.rg k hk
  · simp [h.len]
  · intro k hk
    rw [vD_app]
    rcases List.mem_cons.mp hk with rfl | hk
    · rw [h.no k hv]; exact ⟨l, w, if_pos rfl⟩
    · obtain ⟨l', w', e'⟩ := h.get k hk
      rw [e']; exact ⟨l', w', rfl⟩
  · intro k hk
    rw [vD_app, h.no k fun z => hk (List.mem_cons_of_mem _ z)]
    exact if_neg fun z => hk (by injection z with z; subst z; exact List.mem_cons_self ..)
theorem WaysOk.le {many : Int} {kvs : List (Key × D)} {ks : List Int} (h : WaysOk many kvs ks) (h0 : 0 ≤ many) : ks.length ≤ many.toNat := nd_le _ _ h.nd fun k hk => by have := h.rg k hk; omega
theorem WaysOk.klen {many : Int} {kvs : List (Key × D)} {ks : List Int} (h : WaysOk many kvs ks) (h0 : 0 ≤ many) (h1 : many ≤ 1000) : kvs.length ≤ 1000000 := by
  have := h.le h0; have := h.len; omega
theorem ways_ok (c : Nat) (fl : List (Nat × D)) (fs : List Fc) (x many : Int) (h : lk fl F_roads = some (.tup (fs.map Fc.r))) (hlen : fs.length ≤ 400) (hok : ∀ f ∈ fs, f.ok many) (hm : many ≤ 1000) (x0 : 0 ≤ x) (x1 : x < many) :
    ∃ kvs, x_ways_from [.ins c fl, .int x] = some (.ok (.dK kvs) []) := by
  have key := wh_inv (t := t_ways_from_1) (b := l_ways_from_1) (fun m e => ∃ o4 o5 o6 o7 kvs ks st, e = [some (.ins c fl), some (.int x), some (.dK kvs), some (.lst (st.map D.int)), o4, o5, o6, o7] ∧ WaysOk many kvs ks ∧ (∀ k ∈ st, k ∈ ks) ∧ m = 2 * (many.toNat - ks.length) + st.length ∧ m ≤ 3000)
    (fun e => ∃ o4 o5 o6 o7 kvs st, e = [some (.ins c fl), some (.int x), some (.dK kvs), some (.lst st), o4, o5, o6, o7]) ?_ (m := 2 * (many.toNat - 1) + 1) (e := [some (.ins c fl), some (.int x), some (.dK [(.inl x, .tup [.int 0, .non])]), some (.lst [.int x]), none, none, none, none]) (Nat.lt_of_le_of_lt (show _ ≤ 3000 by omega) (by decide))
    ⟨none, none, none, none, _, [x], [x], rfl, ?_, by simp, by simp, by omega⟩
  · obtain ⟨e', h1, o4, o5, o6, o7, kvs, st, rfl⟩ := key
    refine ⟨kvs, ?_⟩
    simp only [u_ways_from, b_ways_from]
    walk_at "xa"
  · rintro m e ⟨o4, o5, o6, o7, kvs, ks, st, rfl, hw, hst, hmm, hm3⟩
    rcases List.eq_nil_or_concat st with rfl | ⟨st, y, rfl⟩
    · refine ⟨false, _, by simp only [t_ways_from_1]; walk_at "x"; rfl, (fun z => nomatch z), fun _ => ⟨_, _, _, _, _, _, rfl⟩⟩
    · rw [List.concat_eq_append] at hst hmm ⊢
      rw [List.map_append]
      refine ⟨true, _, by simp only [t_ways_from_1]; walk_at "x"; rfl, fun _ => ?_, (fun z => nomatch z)⟩
      have hy : y ∈ ks := hst y (by simp)
      have hy2 := hw.rg y hy
      have er := roads_at_ok c fl fs y h hlen
      have fo := for_nx (g := g_ways_from_2) (b := l_ways_from_2) (fun r e => ∃ o5 o6 o7 kvs ks st, e = [some (.ins c fl), some (.int x), some (.dK kvs), some (.lst (st.map D.int)), some (.int y), o5, o6, o7] ∧ WaysOk many kvs ks ∧ (∀ k ∈ st, k ∈ ks) ∧ 2 * (many.toNat - ks.length) + st.length < m ∧ y ∈ ks ∧ (∀ d ∈ r, ∃ (i v l : Int) (g : Fc), d = .tup [.int i, .int v, .int l] ∧ g ∈ fs ∧ (v = g.a ∨ v = g.b))) ?_
        (nearL 0 fs y) [some (.ins c fl), some (.int x), some (.dK kvs), some (.lst (st.map D.int)), some (.int y), o5, o6, o7] ⟨o5, o6, o7, kvs, ks, st, rfl, hw, fun k hk => hst k (by simp [hk]), by simp at hmm; omega, hy, nearL_in fs 0 y⟩
      · obtain ⟨e', h1, p5, p6, p7, kvs', ks', st', rfl, hw', hst', hlt, _, _⟩ := fo
        refine ⟨_, ?_, _, hlt, some (.int y), p5, p6, p7, kvs', ks', st', rfl, hw', hst', rfl, by omega⟩
        simp only [l_ways_from_1]
        try simp only [List.map_cons, List.map_nil]
        walk_at "x"
        rw [m_pop0]
        walk_at "x"
        simp only [er]
        walk_at "x"
        exact h1
      · rintro d r e ⟨p5, p6, p7, kvs, ks, st, rfl, hw, hst, hlt, hy, hr⟩
        obtain ⟨i, v, l, g, rfl, hg, hv⟩ := hr d (List.mem_cons_self ..)
        have hr' : ∀ d ∈ r, ∃ (i v l : Int) (g : Fc), d = .tup [.int i, .int v, .int l] ∧ g ∈ fs ∧ (v = g.a ∨ v = g.b) := fun d hd => hr d (List.mem_cons_of_mem _ hd)
        obtain ⟨q1, q2, q3, q4, q5, q6⟩ := hok g hg
        have v01 : 0 ≤ v ∧ v < many := by rcases hv with rfl | rfl <;> constructor <;> assumption
        refine ⟨_, rfl, ?_⟩
        simp only [l_ways_from_2]
        by_cases hvk : v ∈ ks
        · obtain ⟨l', w', e'⟩ := hw.get v hvk
          refine ⟨_, ?_, some (.int i), some (.int v), some (.int l), kvs, ks, st, rfl, hw, hst, hlt, hy, hr'⟩
          walk_at "xa"
        · have e1 := hw.no v hvk
          obtain ⟨l', w', e'⟩ := hw.get y hy
          have hw' := hw.add (l := l' + l) (w := .int i) hvk v01.1 v01.2
          have hle := hw'.le (by omega)
          refine ⟨_, ?_, some (.int i), some (.int v), some (.int l), _, v :: ks, st ++ [v], rfl, hw', ?_, ?_, List.mem_cons_of_mem _ hy, hr'⟩
          · walk_at "xa"
            rw [set_k (hw.klen (by omega) hm)]
            walk_at "xa"
            rw [m_app (by simp; simp at hle; omega)]
            walk_at "xa"
            try simp only [List.map_append, List.map_cons, List.map_nil]
          · intro k hk
            simp only [List.mem_append, List.mem_cons, List.not_mem_nil, or_false] at hk
            rcases hk with hk | rfl
            · exact List.mem_cons_of_mem _ (hst k hk)
            · exact List.mem_cons_self ..
          · simp at hle ⊢; omega
  · refine ⟨by simp, by simp; omega, rfl, by simp; exact ⟨0, .non, if_pos rfl⟩, fun k hk => ?_⟩
    have : x ≠ k := fun z => hk (by simp [z])
    show (if (Sum.inl x : Key) = .inl k then _ else none) = none
    exact if_neg fun z => this (by injection z)
end HT

/-! XA4: Tree made of roads that join lots. -/
namespace HT
open PySem PySem.Spec L2 DL
local macro_rules | `(tactic| walk_at "x") => `(tactic| simp -implicitDefEqProofs +decide only [gt_0, gt_s, e_var, e_v1, e_slot, e_s1, e_c, drf_v, drf_s, e_r1, e_op, e_op1, e_op1e, e_op2, e_op2e, e_op3, e_oe, e_oe1, e_oe1e, e_oe2, e_oe2e, e_oe3, e_oe3l, e_oe3r, e_oe3b, e_ol, e_ol1, e_ol1e, e_ol2, e_ol2e, e_ol3, e_ol3l, e_u, e_u1, e_u1e, e_u2, e_tst, e_t1, e_t1e, e_t2, br3_t, br3_f, br3_d, br3_n, br3_a, e_and, e_and1, e_and1e, e_or, e_or1, e_or1e, e_not, e_not1, e_not1e, e_yes, e_av, e_av1, e_av1e, e_av2, e_ov, e_ov1, e_ov1e, e_ov2, e_nv, e_nv1, e_nv1e, e_nv2, e_if, e_if1, e_if1e, e_ch, e_ch1, e_ch3, e_ch4, e_ch2, e_nil, e_cons, e_c1, e_c1e, e_c2, e_c2e, vs_0, vs_1, co_s, e_tup, e_tu1, e_tu1e, e_tu2, e_lst, e_ls1, e_ls1e, e_ls2, av_0, av_v0, av_v, avb_f, av_s, avs_t, e_call, e_ca1, e_ca1e, e_ca2, e_R, e_Re, e_callC, e_cc1, e_cc1e, e_cc2, e_RC, e_callM, e_cm1, e_cm1e, e_cm2, nos_0, nos_v, e_R1, e_R1k, e_R1e, e_make, e_mk1, e_mk1e, e_mk2, e_Mk, e_Mke, e_meth, e_me1, e_me1e, e_me2, e_me2e, fin_nx, fin_rt, fin_ex, outs_0, outs_1, e_seq, q_nx, q_rt, q_bk, q_ct, q_ex, e_next, e_break, e_cont, e_retN, e_drop, e_dr1, e_dr1e, e_ret, e_re1, e_re1e, e_retC, e_rc1, e_rc1k, e_ifs, e_is1, e_is1e, e_asg, e_as1, e_as1e, e_as2, g_name, g_nil, g_cons, g_c1, g_tupT, g_tupL, e_asgC, e_ac1, e_ac1k, e_ac1e, e_par, e_pa1, e_pa1e, e_for, e_fo1, e_fo1e, e_forS, e_fs1, e_fs1t, fl_1, fl_nx, fl_ct, fl_bk, fl_rt, fl_ex, e_seqI, e_si1, e_si1t, e_si1e, e_enum, e_en1, e_en1t, e_zip, e_zi1, e_zi2, seq_l, seq_t, e_range1, e_range2, e_frz, e_fz, e_fzk, e_lm, e_lm1, e_lm2, e_lm2e, e_lm3, e_lm4, m_rev, m_clr, e_setI, e_siA, e_siAe, e_si0, e_si2, e_si3, e_si4, fzv_v, e_setF, e_sf1, e_sf1e, e_sf2, put_0, put_c, lk_c, u_fld, u_isN, u_isN_i, u_isN_s, u_isN_t, u_isN_l, u_isN_o, u_neg, e_B, e_B1, e_B1e, e_B2, ds_0, ds_v, ds_s, cs_s, b_lenl, b_lent, b_lenk, b_abs1, b_max2, b_min2, b_int1, b_intb, b_tupl, b_tupt, b_lisl, b_list', e_lr, o_addi, o_subi, o_muli, o_mulil, o_modi, o_lti, o_lei, o_gti, o_gei, o_eqi, o_eqn, o_eql0, ix_l, ix_t, ix_k, at_0, at_1, at_2, at_3, e_sl, e_sl1, e_sl2, e_sl3, e_sl4, sl_l, sl_t, e_nop, e_pt, e_pt1, e_lc, e_lcS, e_lcB, w_0, w_1, r_0, r_1, e_dnew, e_raise, e_raA, e_ra2, e_try, e_ty_nx, e_ty_rt, e_ty_bk, e_ty_ct, e_ty_ex, e_ty2, e_ty2f, e_ty3n, e_ty3r, e_ty3b, e_ty3c, e_xf, e_xf1, e_isX, e_ix1, e_ix2, ef_0, ef_1, e_isi, e_pl, e_pl1, e_plc, e_pl2, e_pl3, set_0, set_1, set_2, o_divs, el_0, el_c, nc_l, nc_t, nc_i, nc_s, nc_b, nc_n, nc_k, nc_o, nos_d, br3_b, kd_i, kd_s, e_disp, e_di1, e_di1e, e_ps0, e_ps1, e_pp1, e_pp1e, e_pp2i, e_pp2s, e_pp2e, e_pp3, e_pp3e, md_0, md_1, in_ki, in_ks, sm_t, sm_f, em_n, em_c, em_a, in_li, in_ti, List.set_cons_zero, List.set_cons_succ, List.length_cons, List.length_nil, Nat.reduceAdd, Nat.reduceLeDiff, Nat.reduceEqDiff, Nat.reduceLT, Int.reduceLT, Int.reduceLE, Int.reduceNeg, Int.reducePow, Int.reduceSub, Int.reduceAdd, Int.reduceToNat, if_true, if_false, ite_true, ite_false, reduceIte, and_self, and_true, true_and, false_and, and_false, Option.getD_some, Option.getD_none, Nat.zero_add, Nat.reduceSub, Nat.reducePow, Nat.reduceMul, reduceCtorEq, beq_self_eq_true, id_eq, List.map_nil, List.map_cons, Bool.not_true, Bool.not_false, Option.map_some, Option.bind_some, List.reverse_cons, List.reverse_nil, List.nil_append, List.cons_append, not_true_eq_false, not_false_eq_true, decide_true, decide_false, Bool.true_or, Bool.false_or, Bool.or_false, Bool.or_true, Int.toNat_natCast, decide_eq_true_eq, eq_self, Bool.true_and, Bool.and_true, Bool.false_and, Bool.and_false])
local macro_rules | `(tactic| walk_at "xa") => `(tactic| simp -implicitDefEqProofs +decide only [gt_0, gt_s, e_var, e_v1, e_slot, e_s1, e_c, drf_v, drf_s, e_r1, e_op, e_op1, e_op1e, e_op2, e_op2e, e_op3, e_oe, e_oe1, e_oe1e, e_oe2, e_oe2e, e_oe3, e_oe3l, e_oe3r, e_oe3b, e_ol, e_ol1, e_ol1e, e_ol2, e_ol2e, e_ol3, e_ol3l, e_u, e_u1, e_u1e, e_u2, e_tst, e_t1, e_t1e, e_t2, br3_t, br3_f, br3_d, br3_n, br3_a, e_and, e_and1, e_and1e, e_or, e_or1, e_or1e, e_not, e_not1, e_not1e, e_yes, e_av, e_av1, e_av1e, e_av2, e_ov, e_ov1, e_ov1e, e_ov2, e_nv, e_nv1, e_nv1e, e_nv2, e_if, e_if1, e_if1e, e_ch, e_ch1, e_ch3, e_ch4, e_ch2, e_nil, e_cons, e_c1, e_c1e, e_c2, e_c2e, vs_0, vs_1, co_s, e_tup, e_tu1, e_tu1e, e_tu2, e_lst, e_ls1, e_ls1e, e_ls2, av_0, av_v0, av_v, avb_f, av_s, avs_t, e_call, e_ca1, e_ca1e, e_ca2, e_R, e_Re, e_callC, e_cc1, e_cc1e, e_cc2, e_RC, e_callM, e_cm1, e_cm1e, e_cm2, nos_0, nos_v, e_R1, e_R1k, e_R1e, e_make, e_mk1, e_mk1e, e_mk2, e_Mk, e_Mke, e_meth, e_me1, e_me1e, e_me2, e_me2e, fin_nx, fin_rt, fin_ex, outs_0, outs_1, e_seq, q_nx, q_rt, q_bk, q_ct, q_ex, e_next, e_break, e_cont, e_retN, e_drop, e_dr1, e_dr1e, e_ret, e_re1, e_re1e, e_retC, e_rc1, e_rc1k, e_ifs, e_is1, e_is1e, e_asg, e_as1, e_as1e, e_as2, g_name, g_nil, g_cons, g_c1, g_tupT, g_tupL, e_asgC, e_ac1, e_ac1k, e_ac1e, e_par, e_pa1, e_pa1e, e_for, e_fo1, e_fo1e, e_forS, e_fs1, e_fs1t, fl_1, fl_nx, fl_ct, fl_bk, fl_rt, fl_ex, e_seqI, e_si1, e_si1t, e_si1e, e_enum, e_en1, e_en1t, e_zip, e_zi1, e_zi2, seq_l, seq_t, e_range1, e_range2, e_frz, e_fz, e_fzk, e_lm, e_lm1, e_lm2, e_lm2e, e_lm3, e_lm4, m_rev, m_clr, e_setI, e_siA, e_siAe, e_si0, e_si2, e_si3, e_si4, fzv_v, e_setF, e_sf1, e_sf1e, e_sf2, put_0, put_c, lk_c, u_fld, u_isN, u_isN_i, u_isN_s, u_isN_t, u_isN_l, u_isN_o, u_neg, e_B, e_B1, e_B1e, e_B2, ds_0, ds_v, ds_s, cs_s, b_lenl, b_lent, b_lenk, b_abs1, b_max2, b_min2, b_int1, b_intb, b_tupl, b_tupt, b_lisl, b_list', e_lr, o_addi, o_subi, o_muli, o_mulil, o_modi, o_lti, o_lei, o_gti, o_gei, o_eqi, o_eqn, o_eql0, ix_l, ix_t, ix_k, at_0, at_1, at_2, at_3, e_sl, e_sl1, e_sl2, e_sl3, e_sl4, sl_l, sl_t, e_nop, e_pt, e_pt1, e_lc, e_lcS, e_lcB, w_0, w_1, r_0, r_1, e_dnew, e_raise, e_raA, e_ra2, e_try, e_ty_nx, e_ty_rt, e_ty_bk, e_ty_ct, e_ty_ex, e_ty2, e_ty2f, e_ty3n, e_ty3r, e_ty3b, e_ty3c, e_xf, e_xf1, e_isX, e_ix1, e_ix2, ef_0, ef_1, e_isi, e_pl, e_pl1, e_plc, e_pl2, e_pl3, set_0, set_1, set_2, o_divs, el_0, el_c, nc_l, nc_t, nc_i, nc_s, nc_b, nc_n, nc_k, nc_o, nos_d, br3_b, kd_i, kd_s, e_disp, e_di1, e_di1e, e_ps0, e_ps1, e_pp1, e_pp1e, e_pp2i, e_pp2s, e_pp2e, e_pp3, e_pp3e, md_0, md_1, in_ki, in_ks, sm_t, sm_f, em_n, em_c, em_a, in_li, in_ti, List.set_cons_zero, List.set_cons_succ, List.length_cons, List.length_nil, Nat.reduceAdd, Nat.reduceLeDiff, Nat.reduceEqDiff, Nat.reduceLT, Int.reduceLT, Int.reduceLE, Int.reduceNeg, Int.reducePow, Int.reduceSub, Int.reduceAdd, Int.reduceToNat, if_true, if_false, ite_true, ite_false, reduceIte, and_self, and_true, true_and, false_and, and_false, Option.getD_some, Option.getD_none, Nat.zero_add, Nat.reduceSub, Nat.reducePow, Nat.reduceMul, reduceCtorEq, beq_self_eq_true, id_eq, List.map_nil, List.map_cons, Bool.not_true, Bool.not_false, Option.map_some, Option.bind_some, List.reverse_cons, List.reverse_nil, List.nil_append, List.cons_append, not_true_eq_false, not_false_eq_true, decide_true, decide_false, Bool.true_or, Bool.false_or, Bool.or_false, Bool.or_true, Int.toNat_natCast, decide_eq_true_eq, eq_self, Bool.true_and, Bool.and_true, Bool.false_and, Bool.and_false, *])
local macro_rules | `(tactic| walk_at "xl") => `(tactic| simp -implicitDefEqProofs +decide only [gt_0, gt_s, e_var, e_v1, e_slot, e_s1, e_c, drf_v, drf_s, e_r1, e_op, e_op1, e_op1e, e_op2, e_op2e, e_op3, e_oe, e_oe1, e_oe1e, e_oe2, e_oe2e, e_oe3, e_oe3l, e_oe3r, e_oe3b, e_ol, e_ol1, e_ol1e, e_ol2, e_ol2e, e_ol3, e_ol3l, e_u, e_u1, e_u1e, e_u2, e_tst, e_t1, e_t1e, e_t2, br3_t, br3_f, br3_d, br3_n, br3_a, e_and, e_and1, e_and1e, e_or, e_or1, e_or1e, e_not, e_not1, e_not1e, e_yes, e_av, e_av1, e_av1e, e_av2, e_ov, e_ov1, e_ov1e, e_ov2, e_nv, e_nv1, e_nv1e, e_nv2, e_if, e_if1, e_if1e, e_ch, e_ch1, e_ch3, e_ch4, e_ch2, e_nil, e_cons, e_c1, e_c1e, e_c2, e_c2e, vs_0, vs_1, co_s, e_tup, e_tu1, e_tu1e, e_tu2, e_lst, e_ls1, e_ls1e, e_ls2, av_0, av_v0, av_v, avb_f, av_s, avs_t, e_call, e_ca1, e_ca1e, e_ca2, e_R, e_Re, e_callC, e_cc1, e_cc1e, e_cc2, e_RC, e_callM, e_cm1, e_cm1e, e_cm2, nos_0, nos_v, e_R1, e_R1k, e_R1e, e_make, e_mk1, e_mk1e, e_mk2, e_Mk, e_Mke, e_meth, e_me1, e_me1e, e_me2, e_me2e, fin_nx, fin_rt, fin_ex, outs_0, outs_1, e_seq, q_nx, q_rt, q_bk, q_ct, q_ex, e_next, e_break, e_cont, e_retN, e_drop, e_dr1, e_dr1e, e_ret, e_re1, e_re1e, e_retC, e_rc1, e_rc1k, e_ifs, e_is1, e_is1e, e_asg, e_as1, e_as1e, e_as2, g_name, g_nil, g_cons, g_c1, g_tupT, g_tupL, e_asgC, e_ac1, e_ac1k, e_ac1e, e_par, e_pa1, e_pa1e, e_for, e_fo1, e_fo1e, e_forS, e_fs1, e_fs1t, fl_1, fl_nx, fl_ct, fl_bk, fl_rt, fl_ex, e_seqI, e_si1, e_si1t, e_si1e, e_enum, e_en1, e_en1t, e_zip, e_zi1, e_zi2, seq_l, seq_t, e_range1, e_range2, e_frz, e_fz, e_fzk, e_lm, e_lm1, e_lm2, e_lm2e, e_lm3, e_lm4, m_rev, m_clr, e_setI, e_siA, e_siAe, e_si0, e_si2, e_si3, e_si4, fzv_v, e_setF, e_sf1, e_sf1e, e_sf2, put_0, put_c, lk_c, u_fld, u_isN, u_isN_i, u_isN_s, u_isN_t, u_isN_l, u_isN_o, u_neg, e_B, e_B1, e_B1e, e_B2, ds_0, ds_v, ds_s, cs_s, b_lenl, b_lent, b_lenk, b_abs1, b_max2, b_min2, b_int1, b_intb, b_tupl, b_tupt, b_lisl, b_list', e_lr, o_addi, o_subi, o_muli, o_mulil, o_modi, o_lti, o_lei, o_gti, o_gei, o_eqi, o_eqn, o_eql0, ix_l, ix_t, ix_k, at_0, at_1, at_2, at_3, e_sl, e_sl1, e_sl2, e_sl3, e_sl4, sl_l, sl_t, e_nop, e_pt, e_pt1, e_lc, e_lcS, e_lcB, w_0, w_1, r_0, r_1, e_dnew, e_raise, e_raA, e_ra2, e_try, e_ty_nx, e_ty_rt, e_ty_bk, e_ty_ct, e_ty_ex, e_ty2, e_ty2f, e_ty3n, e_ty3r, e_ty3b, e_ty3c, e_xf, e_xf1, e_isX, e_ix1, e_ix2, ef_0, ef_1, e_isi, e_pl, e_pl1, e_plc, e_pl2, e_pl3, set_0, set_1, set_2, o_divs, el_0, el_c, nc_l, nc_t, nc_i, nc_s, nc_b, nc_n, nc_k, nc_o, nos_d, br3_b, kd_i, kd_s, e_disp, e_di1, e_di1e, e_ps0, e_ps1, e_pp1, e_pp1e, e_pp2i, e_pp2s, e_pp2e, e_pp3, e_pp3e, md_0, md_1, in_ki, in_ks, sm_t, sm_f, em_n, em_c, em_a, in_li, in_ti, List.set_cons_zero, List.set_cons_succ, List.length_cons, List.length_nil, Nat.reduceAdd, Nat.reduceLeDiff, Nat.reduceEqDiff, Nat.reduceLT, Int.reduceLT, Int.reduceLE, Int.reduceNeg, Int.reducePow, Int.reduceSub, Int.reduceAdd, Int.reduceToNat, if_true, if_false, ite_true, ite_false, reduceIte, and_self, and_true, true_and, false_and, and_false, Option.getD_some, Option.getD_none, Nat.zero_add, Nat.reduceSub, Nat.reducePow, Nat.reduceMul, reduceCtorEq, beq_self_eq_true, id_eq, List.map_nil, List.map_cons, Bool.not_true, Bool.not_false, Option.map_some, Option.bind_some, List.reverse_cons, List.reverse_nil, List.nil_append, List.cons_append, not_true_eq_false, not_false_eq_true, decide_true, decide_false, Bool.true_or, Bool.false_or, Bool.or_false, Bool.or_true, Int.toNat_natCast, decide_eq_true_eq, eq_self, Bool.true_and, Bool.and_true, Bool.false_and, Bool.and_false, fl_c, fl_0, *])
/-- the lots: whoever is no child yet stands alone in its lot, and every lot has such a one that stands no later -/
structure LotOk (n : Int) (pos : Int → Nat) (ch : List Int) (g : Int → Int) : Prop where
  uni : ∀ x y, 0 ≤ x → x < n → 0 ≤ y → y < n → g x = g y → x ∉ ch → y ∉ ch → x = y
  root : ∀ x, 0 ≤ x → x < n → ∃ r, 0 ≤ r ∧ r < n ∧ g r = g x ∧ r ∉ ch ∧ pos r ≤ pos x
theorem LotOk.ne {n : Int} {pos : Int → Nat} {ch : List Int} {g : Int → Int} (h : LotOk n pos ch g) {c p : Int} (c0 : 0 ≤ c) (c1 : c < n) (p0 : 0 ≤ p) (p1 : p < n) (hp : pos p < pos c) (hc : c ∉ ch) : g c ≠ g p := by
  intro e
  obtain ⟨r, r0, r1, r2, r3, r4⟩ := h.root p p0 p1
  have := h.uni r c r0 r1 c0 c1 (r2.trans e.symm) r3 hc
  subst this
  omega
theorem LotOk.add {n : Int} {pos : Int → Nat} {ch : List Int} {g g' : Int → Int} (h : LotOk n pos ch g) {c p : Int} (c0 : 0 ≤ c) (c1 : c < n) (p0 : 0 ≤ p) (p1 : p < n) (hp : pos p < pos c) (hc : c ∉ ch)
    (hg : ∀ x y, g' x = g' y ↔ (g x = g y ∨ (g x = g c ∧ g y = g p) ∨ (g x = g p ∧ g y = g c))) : LotOk n pos (ch ++ [c]) g' := by
  have hne := h.ne c0 c1 p0 p1 hp hc
  have nin : ∀ {x}, x ∉ ch ++ [c] ↔ x ∉ ch ∧ x ≠ c := by intro x; simp
  refine ⟨fun x y x0 x1 y0 y1 e hx hy => ?_, fun x x0 x1 => ?_⟩
  · have hx := nin.mp hx
    have hy := nin.mp hy
    rcases (hg x y).mp e with e | ⟨e1, e2⟩ | ⟨e1, e2⟩
    · exact h.uni x y x0 x1 y0 y1 e hx.1 hy.1
    · exact absurd (h.uni x c x0 x1 c0 c1 e1 hx.1 hc) hx.2
    · exact absurd (h.uni y c y0 y1 c0 c1 e2 hy.1 hc) hy.2
  · obtain ⟨r, r0, r1, r2, r3, r4⟩ := h.root x x0 x1
    by_cases q : g x = g c
    · have rc := h.uni r c r0 r1 c0 c1 (r2.trans q) r3 hc
      subst rc
      obtain ⟨r', s0, s1, s2, s3, s4⟩ := h.root p p0 p1
      exact ⟨r', s0, s1, (hg _ _).mpr (.inr (.inr ⟨s2, q⟩)), nin.mpr ⟨s3, fun z => by subst z; exact hne s2⟩, by omega⟩
    · exact ⟨r, r0, r1, (hg _ _).mpr (.inl r2), nin.mpr ⟨r3, fun z => by subst z; exact q r2.symm⟩, r4⟩
theorem LotOk.zero {n : Int} {pos : Int → Nat} : LotOk n pos [] fun x => x := ⟨fun x y _ _ _ _ e _ _ => e, fun x x0 x1 => ⟨x, x0, x1, rfl, by simp, Nat.le_refl _⟩⟩
/-- the next road joins two lots -/
theorem LotOk.road {n : Int} {pos : Int → Nat} {ch : List Int} {g : Int → Int} (h : LotOk n pos ch g) {f : Fc} (ok : f.ok n) (hab : f.a ≠ f.b) (inj : ∀ x y, 0 ≤ x → x < n → 0 ≤ y → y < n → pos x = pos y → x = y) (hc : f.chi pos ∉ ch) :
    g f.a ≠ g f.b ∧ LotOk n pos (ch ++ [f.chi pos]) fun x => if g x = g f.b then g f.a else g x := by
  obtain ⟨a0, a1, b0, b1, _, _⟩ := ok
  unfold Fc.chi at hc ⊢
  by_cases q : pos f.a < pos f.b
  · rw [if_pos q] at hc ⊢
    refine ⟨(h.ne b0 b1 a0 a1 q hc).symm, h.add b0 b1 a0 a1 q hc fun x y => ?_⟩
    have := h.ne b0 b1 a0 a1 q hc
    constructor
    · intro e
      split at e <;> split at e <;> simp_all
    · intro e
      rcases e with e | ⟨e1, e2⟩ | ⟨e1, e2⟩ <;> by_cases s1 : g x = g f.b <;> by_cases s2 : g y = g f.b <;> simp_all
  · have q' : pos f.b < pos f.a := by
      rcases Nat.lt_or_ge (pos f.b) (pos f.a) with z | z
      · exact z
      · exact absurd (inj _ _ a0 a1 b0 b1 (by omega)) hab
    rw [if_neg q] at hc ⊢
    refine ⟨h.ne a0 a1 b0 b1 q' hc, h.add a0 a1 b0 b1 q' hc fun x y => ?_⟩
    have := h.ne a0 a1 b0 b1 q' hc
    constructor
    · intro e
      split at e <;> split at e <;> simp_all
    · intro e
      rcases e with e | ⟨e1, e2⟩ | ⟨e1, e2⟩ <;> by_cases s1 : g x = g f.b <;> by_cases s2 : g y = g f.b <;> simp_all

def lotD (n : Nat) (g : Int → Int) : List D := (List.range n).map fun (i : Nat) => D.int (g i)
theorem lotD_at {n : Nat} {g : Int → Int} {x : Int} (x0 : 0 ≤ x) (x1 : x < n) : atI (lotD n g) x = some (.int (g x)) := by
  refine at_of (j := x.toNat) (by omega) ?_
  unfold lotD
  rw [List.getElem?_map, List.getElem?_range (by omega)]
  show some (D.int (g (x.toNat : Int))) = _
  rw [show (x.toNat : Int) = x by omega]
theorem lotD_len {n : Nat} {g : Int → Int} : (lotD n g).length = n := by simp [lotD]
def treeD (many : Int) (fs : List Fc) (ws : D) : D := .ins C_Tree [(F_crossings, .int many), (F_roads, .tup (fs.map Fc.r)), (F_ways, ws)]
/-- a road's turn -/
theorem lot_turn (t rs : D) (n : Nat) (k : Int) (f : Fc) (g : Int → Int) (hf : f.ok n) (hn : n ≤ 1000) (hg : g f.a ≠ g f.b) (o6 o7 o8 : Option D) :
    ∃ o6', l_Tree___init___1 [some t, some (.int n), some rs, some (.lst (lotD n g)), some (.int k), some f.r, o6, o7, o8] = some (.nx [some t, some (.int n), some rs, some (.lst (lotD n fun x => if g x = g f.b then g f.a else g x)), some (.int k), some f.r, o6', some (.int (g f.b)), o8]) := by
  obtain ⟨a0, a1, b0, b1, l0, l1⟩ := hf
  have ea := lotD_at (g := g) a0 a1
  have eb := lotD_at (g := g) b0 b1
  have lc : ∀ (q6 : Option D), xLcL g_Tree___init___3 xYes c_Tree___init___3 [8] (lotD n g) [] [some t, some (.int n), some rs, some (.lst (lotD n g)), some (.int k), some f.r, q6, some (.int (g f.b)), none] = some (.ok (lotD n fun x => if g x = g f.b then g f.a else g x) [some t, some (.int n), some rs, some (.lst (lotD n g)), some (.int k), some f.r, q6, some (.int (g f.b)), none]) := fun q6 => by
    rw [lc_m (fun d => match d with | .int z => D.int (if z = g f.b then g f.a else z) | d => d) fun d hd => ?_]
    · congr 2
      unfold lotD; rw [List.map_map]; rfl
    · obtain ⟨i, _, rfl⟩ := List.mem_map.mp hd
      refine ⟨_, rfl, ?_⟩
      simp only [c_Tree___init___3, Fc.r] at ea eb ⊢
      by_cases c : g i = g f.b
      · refine ⟨[some t, some (.int n), some rs, some (.lst (lotD n g)), some (.int k), some f.r, q6, some (.int (g f.b)), some (.int (g i))], ?_, rfl⟩
        simp only [Fc.r]
        walk_at "xa"
      · refine ⟨[some t, some (.int n), some rs, some (.lst (lotD n g)), some (.int k), some f.r, q6, some (.int (g f.b)), some (.int (g i))], ?_, rfl⟩
        simp only [Fc.r]
        walk_at "xa"
  refine ⟨some (.int f.b), ?_⟩
  simp only [l_Tree___init___1, l_Tree___init___2, g_Tree___init___2]
  simp only [Fc.r] at lc ⊢
  walk_at "xl"
  rw [e_lc1 (by rw [lotD_len]; omega)]
  walk_at "xa"
theorem tree_loop (t rs : D) (n : Nat) (hn : n ≤ 1000) (pos : Int → Nat) (inj : ∀ x y, 0 ≤ x → x < (n : Int) → 0 ≤ y → y < (n : Int) → pos x = pos y → x = y) : ∀ (fs : List Fc) (k : Int) (ch : List Int) (g : Int → Int) (o4 o5 o6 o7 o8 : Option D),
    (∀ f ∈ fs, f.ok n) → (∀ f ∈ fs, f.a ≠ f.b) → (ch ++ fs.map (Fc.chi pos)).Nodup → LotOk n pos ch g →
    ∃ g' o4' o5' o6' o7' o8', xForL g_Tree___init___1 l_Tree___init___1 (eF k fs) [some t, some (.int n), some rs, some (.lst (lotD n g)), o4, o5, o6, o7, o8] = some (.nx [some t, some (.int n), some rs, some (.lst (lotD n g')), o4', o5', o6', o7', o8'])
  | [], k, ch, g, o4, o5, o6, o7, o8, _, _, _, _ => ⟨g, o4, o5, o6, o7, o8, rfl⟩
  | f :: r, k, ch, g, o4, o5, o6, o7, o8, hok, hne, hnd, hl => by
    have hcf : f.chi pos ∉ ch := fun z => by
      rw [List.map_cons] at hnd
      exact (List.nodup_append.mp hnd).2.2 _ z _ (List.mem_cons_self ..) rfl
    obtain ⟨hgne, hl'⟩ := hl.road (hok f (List.mem_cons_self ..)) (hne f (List.mem_cons_self ..)) inj hcf
    obtain ⟨p6, e1⟩ := lot_turn t rs n k f g (hok f (List.mem_cons_self ..)) hn hgne o6 o7 o8
    obtain ⟨g', q4, q5, q6, q7, q8, e2⟩ := tree_loop t rs n hn pos inj r (k + 1) (ch ++ [f.chi pos]) _ (some (.int k)) (some f.r) p6 (some (.int (g f.b))) o8 (fun x hx => hok x (List.mem_cons_of_mem _ hx)) (fun x hx => hne x (List.mem_cons_of_mem _ hx)) (by rw [List.append_assoc]; exact hnd) hl'
    refine ⟨g', q4, q5, q6, q7, q8, ?_⟩
    rw [eF, fl_c, show g_Tree___init___1 (.tup [.int k, f.r]) [some t, some (.int n), some rs, some (.lst (lotD n g)), o4, o5, o6, o7, o8] = some [some t, some (.int n), some rs, some (.lst (lotD n g)), some (.int k), some f.r, o6, o7, o8] from rfl]
    rw [fl_1, e1, fl_nx, e2]
def waysD (t d : D) : D := match x_ways_from [t, d] with
  | some (.ok v _) => v
  | _ => .non
theorem tree_ok (many : Int) (fs : List Fc) (rd : D) (ht : TreeOk many fs) (hr : seqX rd = some (fs.map Fc.r)) :
    ∃ ws, x_Tree___init__ [.ins C_Tree [], .int many, rd] = some (.ok .non [treeD many fs ws]) := by
  obtain ⟨n, rfl⟩ : ∃ n : Nat, many = n := ⟨many.toNat, by have := ht.lo; omega⟩
  obtain ⟨lo, hi, len, fo⟩ := ht
  obtain ⟨pos, inj, hne, hnd⟩ := fo.ex
  obtain ⟨g', q4, q5, q6, q7, q8, e1⟩ := tree_loop (.ins C_Tree [(F_crossings, .int n), (F_roads, .tup (fs.map Fc.r))]) rd n (by omega) pos inj fs 0 [] (fun x => x) none none none none none fo.ok hne (by simpa using hnd) LotOk.zero
  have e0 : rangeD 0 ((n : Int)).toNat = lotD n fun x => x := by simp [rangeD, lotD]
  have et : tupleX [rd] = some (.tup (fs.map Fc.r)) := by show (seqX rd).map _ = _; rw [hr]; rfl
  have el := enum_eF fs
  simp only [u_Tree___init__, b_Tree___init__]
  have hl : ((fs.map Fc.r).length : Int) = n - 1 := by rw [List.length_map]; exact len
  walk_at "xa"
  rw [e_lr1 ⟨by omega, by omega⟩, e0]
  walk_at "xa"
  rw [e_ra1 ⟨by omega, by omega⟩]
  walk_at "xa"
  rw [e_lc1 (by simp [rangeD]; omega)]
  walk_at "xa"
  have lc : xLcL (xgName 6) xYes c_Tree___init___4 [6] (rangeD 0 n) [] [some (.ins C_Tree [(F_crossings, .int n), (F_roads, .tup (fs.map Fc.r))]), some (.int n), some rd, some (.lst (lotD n g')), q4, q5, none, q7, q8] =
      some (.ok ((rangeD 0 n).map (waysD (.ins C_Tree [(F_crossings, .int n), (F_roads, .tup (fs.map Fc.r))]))) [some (.ins C_Tree [(F_crossings, .int n), (F_roads, .tup (fs.map Fc.r))]), some (.int n), some rd, some (.lst (lotD n g')), q4, q5, none, q7, q8]) := by
    refine lc_m _ fun d hd => ?_
    rw [rangeD_map] at hd
    obtain ⟨i, hi, rfl⟩ := List.mem_map.mp hd
    have := List.mem_range.mp hi
    obtain ⟨kvs, ek⟩ := ways_ok C_Tree [(F_crossings, .int n), (F_roads, .tup (fs.map Fc.r))] fs i n rfl (by omega) fo.ok (by omega) (by omega) (by omega)
    refine ⟨_, rfl, [some (.ins C_Tree [(F_crossings, .int n), (F_roads, .tup (fs.map Fc.r))]), some (.int n), some rd, some (.lst (lotD n g')), q4, q5, some (.int i), q7, q8], ?_, rfl⟩
    simp only [c_Tree___init___4, waysD, ek]
    clear hd e1 e0 et el hnd
    walk_at "xa"
  simp only [g_Tree___init___4, lc]
  walk_at "xa"
  exact ⟨_, rfl⟩
theorem road_ok (a b n : D) : x_Road___init__ [.ins C_Road [], a, b, n] = some (.ok .non [.ins C_Road [(F_a, a), (F_b, b), (F_length, n)]]) := by
  simp only [u_Road___init__, b_Road___init__]
  walk_at "x"
end HT

/-! K2M (k02): lots and what joins them, plain. -/
namespace HT
open PySem PySem.Spec L2 DL
local macro_rules | `(tactic| walk_at "x") => `(tactic| simp -implicitDefEqProofs +decide only [gt_0, gt_s, e_var, e_v1, e_slot, e_s1, e_c, drf_v, drf_s, e_r1, e_op, e_op1, e_op1e, e_op2, e_op2e, e_op3, e_oe, e_oe1, e_oe1e, e_oe2, e_oe2e, e_oe3, e_oe3l, e_oe3r, e_oe3b, e_ol, e_ol1, e_ol1e, e_ol2, e_ol2e, e_ol3, e_ol3l, e_u, e_u1, e_u1e, e_u2, e_tst, e_t1, e_t1e, e_t2, br3_t, br3_f, br3_d, br3_n, br3_a, e_and, e_and1, e_and1e, e_or, e_or1, e_or1e, e_not, e_not1, e_not1e, e_yes, e_av, e_av1, e_av1e, e_av2, e_ov, e_ov1, e_ov1e, e_ov2, e_nv, e_nv1, e_nv1e, e_nv2, e_if, e_if1, e_if1e, e_ch, e_ch1, e_ch3, e_ch4, e_ch2, e_nil, e_cons, e_c1, e_c1e, e_c2, e_c2e, vs_0, vs_1, co_s, e_tup, e_tu1, e_tu1e, e_tu2, e_lst, e_ls1, e_ls1e, e_ls2, av_0, av_v0, av_v, avb_f, av_s, avs_t, e_call, e_ca1, e_ca1e, e_ca2, e_R, e_Re, e_callC, e_cc1, e_cc1e, e_cc2, e_RC, e_callM, e_cm1, e_cm1e, e_cm2, nos_0, nos_v, e_R1, e_R1k, e_R1e, e_make, e_mk1, e_mk1e, e_mk2, e_Mk, e_Mke, e_meth, e_me1, e_me1e, e_me2, e_me2e, fin_nx, fin_rt, fin_ex, outs_0, outs_1, e_seq, q_nx, q_rt, q_bk, q_ct, q_ex, e_next, e_break, e_cont, e_retN, e_drop, e_dr1, e_dr1e, e_ret, e_re1, e_re1e, e_retC, e_rc1, e_rc1k, e_ifs, e_is1, e_is1e, e_asg, e_as1, e_as1e, e_as2, g_name, g_nil, g_cons, g_c1, g_tupT, g_tupL, e_asgC, e_ac1, e_ac1k, e_ac1e, e_par, e_pa1, e_pa1e, e_for, e_fo1, e_fo1e, e_forS, e_fs1, e_fs1t, fl_1, fl_nx, fl_ct, fl_bk, fl_rt, fl_ex, e_seqI, e_si1, e_si1t, e_si1e, e_enum, e_en1, e_en1t, e_zip, e_zi1, e_zi2, seq_l, seq_t, e_range1, e_range2, e_frz, e_fz, e_fzk, e_lm, e_lm1, e_lm2, e_lm2e, e_lm3, e_lm4, m_rev, m_clr, e_setI, e_siA, e_siAe, e_si0, e_si2, e_si3, e_si4, fzv_v, e_setF, e_sf1, e_sf1e, e_sf2, put_0, put_c, lk_c, u_fld, u_isN, u_isN_i, u_isN_s, u_isN_t, u_isN_l, u_isN_o, u_neg, e_B, e_B1, e_B1e, e_B2, ds_0, ds_v, ds_s, cs_s, b_lenl, b_lent, b_lenk, b_abs1, b_max2, b_min2, b_int1, b_intb, b_tupl, b_tupt, b_lisl, b_list', e_lr, o_addi, o_subi, o_muli, o_mulil, o_modi, o_lti, o_lei, o_gti, o_gei, o_eqi, o_eqn, o_eql0, ix_l, ix_t, ix_k, at_0, at_1, at_2, at_3, e_sl, e_sl1, e_sl2, e_sl3, e_sl4, sl_l, sl_t, e_nop, e_pt, e_pt1, e_lc, e_lcS, e_lcB, w_0, w_1, r_0, r_1, e_dnew, e_raise, e_raA, e_ra2, e_try, e_ty_nx, e_ty_rt, e_ty_bk, e_ty_ct, e_ty_ex, e_ty2, e_ty2f, e_ty3n, e_ty3r, e_ty3b, e_ty3c, e_xf, e_xf1, e_isX, e_ix1, e_ix2, ef_0, ef_1, e_isi, e_pl, e_pl1, e_plc, e_pl2, e_pl3, set_0, set_1, set_2, o_divs, el_0, el_c, nc_l, nc_t, nc_i, nc_s, nc_b, nc_n, nc_k, nc_o, nos_d, br3_b, kd_i, kd_s, e_disp, e_di1, e_di1e, e_ps0, e_ps1, e_pp1, e_pp1e, e_pp2i, e_pp2s, e_pp2e, e_pp3, e_pp3e, md_0, md_1, in_ki, in_ks, sm_t, sm_f, em_n, em_c, em_a, in_li, in_ti, List.set_cons_zero, List.set_cons_succ, List.length_cons, List.length_nil, Nat.reduceAdd, Nat.reduceLeDiff, Nat.reduceEqDiff, Nat.reduceLT, Int.reduceLT, Int.reduceLE, Int.reduceNeg, Int.reducePow, Int.reduceSub, Int.reduceAdd, Int.reduceToNat, if_true, if_false, ite_true, ite_false, reduceIte, and_self, and_true, true_and, false_and, and_false, Option.getD_some, Option.getD_none, Nat.zero_add, Nat.reduceSub, Nat.reducePow, Nat.reduceMul, reduceCtorEq, beq_self_eq_true, id_eq, List.map_nil, List.map_cons, Bool.not_true, Bool.not_false, Option.map_some, Option.bind_some, List.reverse_cons, List.reverse_nil, List.nil_append, List.cons_append, not_true_eq_false, not_false_eq_true, decide_true, decide_false, Bool.true_or, Bool.false_or, Bool.or_false, Bool.or_true, Int.toNat_natCast, decide_eq_true_eq, eq_self, Bool.true_and, Bool.and_true, Bool.false_and, Bool.and_false])
local macro_rules | `(tactic| walk_at "xa") => `(tactic| simp -implicitDefEqProofs +decide only [gt_0, gt_s, e_var, e_v1, e_slot, e_s1, e_c, drf_v, drf_s, e_r1, e_op, e_op1, e_op1e, e_op2, e_op2e, e_op3, e_oe, e_oe1, e_oe1e, e_oe2, e_oe2e, e_oe3, e_oe3l, e_oe3r, e_oe3b, e_ol, e_ol1, e_ol1e, e_ol2, e_ol2e, e_ol3, e_ol3l, e_u, e_u1, e_u1e, e_u2, e_tst, e_t1, e_t1e, e_t2, br3_t, br3_f, br3_d, br3_n, br3_a, e_and, e_and1, e_and1e, e_or, e_or1, e_or1e, e_not, e_not1, e_not1e, e_yes, e_av, e_av1, e_av1e, e_av2, e_ov, e_ov1, e_ov1e, e_ov2, e_nv, e_nv1, e_nv1e, e_nv2, e_if, e_if1, e_if1e, e_ch, e_ch1, e_ch3, e_ch4, e_ch2, e_nil, e_cons, e_c1, e_c1e, e_c2, e_c2e, vs_0, vs_1, co_s, e_tup, e_tu1, e_tu1e, e_tu2, e_lst, e_ls1, e_ls1e, e_ls2, av_0, av_v0, av_v, avb_f, av_s, avs_t, e_call, e_ca1, e_ca1e, e_ca2, e_R, e_Re, e_callC, e_cc1, e_cc1e, e_cc2, e_RC, e_callM, e_cm1, e_cm1e, e_cm2, nos_0, nos_v, e_R1, e_R1k, e_R1e, e_make, e_mk1, e_mk1e, e_mk2, e_Mk, e_Mke, e_meth, e_me1, e_me1e, e_me2, e_me2e, fin_nx, fin_rt, fin_ex, outs_0, outs_1, e_seq, q_nx, q_rt, q_bk, q_ct, q_ex, e_next, e_break, e_cont, e_retN, e_drop, e_dr1, e_dr1e, e_ret, e_re1, e_re1e, e_retC, e_rc1, e_rc1k, e_ifs, e_is1, e_is1e, e_asg, e_as1, e_as1e, e_as2, g_name, g_nil, g_cons, g_c1, g_tupT, g_tupL, e_asgC, e_ac1, e_ac1k, e_ac1e, e_par, e_pa1, e_pa1e, e_for, e_fo1, e_fo1e, e_forS, e_fs1, e_fs1t, fl_1, fl_nx, fl_ct, fl_bk, fl_rt, fl_ex, e_seqI, e_si1, e_si1t, e_si1e, e_enum, e_en1, e_en1t, e_zip, e_zi1, e_zi2, seq_l, seq_t, e_range1, e_range2, e_frz, e_fz, e_fzk, e_lm, e_lm1, e_lm2, e_lm2e, e_lm3, e_lm4, m_rev, m_clr, e_setI, e_siA, e_siAe, e_si0, e_si2, e_si3, e_si4, fzv_v, e_setF, e_sf1, e_sf1e, e_sf2, put_0, put_c, lk_c, u_fld, u_isN, u_isN_i, u_isN_s, u_isN_t, u_isN_l, u_isN_o, u_neg, e_B, e_B1, e_B1e, e_B2, ds_0, ds_v, ds_s, cs_s, b_lenl, b_lent, b_lenk, b_abs1, b_max2, b_min2, b_int1, b_intb, b_tupl, b_tupt, b_lisl, b_list', e_lr, o_addi, o_subi, o_muli, o_mulil, o_modi, o_lti, o_lei, o_gti, o_gei, o_eqi, o_eqn, o_eql0, ix_l, ix_t, ix_k, at_0, at_1, at_2, at_3, e_sl, e_sl1, e_sl2, e_sl3, e_sl4, sl_l, sl_t, e_nop, e_pt, e_pt1, e_lc, e_lcS, e_lcB, w_0, w_1, r_0, r_1, e_dnew, e_raise, e_raA, e_ra2, e_try, e_ty_nx, e_ty_rt, e_ty_bk, e_ty_ct, e_ty_ex, e_ty2, e_ty2f, e_ty3n, e_ty3r, e_ty3b, e_ty3c, e_xf, e_xf1, e_isX, e_ix1, e_ix2, ef_0, ef_1, e_isi, e_pl, e_pl1, e_plc, e_pl2, e_pl3, set_0, set_1, set_2, o_divs, el_0, el_c, nc_l, nc_t, nc_i, nc_s, nc_b, nc_n, nc_k, nc_o, nos_d, br3_b, kd_i, kd_s, e_disp, e_di1, e_di1e, e_ps0, e_ps1, e_pp1, e_pp1e, e_pp2i, e_pp2s, e_pp2e, e_pp3, e_pp3e, md_0, md_1, in_ki, in_ks, sm_t, sm_f, em_n, em_c, em_a, in_li, in_ti, List.set_cons_zero, List.set_cons_succ, List.length_cons, List.length_nil, Nat.reduceAdd, Nat.reduceLeDiff, Nat.reduceEqDiff, Nat.reduceLT, Int.reduceLT, Int.reduceLE, Int.reduceNeg, Int.reducePow, Int.reduceSub, Int.reduceAdd, Int.reduceToNat, if_true, if_false, ite_true, ite_false, reduceIte, and_self, and_true, true_and, false_and, and_false, Option.getD_some, Option.getD_none, Nat.zero_add, Nat.reduceSub, Nat.reducePow, Nat.reduceMul, reduceCtorEq, beq_self_eq_true, id_eq, List.map_nil, List.map_cons, Bool.not_true, Bool.not_false, Option.map_some, Option.bind_some, List.reverse_cons, List.reverse_nil, List.nil_append, List.cons_append, not_true_eq_false, not_false_eq_true, decide_true, decide_false, Bool.true_or, Bool.false_or, Bool.or_false, Bool.or_true, Int.toNat_natCast, decide_eq_true_eq, eq_self, Bool.true_and, Bool.and_true, Bool.false_and, Bool.and_false, *])
local macro_rules | `(tactic| walk_at "xl") => `(tactic| simp -implicitDefEqProofs +decide only [gt_0, gt_s, e_var, e_v1, e_slot, e_s1, e_c, drf_v, drf_s, e_r1, e_op, e_op1, e_op1e, e_op2, e_op2e, e_op3, e_oe, e_oe1, e_oe1e, e_oe2, e_oe2e, e_oe3, e_oe3l, e_oe3r, e_oe3b, e_ol, e_ol1, e_ol1e, e_ol2, e_ol2e, e_ol3, e_ol3l, e_u, e_u1, e_u1e, e_u2, e_tst, e_t1, e_t1e, e_t2, br3_t, br3_f, br3_d, br3_n, br3_a, e_and, e_and1, e_and1e, e_or, e_or1, e_or1e, e_not, e_not1, e_not1e, e_yes, e_av, e_av1, e_av1e, e_av2, e_ov, e_ov1, e_ov1e, e_ov2, e_nv, e_nv1, e_nv1e, e_nv2, e_if, e_if1, e_if1e, e_ch, e_ch1, e_ch3, e_ch4, e_ch2, e_nil, e_cons, e_c1, e_c1e, e_c2, e_c2e, vs_0, vs_1, co_s, e_tup, e_tu1, e_tu1e, e_tu2, e_lst, e_ls1, e_ls1e, e_ls2, av_0, av_v0, av_v, avb_f, av_s, avs_t, e_call, e_ca1, e_ca1e, e_ca2, e_R, e_Re, e_callC, e_cc1, e_cc1e, e_cc2, e_RC, e_callM, e_cm1, e_cm1e, e_cm2, nos_0, nos_v, e_R1, e_R1k, e_R1e, e_make, e_mk1, e_mk1e, e_mk2, e_Mk, e_Mke, e_meth, e_me1, e_me1e, e_me2, e_me2e, fin_nx, fin_rt, fin_ex, outs_0, outs_1, e_seq, q_nx, q_rt, q_bk, q_ct, q_ex, e_next, e_break, e_cont, e_retN, e_drop, e_dr1, e_dr1e, e_ret, e_re1, e_re1e, e_retC, e_rc1, e_rc1k, e_ifs, e_is1, e_is1e, e_asg, e_as1, e_as1e, e_as2, g_name, g_nil, g_cons, g_c1, g_tupT, g_tupL, e_asgC, e_ac1, e_ac1k, e_ac1e, e_par, e_pa1, e_pa1e, e_for, e_fo1, e_fo1e, e_forS, e_fs1, e_fs1t, fl_1, fl_nx, fl_ct, fl_bk, fl_rt, fl_ex, e_seqI, e_si1, e_si1t, e_si1e, e_enum, e_en1, e_en1t, e_zip, e_zi1, e_zi2, seq_l, seq_t, e_range1, e_range2, e_frz, e_fz, e_fzk, e_lm, e_lm1, e_lm2, e_lm2e, e_lm3, e_lm4, m_rev, m_clr, e_setI, e_siA, e_siAe, e_si0, e_si2, e_si3, e_si4, fzv_v, e_setF, e_sf1, e_sf1e, e_sf2, put_0, put_c, lk_c, u_fld, u_isN, u_isN_i, u_isN_s, u_isN_t, u_isN_l, u_isN_o, u_neg, e_B, e_B1, e_B1e, e_B2, ds_0, ds_v, ds_s, cs_s, b_lenl, b_lent, b_lenk, b_abs1, b_max2, b_min2, b_int1, b_intb, b_tupl, b_tupt, b_lisl, b_list', e_lr, o_addi, o_subi, o_muli, o_mulil, o_modi, o_lti, o_lei, o_gti, o_gei, o_eqi, o_eqn, o_eql0, ix_l, ix_t, ix_k, at_0, at_1, at_2, at_3, e_sl, e_sl1, e_sl2, e_sl3, e_sl4, sl_l, sl_t, e_nop, e_pt, e_pt1, e_lc, e_lcS, e_lcB, w_0, w_1, r_0, r_1, e_dnew, e_raise, e_raA, e_ra2, e_try, e_ty_nx, e_ty_rt, e_ty_bk, e_ty_ct, e_ty_ex, e_ty2, e_ty2f, e_ty3n, e_ty3r, e_ty3b, e_ty3c, e_xf, e_xf1, e_isX, e_ix1, e_ix2, ef_0, ef_1, e_isi, e_pl, e_pl1, e_plc, e_pl2, e_pl3, set_0, set_1, set_2, o_divs, el_0, el_c, nc_l, nc_t, nc_i, nc_s, nc_b, nc_n, nc_k, nc_o, nos_d, br3_b, kd_i, kd_s, e_disp, e_di1, e_di1e, e_ps0, e_ps1, e_pp1, e_pp1e, e_pp2i, e_pp2s, e_pp2e, e_pp3, e_pp3e, md_0, md_1, in_ki, in_ks, sm_t, sm_f, em_n, em_c, em_a, in_li, in_ti, List.set_cons_zero, List.set_cons_succ, List.length_cons, List.length_nil, Nat.reduceAdd, Nat.reduceLeDiff, Nat.reduceEqDiff, Nat.reduceLT, Int.reduceLT, Int.reduceLE, Int.reduceNeg, Int.reducePow, Int.reduceSub, Int.reduceAdd, Int.reduceToNat, if_true, if_false, ite_true, ite_false, reduceIte, and_self, and_true, true_and, false_and, and_false, Option.getD_some, Option.getD_none, Nat.zero_add, Nat.reduceSub, Nat.reducePow, Nat.reduceMul, reduceCtorEq, beq_self_eq_true, id_eq, List.map_nil, List.map_cons, Bool.not_true, Bool.not_false, Option.map_some, Option.bind_some, List.reverse_cons, List.reverse_nil, List.nil_append, List.cons_append, not_true_eq_false, not_false_eq_true, decide_true, decide_false, Bool.true_or, Bool.false_or, Bool.or_false, Bool.or_true, Int.toNat_natCast, decide_eq_true_eq, eq_self, Bool.true_and, Bool.and_true, Bool.false_and, Bool.and_false, fl_c, fl_0, *])
inductive Conn (p : List Fc) : Int → Int → Prop where
  | rf (x : Int) : Conn p x x
  | ab {x : Int} {f : Fc} : f ∈ p → Conn p x f.a → Conn p x f.b
  | ba {x : Int} {f : Fc} : f ∈ p → Conn p x f.b → Conn p x f.a
section
variable {p : List Fc} {x y z : Int} {f : Fc}
theorem Conn.trans (h : Conn p x y) (k : Conn p y z) : Conn p x z := by
  induction k with
  | rf => exact h
  | ab hf _ ih => exact .ab hf ih
  | ba hf _ ih => exact .ba hf ih
theorem Conn.symm (h : Conn p x y) : Conn p y x := by
  induction h with
  | rf => exact .rf _
  | ab hf _ ih => exact (Conn.ba hf (.rf _)).trans ih
  | ba hf _ ih => exact (Conn.ab hf (.rf _)).trans ih
theorem Conn.mono {q : List Fc} (hq : ∀ f ∈ p, f ∈ q) (h : Conn p x y) : Conn q x y := by
  induction h with
  | rf => exact .rf _
  | ab hf _ ih => exact .ab (hq _ hf) ih
  | ba hf _ ih => exact .ba (hq _ hf) ih
theorem Conn.snoc : Conn (p ++ [f]) x y ↔ (Conn p x y ∨ (Conn p x f.a ∧ Conn p f.b y) ∨ (Conn p x f.b ∧ Conn p f.a y)) := by
  constructor
  · intro h
    induction h with
    | rf => exact .inl (.rf _)
    | ab hf _ ih =>
      rcases List.mem_append.mp hf with hf | hf
      · rcases ih with ih | ⟨i1, i2⟩ | ⟨i1, i2⟩
        · exact .inl (.ab hf ih)
        · exact .inr (.inl ⟨i1, .ab hf i2⟩)
        · exact .inr (.inr ⟨i1, .ab hf i2⟩)
      · simp only [List.mem_cons, List.not_mem_nil, or_false] at hf
        subst hf
        rcases ih with ih | ⟨i1, i2⟩ | ⟨i1, i2⟩
        · exact .inr (.inl ⟨ih, .rf _⟩)
        · exact .inr (.inl ⟨i1, .rf _⟩)
        · exact .inl i1
    | ba hf _ ih =>
      rcases List.mem_append.mp hf with hf | hf
      · rcases ih with ih | ⟨i1, i2⟩ | ⟨i1, i2⟩
        · exact .inl (.ba hf ih)
        · exact .inr (.inl ⟨i1, .ba hf i2⟩)
        · exact .inr (.inr ⟨i1, .ba hf i2⟩)
      · simp only [List.mem_cons, List.not_mem_nil, or_false] at hf
        subst hf
        rcases ih with ih | ⟨i1, i2⟩ | ⟨i1, i2⟩
        · exact .inr (.inr ⟨ih, .rf _⟩)
        · exact .inl i1
        · exact .inr (.inr ⟨i1, .rf _⟩)
  · have mp : ∀ g ∈ p, g ∈ p ++ [f] := fun g hg => List.mem_append_left _ hg
    have mf : f ∈ p ++ [f] := by simp
    rintro (h | ⟨h1, h2⟩ | ⟨h1, h2⟩)
    · exact h.mono mp
    · exact (Conn.ab mf (h1.mono mp)).trans (h2.mono mp)
    · exact (Conn.ba mf (h1.mono mp)).trans (h2.mono mp)
theorem Conn.nil (h : Conn [] x y) : x = y := by
  induction h with
  | rf => rfl
  | ab hf => cases hf
  | ba hf => cases hf
theorem Conn.closed {S : List Int} (hS : ∀ f ∈ p, (f.a ∈ S → f.b ∈ S) ∧ (f.b ∈ S → f.a ∈ S)) (h : Conn p x y) (hx : x ∈ S) : y ∈ S := by
  induction h with
  | rf => exact hx
  | ab hf _ ih => exact (hS _ hf).1 ih
  | ba hf _ ih => exact (hS _ hf).2 ih
end
/-- g tells the lots that the roads p make -/
def Lots (n : Int) (p : List Fc) (g : Int → Int) : Prop := ∀ x y, 0 ≤ x → x < n → 0 ≤ y → y < n → (g x = g y ↔ Conn p x y)
theorem Lots.zero {n : Int} : Lots n [] fun x => x := fun x y _ _ _ _ => ⟨fun h => by subst h; exact .rf _, Conn.nil⟩
theorem Lots.road {n : Int} {p : List Fc} {g : Int → Int} (h : Lots n p g) {f : Fc} (a0 : 0 ≤ f.a) (a1 : f.a < n) (b0 : 0 ≤ f.b) (b1 : f.b < n) : Lots n (p ++ [f]) fun x => if g x = g f.b then g f.a else g x := by
  intro x y x0 x1 y0 y1
  rw [Conn.snoc, ← h x y x0 x1 y0 y1, ← h x f.a x0 x1 a0 a1, ← h f.b y b0 b1 y0 y1, ← h x f.b x0 x1 b0 b1, ← h f.a y a0 a1 y0 y1]
  dsimp only
  by_cases c1 : g x = g f.b
  · by_cases c2 : g y = g f.b
    · rw [if_pos c1, if_pos c2]
      exact ⟨fun _ => .inl (c1.trans c2.symm), fun _ => rfl⟩
    · rw [if_pos c1, if_neg c2]
      constructor
      · exact fun e => .inr (.inr ⟨c1, e⟩)
      · rintro (e | ⟨_, e⟩ | ⟨_, e⟩)
        · exact absurd (e.symm.trans c1) c2
        · exact absurd e.symm c2
        · exact e
  · by_cases c2 : g y = g f.b
    · rw [if_neg c1, if_pos c2]
      constructor
      · exact fun e => .inr (.inl ⟨e, c2.symm⟩)
      · rintro (e | ⟨e, _⟩ | ⟨e, _⟩)
        · exact absurd (e.trans c2) c1
        · exact e
        · exact absurd e c1
    · rw [if_neg c1, if_neg c2]
      constructor
      · exact .inl
      · rintro (e | ⟨_, e⟩ | ⟨e, _⟩)
        · exact e
        · exact absurd e.symm c2
        · exact absurd e c1
end HT

/-! K2J (k02): _law_joined run. -/
namespace HT
open PySem PySem.Spec L2 DL
local macro_rules | `(tactic| walk_at "x") => `(tactic| simp -implicitDefEqProofs +decide only [gt_0, gt_s, e_var, e_v1, e_slot, e_s1, e_c, drf_v, drf_s, e_r1, e_op, e_op1, e_op1e, e_op2, e_op2e, e_op3, e_oe, e_oe1, e_oe1e, e_oe2, e_oe2e, e_oe3, e_oe3l, e_oe3r, e_oe3b, e_ol, e_ol1, e_ol1e, e_ol2, e_ol2e, e_ol3, e_ol3l, e_u, e_u1, e_u1e, e_u2, e_tst, e_t1, e_t1e, e_t2, br3_t, br3_f, br3_d, br3_n, br3_a, e_and, e_and1, e_and1e, e_or, e_or1, e_or1e, e_not, e_not1, e_not1e, e_yes, e_av, e_av1, e_av1e, e_av2, e_ov, e_ov1, e_ov1e, e_ov2, e_nv, e_nv1, e_nv1e, e_nv2, e_if, e_if1, e_if1e, e_ch, e_ch1, e_ch3, e_ch4, e_ch2, e_nil, e_cons, e_c1, e_c1e, e_c2, e_c2e, vs_0, vs_1, co_s, e_tup, e_tu1, e_tu1e, e_tu2, e_lst, e_ls1, e_ls1e, e_ls2, av_0, av_v0, av_v, avb_f, av_s, avs_t, e_call, e_ca1, e_ca1e, e_ca2, e_R, e_Re, e_callC, e_cc1, e_cc1e, e_cc2, e_RC, e_callM, e_cm1, e_cm1e, e_cm2, nos_0, nos_v, e_R1, e_R1k, e_R1e, e_make, e_mk1, e_mk1e, e_mk2, e_Mk, e_Mke, e_meth, e_me1, e_me1e, e_me2, e_me2e, fin_nx, fin_rt, fin_ex, outs_0, outs_1, e_seq, q_nx, q_rt, q_bk, q_ct, q_ex, e_next, e_break, e_cont, e_retN, e_drop, e_dr1, e_dr1e, e_ret, e_re1, e_re1e, e_retC, e_rc1, e_rc1k, e_ifs, e_is1, e_is1e, e_asg, e_as1, e_as1e, e_as2, g_name, g_nil, g_cons, g_c1, g_tupT, g_tupL, e_asgC, e_ac1, e_ac1k, e_ac1e, e_par, e_pa1, e_pa1e, e_for, e_fo1, e_fo1e, e_forS, e_fs1, e_fs1t, fl_1, fl_nx, fl_ct, fl_bk, fl_rt, fl_ex, e_seqI, e_si1, e_si1t, e_si1e, e_enum, e_en1, e_en1t, e_zip, e_zi1, e_zi2, seq_l, seq_t, e_range1, e_range2, e_frz, e_fz, e_fzk, e_lm, e_lm1, e_lm2, e_lm2e, e_lm3, e_lm4, m_rev, m_clr, e_setI, e_siA, e_siAe, e_si0, e_si2, e_si3, e_si4, fzv_v, e_setF, e_sf1, e_sf1e, e_sf2, put_0, put_c, lk_c, u_fld, u_isN, u_isN_i, u_isN_s, u_isN_t, u_isN_l, u_isN_o, u_neg, e_B, e_B1, e_B1e, e_B2, ds_0, ds_v, ds_s, cs_s, b_lenl, b_lent, b_lenk, b_abs1, b_max2, b_min2, b_int1, b_intb, b_tupl, b_tupt, b_lisl, b_list', e_lr, o_addi, o_subi, o_muli, o_mulil, o_modi, o_lti, o_lei, o_gti, o_gei, o_eqi, o_eqn, o_eql0, ix_l, ix_t, ix_k, at_0, at_1, at_2, at_3, e_sl, e_sl1, e_sl2, e_sl3, e_sl4, sl_l, sl_t, e_nop, e_pt, e_pt1, e_lc, e_lcS, e_lcB, w_0, w_1, r_0, r_1, e_dnew, e_raise, e_raA, e_ra2, e_try, e_ty_nx, e_ty_rt, e_ty_bk, e_ty_ct, e_ty_ex, e_ty2, e_ty2f, e_ty3n, e_ty3r, e_ty3b, e_ty3c, e_xf, e_xf1, e_isX, e_ix1, e_ix2, ef_0, ef_1, e_isi, e_pl, e_pl1, e_plc, e_pl2, e_pl3, set_0, set_1, set_2, o_divs, el_0, el_c, nc_l, nc_t, nc_i, nc_s, nc_b, nc_n, nc_k, nc_o, nos_d, br3_b, kd_i, kd_s, e_disp, e_di1, e_di1e, e_ps0, e_ps1, e_pp1, e_pp1e, e_pp2i, e_pp2s, e_pp2e, e_pp3, e_pp3e, md_0, md_1, in_ki, in_ks, sm_t, sm_f, em_n, em_c, em_a, in_li, in_ti, List.set_cons_zero, List.set_cons_succ, List.length_cons, List.length_nil, Nat.reduceAdd, Nat.reduceLeDiff, Nat.reduceEqDiff, Nat.reduceLT, Int.reduceLT, Int.reduceLE, Int.reduceNeg, Int.reducePow, Int.reduceSub, Int.reduceAdd, Int.reduceToNat, if_true, if_false, ite_true, ite_false, reduceIte, and_self, and_true, true_and, false_and, and_false, Option.getD_some, Option.getD_none, Nat.zero_add, Nat.reduceSub, Nat.reducePow, Nat.reduceMul, reduceCtorEq, beq_self_eq_true, id_eq, List.map_nil, List.map_cons, Bool.not_true, Bool.not_false, Option.map_some, Option.bind_some, List.reverse_cons, List.reverse_nil, List.nil_append, List.cons_append, not_true_eq_false, not_false_eq_true, decide_true, decide_false, Bool.true_or, Bool.false_or, Bool.or_false, Bool.or_true, Int.toNat_natCast, decide_eq_true_eq, eq_self, Bool.true_and, Bool.and_true, Bool.false_and, Bool.and_false])
local macro_rules | `(tactic| walk_at "xa") => `(tactic| simp -implicitDefEqProofs +decide only [gt_0, gt_s, e_var, e_v1, e_slot, e_s1, e_c, drf_v, drf_s, e_r1, e_op, e_op1, e_op1e, e_op2, e_op2e, e_op3, e_oe, e_oe1, e_oe1e, e_oe2, e_oe2e, e_oe3, e_oe3l, e_oe3r, e_oe3b, e_ol, e_ol1, e_ol1e, e_ol2, e_ol2e, e_ol3, e_ol3l, e_u, e_u1, e_u1e, e_u2, e_tst, e_t1, e_t1e, e_t2, br3_t, br3_f, br3_d, br3_n, br3_a, e_and, e_and1, e_and1e, e_or, e_or1, e_or1e, e_not, e_not1, e_not1e, e_yes, e_av, e_av1, e_av1e, e_av2, e_ov, e_ov1, e_ov1e, e_ov2, e_nv, e_nv1, e_nv1e, e_nv2, e_if, e_if1, e_if1e, e_ch, e_ch1, e_ch3, e_ch4, e_ch2, e_nil, e_cons, e_c1, e_c1e, e_c2, e_c2e, vs_0, vs_1, co_s, e_tup, e_tu1, e_tu1e, e_tu2, e_lst, e_ls1, e_ls1e, e_ls2, av_0, av_v0, av_v, avb_f, av_s, avs_t, e_call, e_ca1, e_ca1e, e_ca2, e_R, e_Re, e_callC, e_cc1, e_cc1e, e_cc2, e_RC, e_callM, e_cm1, e_cm1e, e_cm2, nos_0, nos_v, e_R1, e_R1k, e_R1e, e_make, e_mk1, e_mk1e, e_mk2, e_Mk, e_Mke, e_meth, e_me1, e_me1e, e_me2, e_me2e, fin_nx, fin_rt, fin_ex, outs_0, outs_1, e_seq, q_nx, q_rt, q_bk, q_ct, q_ex, e_next, e_break, e_cont, e_retN, e_drop, e_dr1, e_dr1e, e_ret, e_re1, e_re1e, e_retC, e_rc1, e_rc1k, e_ifs, e_is1, e_is1e, e_asg, e_as1, e_as1e, e_as2, g_name, g_nil, g_cons, g_c1, g_tupT, g_tupL, e_asgC, e_ac1, e_ac1k, e_ac1e, e_par, e_pa1, e_pa1e, e_for, e_fo1, e_fo1e, e_forS, e_fs1, e_fs1t, fl_1, fl_nx, fl_ct, fl_bk, fl_rt, fl_ex, e_seqI, e_si1, e_si1t, e_si1e, e_enum, e_en1, e_en1t, e_zip, e_zi1, e_zi2, seq_l, seq_t, e_range1, e_range2, e_frz, e_fz, e_fzk, e_lm, e_lm1, e_lm2, e_lm2e, e_lm3, e_lm4, m_rev, m_clr, e_setI, e_siA, e_siAe, e_si0, e_si2, e_si3, e_si4, fzv_v, e_setF, e_sf1, e_sf1e, e_sf2, put_0, put_c, lk_c, u_fld, u_isN, u_isN_i, u_isN_s, u_isN_t, u_isN_l, u_isN_o, u_neg, e_B, e_B1, e_B1e, e_B2, ds_0, ds_v, ds_s, cs_s, b_lenl, b_lent, b_lenk, b_abs1, b_max2, b_min2, b_int1, b_intb, b_tupl, b_tupt, b_lisl, b_list', e_lr, o_addi, o_subi, o_muli, o_mulil, o_modi, o_lti, o_lei, o_gti, o_gei, o_eqi, o_eqn, o_eql0, ix_l, ix_t, ix_k, at_0, at_1, at_2, at_3, e_sl, e_sl1, e_sl2, e_sl3, e_sl4, sl_l, sl_t, e_nop, e_pt, e_pt1, e_lc, e_lcS, e_lcB, w_0, w_1, r_0, r_1, e_dnew, e_raise, e_raA, e_ra2, e_try, e_ty_nx, e_ty_rt, e_ty_bk, e_ty_ct, e_ty_ex, e_ty2, e_ty2f, e_ty3n, e_ty3r, e_ty3b, e_ty3c, e_xf, e_xf1, e_isX, e_ix1, e_ix2, ef_0, ef_1, e_isi, e_pl, e_pl1, e_plc, e_pl2, e_pl3, set_0, set_1, set_2, o_divs, el_0, el_c, nc_l, nc_t, nc_i, nc_s, nc_b, nc_n, nc_k, nc_o, nos_d, br3_b, kd_i, kd_s, e_disp, e_di1, e_di1e, e_ps0, e_ps1, e_pp1, e_pp1e, e_pp2i, e_pp2s, e_pp2e, e_pp3, e_pp3e, md_0, md_1, in_ki, in_ks, sm_t, sm_f, em_n, em_c, em_a, in_li, in_ti, List.set_cons_zero, List.set_cons_succ, List.length_cons, List.length_nil, Nat.reduceAdd, Nat.reduceLeDiff, Nat.reduceEqDiff, Nat.reduceLT, Int.reduceLT, Int.reduceLE, Int.reduceNeg, Int.reducePow, Int.reduceSub, Int.reduceAdd, Int.reduceToNat, if_true, if_false, ite_true, ite_false, reduceIte, and_self, and_true, true_and, false_and, and_false, Option.getD_some, Option.getD_none, Nat.zero_add, Nat.reduceSub, Nat.reducePow, Nat.reduceMul, reduceCtorEq, beq_self_eq_true, id_eq, List.map_nil, List.map_cons, Bool.not_true, Bool.not_false, Option.map_some, Option.bind_some, List.reverse_cons, List.reverse_nil, List.nil_append, List.cons_append, not_true_eq_false, not_false_eq_true, decide_true, decide_false, Bool.true_or, Bool.false_or, Bool.or_false, Bool.or_true, Int.toNat_natCast, decide_eq_true_eq, eq_self, Bool.true_and, Bool.and_true, Bool.false_and, Bool.and_false, *])
local macro_rules | `(tactic| walk_at "xl") => `(tactic| simp -implicitDefEqProofs +decide only [gt_0, gt_s, e_var, e_v1, e_slot, e_s1, e_c, drf_v, drf_s, e_r1, e_op, e_op1, e_op1e, e_op2, e_op2e, e_op3, e_oe, e_oe1, e_oe1e, e_oe2, e_oe2e, e_oe3, e_oe3l, e_oe3r, e_oe3b, e_ol, e_ol1, e_ol1e, e_ol2, e_ol2e, e_ol3, e_ol3l, e_u, e_u1, e_u1e, e_u2, e_tst, e_t1, e_t1e, e_t2, br3_t, br3_f, br3_d, br3_n, br3_a, e_and, e_and1, e_and1e, e_or, e_or1, e_or1e, e_not, e_not1, e_not1e, e_yes, e_av, e_av1, e_av1e, e_av2, e_ov, e_ov1, e_ov1e, e_ov2, e_nv, e_nv1, e_nv1e, e_nv2, e_if, e_if1, e_if1e, e_ch, e_ch1, e_ch3, e_ch4, e_ch2, e_nil, e_cons, e_c1, e_c1e, e_c2, e_c2e, vs_0, vs_1, co_s, e_tup, e_tu1, e_tu1e, e_tu2, e_lst, e_ls1, e_ls1e, e_ls2, av_0, av_v0, av_v, avb_f, av_s, avs_t, e_call, e_ca1, e_ca1e, e_ca2, e_R, e_Re, e_callC, e_cc1, e_cc1e, e_cc2, e_RC, e_callM, e_cm1, e_cm1e, e_cm2, nos_0, nos_v, e_R1, e_R1k, e_R1e, e_make, e_mk1, e_mk1e, e_mk2, e_Mk, e_Mke, e_meth, e_me1, e_me1e, e_me2, e_me2e, fin_nx, fin_rt, fin_ex, outs_0, outs_1, e_seq, q_nx, q_rt, q_bk, q_ct, q_ex, e_next, e_break, e_cont, e_retN, e_drop, e_dr1, e_dr1e, e_ret, e_re1, e_re1e, e_retC, e_rc1, e_rc1k, e_ifs, e_is1, e_is1e, e_asg, e_as1, e_as1e, e_as2, g_name, g_nil, g_cons, g_c1, g_tupT, g_tupL, e_asgC, e_ac1, e_ac1k, e_ac1e, e_par, e_pa1, e_pa1e, e_for, e_fo1, e_fo1e, e_forS, e_fs1, e_fs1t, fl_1, fl_nx, fl_ct, fl_bk, fl_rt, fl_ex, e_seqI, e_si1, e_si1t, e_si1e, e_enum, e_en1, e_en1t, e_zip, e_zi1, e_zi2, seq_l, seq_t, e_range1, e_range2, e_frz, e_fz, e_fzk, e_lm, e_lm1, e_lm2, e_lm2e, e_lm3, e_lm4, m_rev, m_clr, e_setI, e_siA, e_siAe, e_si0, e_si2, e_si3, e_si4, fzv_v, e_setF, e_sf1, e_sf1e, e_sf2, put_0, put_c, lk_c, u_fld, u_isN, u_isN_i, u_isN_s, u_isN_t, u_isN_l, u_isN_o, u_neg, e_B, e_B1, e_B1e, e_B2, ds_0, ds_v, ds_s, cs_s, b_lenl, b_lent, b_lenk, b_abs1, b_max2, b_min2, b_int1, b_intb, b_tupl, b_tupt, b_lisl, b_list', e_lr, o_addi, o_subi, o_muli, o_mulil, o_modi, o_lti, o_lei, o_gti, o_gei, o_eqi, o_eqn, o_eql0, ix_l, ix_t, ix_k, at_0, at_1, at_2, at_3, e_sl, e_sl1, e_sl2, e_sl3, e_sl4, sl_l, sl_t, e_nop, e_pt, e_pt1, e_lc, e_lcS, e_lcB, w_0, w_1, r_0, r_1, e_dnew, e_raise, e_raA, e_ra2, e_try, e_ty_nx, e_ty_rt, e_ty_bk, e_ty_ct, e_ty_ex, e_ty2, e_ty2f, e_ty3n, e_ty3r, e_ty3b, e_ty3c, e_xf, e_xf1, e_isX, e_ix1, e_ix2, ef_0, ef_1, e_isi, e_pl, e_pl1, e_plc, e_pl2, e_pl3, set_0, set_1, set_2, o_divs, el_0, el_c, nc_l, nc_t, nc_i, nc_s, nc_b, nc_n, nc_k, nc_o, nos_d, br3_b, kd_i, kd_s, e_disp, e_di1, e_di1e, e_ps0, e_ps1, e_pp1, e_pp1e, e_pp2i, e_pp2s, e_pp2e, e_pp3, e_pp3e, md_0, md_1, in_ki, in_ks, sm_t, sm_f, em_n, em_c, em_a, in_li, in_ti, List.set_cons_zero, List.set_cons_succ, List.length_cons, List.length_nil, Nat.reduceAdd, Nat.reduceLeDiff, Nat.reduceEqDiff, Nat.reduceLT, Int.reduceLT, Int.reduceLE, Int.reduceNeg, Int.reducePow, Int.reduceSub, Int.reduceAdd, Int.reduceToNat, if_true, if_false, ite_true, ite_false, reduceIte, and_self, and_true, true_and, false_and, and_false, Option.getD_some, Option.getD_none, Nat.zero_add, Nat.reduceSub, Nat.reducePow, Nat.reduceMul, reduceCtorEq, beq_self_eq_true, id_eq, List.map_nil, List.map_cons, Bool.not_true, Bool.not_false, Option.map_some, Option.bind_some, List.reverse_cons, List.reverse_nil, List.nil_append, List.cons_append, not_true_eq_false, not_false_eq_true, decide_true, decide_false, Bool.true_or, Bool.false_or, Bool.or_false, Bool.or_true, Int.toNat_natCast, decide_eq_true_eq, eq_self, Bool.true_and, Bool.and_true, Bool.false_and, Bool.and_false, fl_c, fl_0, *])
/-- from c, by the roads q, one comes to no crossing beside F -/
def Near (q : List Fc) (F : List Int) (c : Int) : Prop := ∀ f ∈ q, (c = f.a → f.b ∈ F) ∧ (c = f.b → f.a ∈ F)
theorem Near.mono {q : List Fc} {F G : List Int} {c : Int} (h : Near q F c) (hs : ∀ k ∈ F, k ∈ G) : Near q G c := fun f hf => ⟨fun e => hs _ ((h f hf).1 e), fun e => hs _ ((h f hf).2 e)⟩
structure Found (n : Int) (p : List Fc) (x : Int) (F : List Int) : Prop where
  nd : F.Nodup
  rg : ∀ k ∈ F, 0 ≤ k ∧ k < n
  cn : ∀ k ∈ F, Conn p x k
theorem Found.len {n : Int} {p : List Fc} {x : Int} {F : List Int} (h : Found n p x F) (hn : 0 ≤ n) : F.length ≤ n.toNat := nd_le _ _ h.nd fun k hk => by have := h.rg k hk; omega
theorem Found.add {n : Int} {p : List Fc} {x v : Int} {F : List Int} (h : Found n p x F) (hv : v ∉ F) (v0 : 0 ≤ v) (v1 : v < n) (c : Conn p x v) : Found n p x (F ++ [v]) := by
  refine ⟨?_, fun k hk => ?_, fun k hk => ?_⟩
  · rw [List.nodup_append]
    refine ⟨h.nd, by simp, fun a ha b hb => ?_⟩
    simp only [List.mem_cons, List.not_mem_nil, or_false] at hb
    subst hb
    exact fun e => hv (e ▸ ha)
  · rcases List.mem_append.mp hk with hk | hk
    · exact h.rg k hk
    · simp only [List.mem_cons, List.not_mem_nil, or_false] at hk
      subst hk; exact ⟨v0, v1⟩
  · rcases List.mem_append.mp hk with hk | hk
    · exact h.cn k hk
    · simp only [List.mem_cons, List.not_mem_nil, or_false] at hk
      subst hk; exact c
/-- a road looked at -/
theorem joined_turn (v0 v1 v2 : D) (n x : Int) (p : List Fc) (f : Fc) (hf : f ∈ p) (ok : 0 ≤ f.a ∧ f.a < n ∧ 0 ≤ f.b ∧ f.b < n) (hn : n ≤ 1000) (F : List Int) (i : Nat) (c : Int) (hc : F[i]? = some c) (h : Found n p x F) :
    ∃ G, l__law_joined_2 [some v0, some v1, some v2, some (.lst (F.map D.int)), some (.int i), some (.int f.a), some (.int f.b), some (.int f.n)] = some (.nx [some v0, some v1, some v2, some (.lst ((F ++ G).map D.int)), some (.int i), some (.int f.a), some (.int f.b), some (.int f.n)]) ∧ Found n p x (F ++ G) ∧ Near [f] (F ++ G) c := by
  obtain ⟨a0, a1, b0, b1⟩ := ok
  have hl := h.len (by omega)
  have hcc := h.cn c (List.mem_of_getElem? hc)
  have ai : ∀ G, atI ((F ++ G).map D.int) (i : Int) = some (.int c) := fun G => at_n (by rw [List.getElem?_map, List.getElem?_append_left (List.getElem?_eq_some_iff.mp hc).1, hc]; rfl)
  have hi := (List.getElem?_eq_some_iff.mp hc).1
  have one : ∃ G, (xIfS (xAnd (xTst (xOpE (eqX S2 6 id) (xVar 5) (xOp ixX (xSlot 3) (xVar 4)))) (xTst (xOpL (inX S2 6 not) (xVar 6) (xSlot 3)))) (xDrop (xLM appendX 3 (xCons (xVar 6) xNil))) xNext) [some v0, some v1, some v2, some (.lst (F.map D.int)), some (.int i), some (.int f.a), some (.int f.b), some (.int f.n)] = some (.nx [some v0, some v1, some v2, some (.lst ((F ++ G).map D.int)), some (.int i), some (.int f.a), some (.int f.b), some (.int f.n)]) ∧ Found n p x (F ++ G) ∧ (c = f.a → f.b ∈ F ++ G) := by
    have ai := ai []
    rw [List.append_nil] at ai
    by_cases c1 : f.a = c
    · by_cases c2 : f.b ∈ F
      · refine ⟨[], ?_, by rwa [List.append_nil], fun _ => by rwa [List.append_nil]⟩
        rw [List.append_nil]
        clear h hc
        walk_at "xa"
      · refine ⟨[f.b], ?_, h.add c2 b0 b1 (.ab hf (c1 ▸ hcc)), fun _ => by simp⟩
        clear h hc hcc
        rw [List.map_append]
        walk_at "xa"
        rw [m_app (by rw [List.length_map]; omega)]
        walk_at "xa"
    · refine ⟨[], ?_, by rwa [List.append_nil], fun e => absurd e.symm c1⟩
      rw [List.append_nil]
      clear h hc
      walk_at "xa"
  obtain ⟨G, e1, h1, n1⟩ := one
  have ai1 := ai G
  have hl1 := h1.len (by omega)
  have two : ∃ G2, (xIfS (xAnd (xTst (xOpE (eqX S2 6 id) (xVar 6) (xOp ixX (xSlot 3) (xVar 4)))) (xTst (xOpL (inX S2 6 not) (xVar 5) (xSlot 3)))) (xDrop (xLM appendX 3 (xCons (xVar 5) xNil))) xNext) [some v0, some v1, some v2, some (.lst ((F ++ G).map D.int)), some (.int i), some (.int f.a), some (.int f.b), some (.int f.n)] = some (.nx [some v0, some v1, some v2, some (.lst ((F ++ G ++ G2).map D.int)), some (.int i), some (.int f.a), some (.int f.b), some (.int f.n)]) ∧ Found n p x (F ++ G ++ G2) ∧ (c = f.b → f.a ∈ F ++ G ++ G2) := by
    generalize F ++ G = F1 at *
    by_cases c1 : f.b = c
    · by_cases c2 : f.a ∈ F1
      · refine ⟨[], ?_, by rwa [List.append_nil], fun _ => by rwa [List.append_nil]⟩
        rw [List.append_nil]
        clear h h1 hc ai e1
        walk_at "xa"
      · refine ⟨[f.a], ?_, h1.add c2 a0 a1 (.ba hf (c1 ▸ hcc)), fun _ => by simp⟩
        clear h h1 hc hcc ai e1
        rw [List.map_append]
        walk_at "xa"
        rw [m_app (by rw [List.length_map]; omega)]
        walk_at "xa"
    · refine ⟨[], ?_, by rwa [List.append_nil], fun e => absurd e.symm c1⟩
      rw [List.append_nil]
      clear h h1 hc ai e1
      walk_at "xa"
  obtain ⟨G2, e2, h2, n2⟩ := two
  refine ⟨G ++ G2, ?_, by rwa [← List.append_assoc], fun g hg => ?_⟩
  · rw [← List.append_assoc]
    simp only [l__law_joined_2]
    rw [e_seq, e1, q_nx, e2]
  · simp only [List.mem_cons, List.not_mem_nil, or_false] at hg
    subst hg
    rw [← List.append_assoc]
    exact ⟨fun e => List.mem_append_left _ (n1 e), n2⟩
theorem joined_loop (v0 v1 v2 : D) (n x : Int) (p : List Fc) (ok : ∀ f ∈ p, 0 ≤ f.a ∧ f.a < n ∧ 0 ≤ f.b ∧ f.b < n) (hn : n ≤ 1000) (i : Nat) (c : Int) : ∀ (r q : List Fc) (F : List Int) (o5 o6 o7 : Option D), p = q ++ r → F[i]? = some c → Found n p x F → Near q F c →
    ∃ G o5' o6' o7', xForL g__law_joined_2 l__law_joined_2 (r.map Fc.d) [some v0, some v1, some v2, some (.lst (F.map D.int)), some (.int i), o5, o6, o7] = some (.nx [some v0, some v1, some v2, some (.lst ((F ++ G).map D.int)), some (.int i), o5', o6', o7']) ∧ Found n p x (F ++ G) ∧ Near p (F ++ G) c
  | [], q, F, o5, o6, o7, hp, hc, h, hn' => ⟨[], o5, o6, o7, by rw [List.append_nil]; rfl, by rwa [List.append_nil], by rw [List.append_nil, hp, List.append_nil]; exact hn'⟩
  | f :: r, q, F, o5, o6, o7, hp, hc, h, hn' => by
    have hf : f ∈ p := by rw [hp]; simp
    obtain ⟨G, e1, h1, k1⟩ := joined_turn v0 v1 v2 n x p f hf (ok f hf) hn F i c hc h
    obtain ⟨G2, o5', o6', o7', e2, h2, k2⟩ := joined_loop v0 v1 v2 n x p ok hn i c r (q ++ [f]) (F ++ G) (some (.int f.a)) (some (.int f.b)) (some (.int f.n)) (by rw [hp]; simp) (by rw [List.getElem?_append_left (List.getElem?_eq_some_iff.mp hc).1, hc]) h1 fun g hg => by
      rcases List.mem_append.mp hg with hg | hg
      · exact (hn'.mono fun k hk => List.mem_append_left _ hk) g hg
      · exact k1 g hg
    refine ⟨G ++ G2, o5', o6', o7', ?_, by rwa [← List.append_assoc], by rwa [← List.append_assoc]⟩
    rw [List.map_cons, fl_c, show g__law_joined_2 f.d [some v0, some v1, some v2, some (.lst (F.map D.int)), some (.int i), o5, o6, o7] = some [some v0, some v1, some v2, some (.lst (F.map D.int)), some (.int i), some (.int f.a), some (.int f.b), some (.int f.n)] from rfl]
    rw [fl_1, e1, fl_nx, e2, List.append_assoc]
open Classical in
theorem joined_ok (n x y : Int) (p : List Fc) (ok : ∀ f ∈ p, 0 ≤ f.a ∧ f.a < n ∧ 0 ≤ f.b ∧ f.b < n) (hn : n ≤ 1000) (x0 : 0 ≤ x) (x1 : x < n) :
    x__law_joined [.lst (p.map Fc.d), .int x, .int y] = some (.ok (.bl (decide (Conn p x y))) []) := by
  have key := wh_inv (t := t__law_joined_1) (b := l__law_joined_1) (fun m e => ∃ (F : List Int) (i : Nat) (o5 o6 o7 : Option D), e = [some (.lst (p.map Fc.d)), some (.int x), some (.int y), some (.lst (F.map D.int)), some (.int i), o5, o6, o7] ∧ m = n.toNat - i ∧ i ≤ F.length ∧ x ∈ F ∧ Found n p x F ∧ ∀ j c, j < i → F[j]? = some c → Near p F c)
    (fun e => ∃ (F : List Int) (i : Nat) (o5 o6 o7 : Option D), e = [some (.lst (p.map Fc.d)), some (.int x), some (.int y), some (.lst (F.map D.int)), some (.int i), o5, o6, o7] ∧ x ∈ F ∧ Found n p x F ∧ ∀ c ∈ F, Near p F c) ?_ (m := n.toNat) (e := [some (.lst (p.map Fc.d)), some (.int x), some (.int y), some (.lst [.int x]), some (.int 0), none, none, none]) (Nat.lt_of_le_of_lt (show _ ≤ 1000 by omega) (by decide))
    ⟨[x], 0, none, none, none, rfl, by omega, by omega, by simp, ⟨by simp, fun k hk => ?_, fun k hk => ?_⟩, fun j c hj => absurd hj (Nat.not_lt_zero _)⟩
  · obtain ⟨e', h1, F, i, o5, o6, o7, rfl, hx, hF, hc⟩ := key
    have iff : (y ∈ F) ↔ Conn p x y := ⟨fun h => hF.cn y h, fun h => h.closed (S := F) (fun f hf => ⟨fun ha => (hc _ ha f hf).1 rfl, fun hb => (hc _ hb f hf).2 rfl⟩) hx⟩
    have iff' : decide (y ∈ F) = decide (Conn p x y) := by
      by_cases q : y ∈ F
      · rw [decide_eq_true q, decide_eq_true (iff.mp q)]
      · rw [decide_eq_false q, decide_eq_false fun z => q (iff.mpr z)]
    clear hF hc hx iff ok
    simp only [u__law_joined, b__law_joined]
    walk_at "xa"
  · rintro m e ⟨F, i, o5, o6, o7, rfl, hm, hi, hx, hF, hc⟩
    have hl := hF.len (by omega)
    have hle : ((F.map D.int).length : Int) = F.length := by rw [List.length_map]
    rcases Nat.lt_or_ge i F.length with z | z
    · have c1 : (i : Int) < (F.map D.int).length := by rw [hle]; omega
      refine ⟨true, [some (.lst (p.map Fc.d)), some (.int x), some (.int y), some (.lst (F.map D.int)), some (.int i), o5, o6, o7], by simp only [t__law_joined_1]; clear hF hc hx ok hle; walk_at "xa", fun _ => ?_, (fun z => nomatch z)⟩
      obtain ⟨G, p5, p6, p7, e1, h1, k1⟩ := joined_loop (.lst (p.map Fc.d)) (.int x) (.int y) n x p ok hn i F[i] p [] F o5 o6 o7 rfl (List.getElem?_eq_getElem z) hF fun f hf => by cases hf
      refine ⟨[some (.lst (p.map Fc.d)), some (.int x), some (.int y), some (.lst ((F ++ G).map D.int)), some (.int ((i + 1 : Nat) : Int)), p5, p6, p7], ?_, n.toNat - (i + 1), by omega, F ++ G, i + 1, p5, p6, p7, rfl, rfl, by rw [List.length_append]; omega, List.mem_append_left _ hx, h1, fun j c hj e => ?_⟩
      · simp only [l__law_joined_1]
        clear hF hc hx ok hle h1 k1
        walk_at "xa"
        rfl
      · rcases Nat.lt_or_ge j i with w | w
        · have hj2 : j < F.length := by omega
          rw [List.getElem?_append_left hj2] at e
          exact (hc j c w e).mono fun k hk => List.mem_append_left _ hk
        · have : j = i := by omega
          subst this
          rw [List.getElem?_append_left z, List.getElem?_eq_getElem z] at e
          cases e
          exact k1
    · have c1 : ¬ (i : Int) < (F.map D.int).length := by rw [hle]; omega
      refine ⟨false, [some (.lst (p.map Fc.d)), some (.int x), some (.int y), some (.lst (F.map D.int)), some (.int i), o5, o6, o7], by simp only [t__law_joined_1]; clear hF hc hx ok hle; walk_at "xa", (fun z => nomatch z), fun _ => ⟨F, i, o5, o6, o7, rfl, hx, hF, fun c hcF => ?_⟩⟩
      obtain ⟨j, hj, e⟩ := List.getElem_of_mem hcF
      exact hc j c (by omega) (by rw [List.getElem?_eq_getElem hj, e])
  · simp only [List.mem_cons, List.not_mem_nil, or_false] at hk
    subst hk; exact ⟨x0, x1⟩
  · simp only [List.mem_cons, List.not_mem_nil, or_false] at hk
    subst hk; exact .rf _
end HT

/-! K2T (k02): Tree made of any roads; what is due. -/
namespace HT
open PySem PySem.Spec L2 DL
local macro_rules | `(tactic| walk_at "x") => `(tactic| simp -implicitDefEqProofs +decide only [gt_0, gt_s, e_var, e_v1, e_slot, e_s1, e_c, drf_v, drf_s, e_r1, e_op, e_op1, e_op1e, e_op2, e_op2e, e_op3, e_oe, e_oe1, e_oe1e, e_oe2, e_oe2e, e_oe3, e_oe3l, e_oe3r, e_oe3b, e_ol, e_ol1, e_ol1e, e_ol2, e_ol2e, e_ol3, e_ol3l, e_u, e_u1, e_u1e, e_u2, e_tst, e_t1, e_t1e, e_t2, br3_t, br3_f, br3_d, br3_n, br3_a, e_and, e_and1, e_and1e, e_or, e_or1, e_or1e, e_not, e_not1, e_not1e, e_yes, e_av, e_av1, e_av1e, e_av2, e_ov, e_ov1, e_ov1e, e_ov2, e_nv, e_nv1, e_nv1e, e_nv2, e_if, e_if1, e_if1e, e_ch, e_ch1, e_ch3, e_ch4, e_ch2, e_nil, e_cons, e_c1, e_c1e, e_c2, e_c2e, vs_0, vs_1, co_s, e_tup, e_tu1, e_tu1e, e_tu2, e_lst, e_ls1, e_ls1e, e_ls2, av_0, av_v0, av_v, avb_f, av_s, avs_t, e_call, e_ca1, e_ca1e, e_ca2, e_R, e_Re, e_callC, e_cc1, e_cc1e, e_cc2, e_RC, e_callM, e_cm1, e_cm1e, e_cm2, nos_0, nos_v, e_R1, e_R1k, e_R1e, e_make, e_mk1, e_mk1e, e_mk2, e_Mk, e_Mke, e_meth, e_me1, e_me1e, e_me2, e_me2e, fin_nx, fin_rt, fin_ex, outs_0, outs_1, e_seq, q_nx, q_rt, q_bk, q_ct, q_ex, e_next, e_break, e_cont, e_retN, e_drop, e_dr1, e_dr1e, e_ret, e_re1, e_re1e, e_retC, e_rc1, e_rc1k, e_ifs, e_is1, e_is1e, e_asg, e_as1, e_as1e, e_as2, g_name, g_nil, g_cons, g_c1, g_tupT, g_tupL, e_asgC, e_ac1, e_ac1k, e_ac1e, e_par, e_pa1, e_pa1e, e_for, e_fo1, e_fo1e, e_forS, e_fs1, e_fs1t, fl_1, fl_nx, fl_ct, fl_bk, fl_rt, fl_ex, e_seqI, e_si1, e_si1t, e_si1e, e_enum, e_en1, e_en1t, e_zip, e_zi1, e_zi2, seq_l, seq_t, e_range1, e_range2, e_frz, e_fz, e_fzk, e_lm, e_lm1, e_lm2, e_lm2e, e_lm3, e_lm4, m_rev, m_clr, e_setI, e_siA, e_siAe, e_si0, e_si2, e_si3, e_si4, fzv_v, e_setF, e_sf1, e_sf1e, e_sf2, put_0, put_c, lk_c, u_fld, u_isN, u_isN_i, u_isN_s, u_isN_t, u_isN_l, u_isN_o, u_neg, e_B, e_B1, e_B1e, e_B2, ds_0, ds_v, ds_s, cs_s, b_lenl, b_lent, b_lenk, b_abs1, b_max2, b_min2, b_int1, b_intb, b_tupl, b_tupt, b_lisl, b_list', e_lr, o_addi, o_subi, o_muli, o_mulil, o_modi, o_lti, o_lei, o_gti, o_gei, o_eqi, o_eqn, o_eql0, ix_l, ix_t, ix_k, at_0, at_1, at_2, at_3, e_sl, e_sl1, e_sl2, e_sl3, e_sl4, sl_l, sl_t, e_nop, e_pt, e_pt1, e_lc, e_lcS, e_lcB, w_0, w_1, r_0, r_1, e_dnew, e_raise, e_raA, e_ra2, e_try, e_ty_nx, e_ty_rt, e_ty_bk, e_ty_ct, e_ty_ex, e_ty2, e_ty2f, e_ty3n, e_ty3r, e_ty3b, e_ty3c, e_xf, e_xf1, e_isX, e_ix1, e_ix2, ef_0, ef_1, e_isi, e_pl, e_pl1, e_plc, e_pl2, e_pl3, set_0, set_1, set_2, o_divs, el_0, el_c, nc_l, nc_t, nc_i, nc_s, nc_b, nc_n, nc_k, nc_o, nos_d, br3_b, kd_i, kd_s, e_disp, e_di1, e_di1e, e_ps0, e_ps1, e_pp1, e_pp1e, e_pp2i, e_pp2s, e_pp2e, e_pp3, e_pp3e, md_0, md_1, in_ki, in_ks, sm_t, sm_f, em_n, em_c, em_a, in_li, in_ti, List.set_cons_zero, List.set_cons_succ, List.length_cons, List.length_nil, Nat.reduceAdd, Nat.reduceLeDiff, Nat.reduceEqDiff, Nat.reduceLT, Int.reduceLT, Int.reduceLE, Int.reduceNeg, Int.reducePow, Int.reduceSub, Int.reduceAdd, Int.reduceToNat, if_true, if_false, ite_true, ite_false, reduceIte, and_self, and_true, true_and, false_and, and_false, Option.getD_some, Option.getD_none, Nat.zero_add, Nat.reduceSub, Nat.reducePow, Nat.reduceMul, reduceCtorEq, beq_self_eq_true, id_eq, List.map_nil, List.map_cons, Bool.not_true, Bool.not_false, Option.map_some, Option.bind_some, List.reverse_cons, List.reverse_nil, List.nil_append, List.cons_append, not_true_eq_false, not_false_eq_true, decide_true, decide_false, Bool.true_or, Bool.false_or, Bool.or_false, Bool.or_true, Int.toNat_natCast, decide_eq_true_eq, eq_self, Bool.true_and, Bool.and_true, Bool.false_and, Bool.and_false])
local macro_rules | `(tactic| walk_at "xa") => `(tactic| simp -implicitDefEqProofs +decide only [gt_0, gt_s, e_var, e_v1, e_slot, e_s1, e_c, drf_v, drf_s, e_r1, e_op, e_op1, e_op1e, e_op2, e_op2e, e_op3, e_oe, e_oe1, e_oe1e, e_oe2, e_oe2e, e_oe3, e_oe3l, e_oe3r, e_oe3b, e_ol, e_ol1, e_ol1e, e_ol2, e_ol2e, e_ol3, e_ol3l, e_u, e_u1, e_u1e, e_u2, e_tst, e_t1, e_t1e, e_t2, br3_t, br3_f, br3_d, br3_n, br3_a, e_and, e_and1, e_and1e, e_or, e_or1, e_or1e, e_not, e_not1, e_not1e, e_yes, e_av, e_av1, e_av1e, e_av2, e_ov, e_ov1, e_ov1e, e_ov2, e_nv, e_nv1, e_nv1e, e_nv2, e_if, e_if1, e_if1e, e_ch, e_ch1, e_ch3, e_ch4, e_ch2, e_nil, e_cons, e_c1, e_c1e, e_c2, e_c2e, vs_0, vs_1, co_s, e_tup, e_tu1, e_tu1e, e_tu2, e_lst, e_ls1, e_ls1e, e_ls2, av_0, av_v0, av_v, avb_f, av_s, avs_t, e_call, e_ca1, e_ca1e, e_ca2, e_R, e_Re, e_callC, e_cc1, e_cc1e, e_cc2, e_RC, e_callM, e_cm1, e_cm1e, e_cm2, nos_0, nos_v, e_R1, e_R1k, e_R1e, e_make, e_mk1, e_mk1e, e_mk2, e_Mk, e_Mke, e_meth, e_me1, e_me1e, e_me2, e_me2e, fin_nx, fin_rt, fin_ex, outs_0, outs_1, e_seq, q_nx, q_rt, q_bk, q_ct, q_ex, e_next, e_break, e_cont, e_retN, e_drop, e_dr1, e_dr1e, e_ret, e_re1, e_re1e, e_retC, e_rc1, e_rc1k, e_ifs, e_is1, e_is1e, e_asg, e_as1, e_as1e, e_as2, g_name, g_nil, g_cons, g_c1, g_tupT, g_tupL, e_asgC, e_ac1, e_ac1k, e_ac1e, e_par, e_pa1, e_pa1e, e_for, e_fo1, e_fo1e, e_forS, e_fs1, e_fs1t, fl_1, fl_nx, fl_ct, fl_bk, fl_rt, fl_ex, e_seqI, e_si1, e_si1t, e_si1e, e_enum, e_en1, e_en1t, e_zip, e_zi1, e_zi2, seq_l, seq_t, e_range1, e_range2, e_frz, e_fz, e_fzk, e_lm, e_lm1, e_lm2, e_lm2e, e_lm3, e_lm4, m_rev, m_clr, e_setI, e_siA, e_siAe, e_si0, e_si2, e_si3, e_si4, fzv_v, e_setF, e_sf1, e_sf1e, e_sf2, put_0, put_c, lk_c, u_fld, u_isN, u_isN_i, u_isN_s, u_isN_t, u_isN_l, u_isN_o, u_neg, e_B, e_B1, e_B1e, e_B2, ds_0, ds_v, ds_s, cs_s, b_lenl, b_lent, b_lenk, b_abs1, b_max2, b_min2, b_int1, b_intb, b_tupl, b_tupt, b_lisl, b_list', e_lr, o_addi, o_subi, o_muli, o_mulil, o_modi, o_lti, o_lei, o_gti, o_gei, o_eqi, o_eqn, o_eql0, ix_l, ix_t, ix_k, at_0, at_1, at_2, at_3, e_sl, e_sl1, e_sl2, e_sl3, e_sl4, sl_l, sl_t, e_nop, e_pt, e_pt1, e_lc, e_lcS, e_lcB, w_0, w_1, r_0, r_1, e_dnew, e_raise, e_raA, e_ra2, e_try, e_ty_nx, e_ty_rt, e_ty_bk, e_ty_ct, e_ty_ex, e_ty2, e_ty2f, e_ty3n, e_ty3r, e_ty3b, e_ty3c, e_xf, e_xf1, e_isX, e_ix1, e_ix2, ef_0, ef_1, e_isi, e_pl, e_pl1, e_plc, e_pl2, e_pl3, set_0, set_1, set_2, o_divs, el_0, el_c, nc_l, nc_t, nc_i, nc_s, nc_b, nc_n, nc_k, nc_o, nos_d, br3_b, kd_i, kd_s, e_disp, e_di1, e_di1e, e_ps0, e_ps1, e_pp1, e_pp1e, e_pp2i, e_pp2s, e_pp2e, e_pp3, e_pp3e, md_0, md_1, in_ki, in_ks, sm_t, sm_f, em_n, em_c, em_a, in_li, in_ti, List.set_cons_zero, List.set_cons_succ, List.length_cons, List.length_nil, Nat.reduceAdd, Nat.reduceLeDiff, Nat.reduceEqDiff, Nat.reduceLT, Int.reduceLT, Int.reduceLE, Int.reduceNeg, Int.reducePow, Int.reduceSub, Int.reduceAdd, Int.reduceToNat, if_true, if_false, ite_true, ite_false, reduceIte, and_self, and_true, true_and, false_and, and_false, Option.getD_some, Option.getD_none, Nat.zero_add, Nat.reduceSub, Nat.reducePow, Nat.reduceMul, reduceCtorEq, beq_self_eq_true, id_eq, List.map_nil, List.map_cons, Bool.not_true, Bool.not_false, Option.map_some, Option.bind_some, List.reverse_cons, List.reverse_nil, List.nil_append, List.cons_append, not_true_eq_false, not_false_eq_true, decide_true, decide_false, Bool.true_or, Bool.false_or, Bool.or_false, Bool.or_true, Int.toNat_natCast, decide_eq_true_eq, eq_self, Bool.true_and, Bool.and_true, Bool.false_and, Bool.and_false, *])
local macro_rules | `(tactic| walk_at "xl") => `(tactic| simp -implicitDefEqProofs +decide only [gt_0, gt_s, e_var, e_v1, e_slot, e_s1, e_c, drf_v, drf_s, e_r1, e_op, e_op1, e_op1e, e_op2, e_op2e, e_op3, e_oe, e_oe1, e_oe1e, e_oe2, e_oe2e, e_oe3, e_oe3l, e_oe3r, e_oe3b, e_ol, e_ol1, e_ol1e, e_ol2, e_ol2e, e_ol3, e_ol3l, e_u, e_u1, e_u1e, e_u2, e_tst, e_t1, e_t1e, e_t2, br3_t, br3_f, br3_d, br3_n, br3_a, e_and, e_and1, e_and1e, e_or, e_or1, e_or1e, e_not, e_not1, e_not1e, e_yes, e_av, e_av1, e_av1e, e_av2, e_ov, e_ov1, e_ov1e, e_ov2, e_nv, e_nv1, e_nv1e, e_nv2, e_if, e_if1, e_if1e, e_ch, e_ch1, e_ch3, e_ch4, e_ch2, e_nil, e_cons, e_c1, e_c1e, e_c2, e_c2e, vs_0, vs_1, co_s, e_tup, e_tu1, e_tu1e, e_tu2, e_lst, e_ls1, e_ls1e, e_ls2, av_0, av_v0, av_v, avb_f, av_s, avs_t, e_call, e_ca1, e_ca1e, e_ca2, e_R, e_Re, e_callC, e_cc1, e_cc1e, e_cc2, e_RC, e_callM, e_cm1, e_cm1e, e_cm2, nos_0, nos_v, e_R1, e_R1k, e_R1e, e_make, e_mk1, e_mk1e, e_mk2, e_Mk, e_Mke, e_meth, e_me1, e_me1e, e_me2, e_me2e, fin_nx, fin_rt, fin_ex, outs_0, outs_1, e_seq, q_nx, q_rt, q_bk, q_ct, q_ex, e_next, e_break, e_cont, e_retN, e_drop, e_dr1, e_dr1e, e_ret, e_re1, e_re1e, e_retC, e_rc1, e_rc1k, e_ifs, e_is1, e_is1e, e_asg, e_as1, e_as1e, e_as2, g_name, g_nil, g_cons, g_c1, g_tupT, g_tupL, e_asgC, e_ac1, e_ac1k, e_ac1e, e_par, e_pa1, e_pa1e, e_for, e_fo1, e_fo1e, e_forS, e_fs1, e_fs1t, fl_1, fl_nx, fl_ct, fl_bk, fl_rt, fl_ex, e_seqI, e_si1, e_si1t, e_si1e, e_enum, e_en1, e_en1t, e_zip, e_zi1, e_zi2, seq_l, seq_t, e_range1, e_range2, e_frz, e_fz, e_fzk, e_lm, e_lm1, e_lm2, e_lm2e, e_lm3, e_lm4, m_rev, m_clr, e_setI, e_siA, e_siAe, e_si0, e_si2, e_si3, e_si4, fzv_v, e_setF, e_sf1, e_sf1e, e_sf2, put_0, put_c, lk_c, u_fld, u_isN, u_isN_i, u_isN_s, u_isN_t, u_isN_l, u_isN_o, u_neg, e_B, e_B1, e_B1e, e_B2, ds_0, ds_v, ds_s, cs_s, b_lenl, b_lent, b_lenk, b_abs1, b_max2, b_min2, b_int1, b_intb, b_tupl, b_tupt, b_lisl, b_list', e_lr, o_addi, o_subi, o_muli, o_mulil, o_modi, o_lti, o_lei, o_gti, o_gei, o_eqi, o_eqn, o_eql0, ix_l, ix_t, ix_k, at_0, at_1, at_2, at_3, e_sl, e_sl1, e_sl2, e_sl3, e_sl4, sl_l, sl_t, e_nop, e_pt, e_pt1, e_lc, e_lcS, e_lcB, w_0, w_1, r_0, r_1, e_dnew, e_raise, e_raA, e_ra2, e_try, e_ty_nx, e_ty_rt, e_ty_bk, e_ty_ct, e_ty_ex, e_ty2, e_ty2f, e_ty3n, e_ty3r, e_ty3b, e_ty3c, e_xf, e_xf1, e_isX, e_ix1, e_ix2, ef_0, ef_1, e_isi, e_pl, e_pl1, e_plc, e_pl2, e_pl3, set_0, set_1, set_2, o_divs, el_0, el_c, nc_l, nc_t, nc_i, nc_s, nc_b, nc_n, nc_k, nc_o, nos_d, br3_b, kd_i, kd_s, e_disp, e_di1, e_di1e, e_ps0, e_ps1, e_pp1, e_pp1e, e_pp2i, e_pp2s, e_pp2e, e_pp3, e_pp3e, md_0, md_1, in_ki, in_ks, sm_t, sm_f, em_n, em_c, em_a, in_li, in_ti, List.set_cons_zero, List.set_cons_succ, List.length_cons, List.length_nil, Nat.reduceAdd, Nat.reduceLeDiff, Nat.reduceEqDiff, Nat.reduceLT, Int.reduceLT, Int.reduceLE, Int.reduceNeg, Int.reducePow, Int.reduceSub, Int.reduceAdd, Int.reduceToNat, if_true, if_false, ite_true, ite_false, reduceIte, and_self, and_true, true_and, false_and, and_false, Option.getD_some, Option.getD_none, Nat.zero_add, Nat.reduceSub, Nat.reducePow, Nat.reduceMul, reduceCtorEq, beq_self_eq_true, id_eq, List.map_nil, List.map_cons, Bool.not_true, Bool.not_false, Option.map_some, Option.bind_some, List.reverse_cons, List.reverse_nil, List.nil_append, List.cons_append, not_true_eq_false, not_false_eq_true, decide_true, decide_false, Bool.true_or, Bool.false_or, Bool.or_false, Bool.or_true, Int.toNat_natCast, decide_eq_true_eq, eq_self, Bool.true_and, Bool.and_true, Bool.false_and, Bool.and_false, fl_c, fl_0, *])
inductive Vd2 where
  | fine
  | bad (w : Str) (n : Int)
  | cross (c : Int)
  | ring (k : Int)
def Vd2.exn : Vd2 → Option Exn
  | .fine => none
  | .bad w n => some (X_BadCount, [(F_count, .int n), (F_what, .str w)])
  | .cross c => some (X_NoCrossing, [(F_crossing, .int c)])
  | .ring k => some (X_RingRoad, [(F_road, .int k)])
def Vd2.due : Vd2 → Option D
  | .fine => none
  | .bad w n => some (.tup [.str w, .int n])
  | .cross c => some (.tup [.str "crossing", .int c])
  | .ring k => some (.tup [.str "ring", .int k])
open Classical in
noncomputable def vf (many : Int) (p : List Fc) (k : Int) (f : Fc) : Vd2 :=
  if 0 ≤ f.a ∧ f.a < many then
    if 0 ≤ f.b ∧ f.b < many then
      if 1 ≤ f.n ∧ f.n ≤ 1000000000 then
        if Conn p f.a f.b then .ring k else .fine
      else .bad "length" f.n
    else .cross f.b
  else .cross f.a
noncomputable def vt (many : Int) : List Fc → Int → List Fc → Vd2
  | _, _, [] => .fine
  | p, k, f :: r => match vf many p k f with
    | .fine => vt many (p ++ [f]) (k + 1) r
    | v => v
theorem vf_fine {many : Int} {p : List Fc} {k : Int} {f : Fc} (h : vf many p k f = .fine) : f.ok many ∧ ¬ Conn p f.a f.b := by
  unfold vf at h
  split at h
  · split at h
    · split at h
      · split at h
        · cases h
        · rename_i h1 h2 h3 h4
          exact ⟨⟨h1.1, h1.2, h2.1, h2.2, h3.1, h3.2⟩, h4⟩
      · cases h
    · cases h
  · cases h
/-- a road that is refused -/
theorem bad_turn (t rs : D) (n : Nat) (k : Int) (p : List Fc) (f : Fc) (g : Int → Int) (hg : Lots n p g) (o6 o7 o8 : Option D) (y : Exn) (hv : (vf n p k f).exn = some y) :
    ∃ o6' o7', l_Tree___init___1 [some t, some (.int n), some rs, some (.lst (lotD n g)), some (.int k), some f.r, o6, o7, o8] = some (.ex y [some t, some (.int n), some rs, some (.lst (lotD n g)), some (.int k), some f.r, o6', o7', o8]) := by
  simp only [l_Tree___init___1, l_Tree___init___2, g_Tree___init___2]
  simp only [Fc.r]
  unfold vf at hv
  by_cases a0 : 0 ≤ f.a
  · by_cases a1 : f.a < n
    · rw [if_pos ⟨a0, a1⟩] at hv
      by_cases b0 : 0 ≤ f.b
      · by_cases b1 : f.b < n
        · rw [if_pos ⟨b0, b1⟩] at hv
          by_cases l0 : 1 ≤ f.n
          · by_cases l1 : f.n ≤ 1000000000
            · rw [if_pos ⟨l0, l1⟩] at hv
              by_cases c : Conn p f.a f.b
              · rw [if_pos c] at hv
                injection hv with hv
                subst hv
                have ea := lotD_at (g := g) a0 a1
                have eb := lotD_at (g := g) b0 b1
                have eg := (hg f.a f.b a0 a1 b0 b1).mpr c
                rw [← eg] at eb
                clear hg c eg
                refine ⟨some (.int f.b), o7, ?_⟩
                walk_at "xl"
              · rw [if_neg c] at hv; cases hv
            · rw [if_neg fun z => l1 z.2] at hv
              injection hv with hv
              subst hv
              refine ⟨some (.int f.b), o7, ?_⟩
              clear hg
              walk_at "xl"
          · rw [if_neg fun z => l0 z.1] at hv
            injection hv with hv
            subst hv
            refine ⟨some (.int f.b), o7, ?_⟩
            clear hg
            walk_at "xl"
        · rw [if_neg fun z => b1 z.2] at hv
          injection hv with hv
          subst hv
          refine ⟨some (.int f.b), o7, ?_⟩
          clear hg
          walk_at "xl"
      · rw [if_neg fun z => b0 z.1] at hv
        injection hv with hv
        subst hv
        refine ⟨some (.int f.b), o7, ?_⟩
        clear hg
        walk_at "xl"
    · rw [if_neg fun z => a1 z.2] at hv
      injection hv with hv
      subst hv
      refine ⟨some (.int f.a), o7, ?_⟩
      clear hg
      walk_at "xl"
  · rw [if_neg fun z => a0 z.1] at hv
    injection hv with hv
    subst hv
    refine ⟨some (.int f.a), o7, ?_⟩
    clear hg
    walk_at "xl"
theorem any_loop (t rs : D) (n : Nat) (hn : n ≤ 1000) : ∀ (fs : List Fc) (k : Int) (p : List Fc) (g : Int → Int) (o4 o5 o6 o7 o8 : Option D), (∀ f ∈ p, f.ok n) → Lots n p g →
    ∃ g' o4' o5' o6' o7' o8', xForL g_Tree___init___1 l_Tree___init___1 (eF k fs) [some t, some (.int n), some rs, some (.lst (lotD n g)), o4, o5, o6, o7, o8] = some (match (vt n p k fs).exn with
      | none => .nx [some t, some (.int n), some rs, some (.lst (lotD n g')), o4', o5', o6', o7', o8']
      | some y => .ex y [some t, some (.int n), some rs, some (.lst (lotD n g')), o4', o5', o6', o7', o8']) ∧ ((vt n p k fs).exn = none → ∀ f ∈ p ++ fs, f.ok n)
  | [], k, p, g, o4, o5, o6, o7, o8, hp, _ => ⟨g, o4, o5, o6, o7, o8, rfl, fun _ f hf => hp f (by simpa using hf)⟩
  | f :: r, k, p, g, o4, o5, o6, o7, o8, hp, hl => by
    have hgo : g_Tree___init___1 (.tup [.int k, f.r]) [some t, some (.int n), some rs, some (.lst (lotD n g)), o4, o5, o6, o7, o8] = some [some t, some (.int n), some rs, some (.lst (lotD n g)), some (.int k), some f.r, o6, o7, o8] := rfl
    have bad : ∀ y, (vf n p k f).exn = some y → vt n p k (f :: r) = vf n p k f → ∃ g' o4' o5' o6' o7' o8', xForL g_Tree___init___1 l_Tree___init___1 (eF k (f :: r)) [some t, some (.int n), some rs, some (.lst (lotD n g)), o4, o5, o6, o7, o8] = some (match (vt n p k (f :: r)).exn with
      | none => .nx [some t, some (.int n), some rs, some (.lst (lotD n g')), o4', o5', o6', o7', o8']
      | some y => .ex y [some t, some (.int n), some rs, some (.lst (lotD n g')), o4', o5', o6', o7', o8']) ∧ ((vt n p k (f :: r)).exn = none → ∀ x ∈ p ++ (f :: r), x.ok n) := fun y hy e => by
      obtain ⟨q6, q7, e1⟩ := bad_turn t rs n k p f g hl o6 o7 o8 y hy
      refine ⟨g, some (.int k), some f.r, q6, q7, o8, ?_, fun z => ?_⟩
      · rw [eF, fl_c, hgo, fl_1, e1, fl_ex, e, hy]
      · rw [e, hy] at z; cases z
    cases q : vf n p k f with
    | fine =>
      obtain ⟨okf, nc⟩ := vf_fine q
      have hgne : g f.a ≠ g f.b := fun z => nc ((hl f.a f.b okf.1 okf.2.1 okf.2.2.1 okf.2.2.2.1).mp z)
      obtain ⟨p6, e1⟩ := lot_turn t rs n k f g okf hn hgne o6 o7 o8
      obtain ⟨g', q4, q5, q6, q7, q8, e2, h2⟩ := any_loop t rs n hn r (k + 1) (p ++ [f]) _ (some (.int k)) (some f.r) p6 (some (.int (g f.b))) o8 (fun x hx => by
        rcases List.mem_append.mp hx with hx | hx
        · exact hp x hx
        · simp only [List.mem_cons, List.not_mem_nil, or_false] at hx
          subst hx; exact okf) (hl.road okf.1 okf.2.1 okf.2.2.1 okf.2.2.2.1)
      have ev : vt n p k (f :: r) = vt n (p ++ [f]) (k + 1) r := by rw [vt, q]
      refine ⟨g', q4, q5, q6, q7, q8, ?_, fun z x hx => ?_⟩
      · rw [eF, fl_c, hgo, fl_1, e1, fl_nx, e2, ev]
      · rw [ev] at z
        exact h2 z x (by rw [List.append_assoc]; exact hx)
    | bad w z => exact bad _ (by rw [q]; rfl) (by rw [vt, q])
    | cross z => exact bad _ (by rw [q]; rfl) (by rw [vt, q])
    | ring z => exact bad _ (by rw [q]; rfl) (by rw [vt, q])
noncomputable def vT (many : Int) (fs : List Fc) : Vd2 :=
  if 2 ≤ many ∧ many ≤ 24 then
    if (fs.length : Int) = many - 1 then vt many [] 0 fs else .bad "roads" fs.length
  else .bad "crossings" many
theorem any_ok (many : Int) (fs : List Fc) (rd : D) (hr : seqX rd = some (fs.map Fc.r)) (hlen : fs.length ≤ 400) :
    ∃ ws o, x_Tree___init__ [.ins C_Tree [], .int many, rd] = some (match (vT many fs).exn with
      | none => .ok .non [treeD many fs ws]
      | some y => .er y o) := by
  have et : tupleX [rd] = some (.tup (fs.map Fc.r)) := by show (seqX rd).map _ = _; rw [hr]; rfl
  have hle : (((fs.map Fc.r).length : Nat) : Int) = fs.length := by rw [List.length_map]
  have el := enum_eF fs
  simp only [u_Tree___init__, b_Tree___init__, vT]
  by_cases c0 : 2 ≤ many
  · by_cases c1 : many ≤ 24
    · rw [if_pos ⟨c0, c1⟩]
      by_cases c2 : (fs.length : Int) = many - 1
      · rw [if_pos c2]
        obtain ⟨n, rfl⟩ : ∃ n : Nat, many = n := ⟨many.toNat, by omega⟩
        obtain ⟨g', q4, q5, q6, q7, q8, e1, hok⟩ := any_loop (.ins C_Tree [(F_crossings, .int n), (F_roads, .tup (fs.map Fc.r))]) rd n (by omega) fs 0 [] (fun x => x) none none none none none (by simp) Lots.zero
        have e0 : rangeD 0 ((n : Int)).toNat = lotD n fun x => x := by simp [rangeD, lotD]
        have hl : ((fs.map Fc.r).length : Int) = n - 1 := by rw [List.length_map]; exact c2
        clear hle c2
        cases q : (vt n [] 0 fs).exn with
        | some y =>
          simp only [q] at e1
          clear hok
          refine ⟨.non, ?_⟩
          walk_at "xa"
          rw [e_lr1 ⟨by omega, by omega⟩, e0]
          walk_at "xa"
          exact ⟨_, rfl⟩
        | none =>
          have hok := hok q
          simp only [List.nil_append] at hok
          simp only [q] at e1
          have lc : xLcL (xgName 6) xYes c_Tree___init___4 [6] (rangeD 0 n) [] [some (.ins C_Tree [(F_crossings, .int n), (F_roads, .tup (fs.map Fc.r))]), some (.int n), some rd, some (.lst (lotD n g')), q4, q5, none, q7, q8] =
              some (.ok ((rangeD 0 n).map (waysD (.ins C_Tree [(F_crossings, .int n), (F_roads, .tup (fs.map Fc.r))]))) [some (.ins C_Tree [(F_crossings, .int n), (F_roads, .tup (fs.map Fc.r))]), some (.int n), some rd, some (.lst (lotD n g')), q4, q5, none, q7, q8]) := by
            refine lc_m _ fun d hd => ?_
            rw [rangeD_map] at hd
            obtain ⟨i, hi, rfl⟩ := List.mem_map.mp hd
            have := List.mem_range.mp hi
            obtain ⟨kvs, ek⟩ := ways_ok C_Tree [(F_crossings, .int n), (F_roads, .tup (fs.map Fc.r))] fs i n rfl hlen hok (by omega) (by omega) (by omega)
            refine ⟨_, rfl, [some (.ins C_Tree [(F_crossings, .int n), (F_roads, .tup (fs.map Fc.r))]), some (.int n), some rd, some (.lst (lotD n g')), q4, q5, some (.int i), q7, q8], ?_, rfl⟩
            simp only [c_Tree___init___4, waysD, ek]
            clear hd e1 e0 et el hok
            walk_at "xa"
          clear hok
          walk_at "xa"
          rw [e_lr1 ⟨by omega, by omega⟩, e0]
          walk_at "xa"
          rw [e_ra1 ⟨by omega, by omega⟩]
          walk_at "xa"
          rw [e_lc1 (by simp [rangeD]; omega)]
          walk_at "xa"
          simp only [g_Tree___init___4, lc]
          walk_at "xa"
          exact ⟨_, [], rfl⟩
      · rw [if_neg c2]
        simp only [Vd2.exn]
        refine ⟨.non, ?_⟩
        walk_at "xa"
        exact ⟨_, rfl⟩
    · rw [if_neg fun z => c1 z.2]
      simp only [Vd2.exn]
      refine ⟨.non, ?_⟩
      walk_at "xa"
      exact ⟨_, rfl⟩
  · rw [if_neg fun z => c0 z.1]
    simp only [Vd2.exn]
    refine ⟨.non, ?_⟩
    walk_at "xa"
    exact ⟨_, rfl⟩
end HT

/-! K2D (k02): what is due, what is said. -/
namespace HT
open PySem PySem.Spec L2 DL
local macro_rules | `(tactic| walk_at "x") => `(tactic| simp -implicitDefEqProofs +decide only [gt_0, gt_s, e_var, e_v1, e_slot, e_s1, e_c, drf_v, drf_s, e_r1, e_op, e_op1, e_op1e, e_op2, e_op2e, e_op3, e_oe, e_oe1, e_oe1e, e_oe2, e_oe2e, e_oe3, e_oe3l, e_oe3r, e_oe3b, e_ol, e_ol1, e_ol1e, e_ol2, e_ol2e, e_ol3, e_ol3l, e_u, e_u1, e_u1e, e_u2, e_tst, e_t1, e_t1e, e_t2, br3_t, br3_f, br3_d, br3_n, br3_a, e_and, e_and1, e_and1e, e_or, e_or1, e_or1e, e_not, e_not1, e_not1e, e_yes, e_av, e_av1, e_av1e, e_av2, e_ov, e_ov1, e_ov1e, e_ov2, e_nv, e_nv1, e_nv1e, e_nv2, e_if, e_if1, e_if1e, e_ch, e_ch1, e_ch3, e_ch4, e_ch2, e_nil, e_cons, e_c1, e_c1e, e_c2, e_c2e, vs_0, vs_1, co_s, e_tup, e_tu1, e_tu1e, e_tu2, e_lst, e_ls1, e_ls1e, e_ls2, av_0, av_v0, av_v, avb_f, av_s, avs_t, e_call, e_ca1, e_ca1e, e_ca2, e_R, e_Re, e_callC, e_cc1, e_cc1e, e_cc2, e_RC, e_callM, e_cm1, e_cm1e, e_cm2, nos_0, nos_v, e_R1, e_R1k, e_R1e, e_make, e_mk1, e_mk1e, e_mk2, e_Mk, e_Mke, e_meth, e_me1, e_me1e, e_me2, e_me2e, fin_nx, fin_rt, fin_ex, outs_0, outs_1, e_seq, q_nx, q_rt, q_bk, q_ct, q_ex, e_next, e_break, e_cont, e_retN, e_drop, e_dr1, e_dr1e, e_ret, e_re1, e_re1e, e_retC, e_rc1, e_rc1k, e_ifs, e_is1, e_is1e, e_asg, e_as1, e_as1e, e_as2, g_name, g_nil, g_cons, g_c1, g_tupT, g_tupL, e_asgC, e_ac1, e_ac1k, e_ac1e, e_par, e_pa1, e_pa1e, e_for, e_fo1, e_fo1e, e_forS, e_fs1, e_fs1t, fl_1, fl_nx, fl_ct, fl_bk, fl_rt, fl_ex, e_seqI, e_si1, e_si1t, e_si1e, e_enum, e_en1, e_en1t, e_zip, e_zi1, e_zi2, seq_l, seq_t, e_range1, e_range2, e_frz, e_fz, e_fzk, e_lm, e_lm1, e_lm2, e_lm2e, e_lm3, e_lm4, m_rev, m_clr, e_setI, e_siA, e_siAe, e_si0, e_si2, e_si3, e_si4, fzv_v, e_setF, e_sf1, e_sf1e, e_sf2, put_0, put_c, lk_c, u_fld, u_isN, u_isN_i, u_isN_s, u_isN_t, u_isN_l, u_isN_o, u_neg, e_B, e_B1, e_B1e, e_B2, ds_0, ds_v, ds_s, cs_s, b_lenl, b_lent, b_lenk, b_abs1, b_max2, b_min2, b_int1, b_intb, b_tupl, b_tupt, b_lisl, b_list', e_lr, o_addi, o_subi, o_muli, o_mulil, o_modi, o_lti, o_lei, o_gti, o_gei, o_eqi, o_eqn, o_eql0, ix_l, ix_t, ix_k, at_0, at_1, at_2, at_3, e_sl, e_sl1, e_sl2, e_sl3, e_sl4, sl_l, sl_t, e_nop, e_pt, e_pt1, e_lc, e_lcS, e_lcB, w_0, w_1, r_0, r_1, e_dnew, e_raise, e_raA, e_ra2, e_try, e_ty_nx, e_ty_rt, e_ty_bk, e_ty_ct, e_ty_ex, e_ty2, e_ty2f, e_ty3n, e_ty3r, e_ty3b, e_ty3c, e_xf, e_xf1, e_isX, e_ix1, e_ix2, ef_0, ef_1, e_isi, e_pl, e_pl1, e_plc, e_pl2, e_pl3, set_0, set_1, set_2, o_divs, el_0, el_c, nc_l, nc_t, nc_i, nc_s, nc_b, nc_n, nc_k, nc_o, nos_d, br3_b, kd_i, kd_s, e_disp, e_di1, e_di1e, e_ps0, e_ps1, e_pp1, e_pp1e, e_pp2i, e_pp2s, e_pp2e, e_pp3, e_pp3e, md_0, md_1, in_ki, in_ks, sm_t, sm_f, em_n, em_c, em_a, in_li, in_ti, List.set_cons_zero, List.set_cons_succ, List.length_cons, List.length_nil, Nat.reduceAdd, Nat.reduceLeDiff, Nat.reduceEqDiff, Nat.reduceLT, Int.reduceLT, Int.reduceLE, Int.reduceNeg, Int.reducePow, Int.reduceSub, Int.reduceAdd, Int.reduceToNat, if_true, if_false, ite_true, ite_false, reduceIte, and_self, and_true, true_and, false_and, and_false, Option.getD_some, Option.getD_none, Nat.zero_add, Nat.reduceSub, Nat.reducePow, Nat.reduceMul, reduceCtorEq, beq_self_eq_true, id_eq, List.map_nil, List.map_cons, Bool.not_true, Bool.not_false, Option.map_some, Option.bind_some, List.reverse_cons, List.reverse_nil, List.nil_append, List.cons_append, not_true_eq_false, not_false_eq_true, decide_true, decide_false, Bool.true_or, Bool.false_or, Bool.or_false, Bool.or_true, Int.toNat_natCast, decide_eq_true_eq, eq_self, Bool.true_and, Bool.and_true, Bool.false_and, Bool.and_false])
local macro_rules | `(tactic| walk_at "xa") => `(tactic| simp -implicitDefEqProofs +decide only [gt_0, gt_s, e_var, e_v1, e_slot, e_s1, e_c, drf_v, drf_s, e_r1, e_op, e_op1, e_op1e, e_op2, e_op2e, e_op3, e_oe, e_oe1, e_oe1e, e_oe2, e_oe2e, e_oe3, e_oe3l, e_oe3r, e_oe3b, e_ol, e_ol1, e_ol1e, e_ol2, e_ol2e, e_ol3, e_ol3l, e_u, e_u1, e_u1e, e_u2, e_tst, e_t1, e_t1e, e_t2, br3_t, br3_f, br3_d, br3_n, br3_a, e_and, e_and1, e_and1e, e_or, e_or1, e_or1e, e_not, e_not1, e_not1e, e_yes, e_av, e_av1, e_av1e, e_av2, e_ov, e_ov1, e_ov1e, e_ov2, e_nv, e_nv1, e_nv1e, e_nv2, e_if, e_if1, e_if1e, e_ch, e_ch1, e_ch3, e_ch4, e_ch2, e_nil, e_cons, e_c1, e_c1e, e_c2, e_c2e, vs_0, vs_1, co_s, e_tup, e_tu1, e_tu1e, e_tu2, e_lst, e_ls1, e_ls1e, e_ls2, av_0, av_v0, av_v, avb_f, av_s, avs_t, e_call, e_ca1, e_ca1e, e_ca2, e_R, e_Re, e_callC, e_cc1, e_cc1e, e_cc2, e_RC, e_callM, e_cm1, e_cm1e, e_cm2, nos_0, nos_v, e_R1, e_R1k, e_R1e, e_make, e_mk1, e_mk1e, e_mk2, e_Mk, e_Mke, e_meth, e_me1, e_me1e, e_me2, e_me2e, fin_nx, fin_rt, fin_ex, outs_0, outs_1, e_seq, q_nx, q_rt, q_bk, q_ct, q_ex, e_next, e_break, e_cont, e_retN, e_drop, e_dr1, e_dr1e, e_ret, e_re1, e_re1e, e_retC, e_rc1, e_rc1k, e_ifs, e_is1, e_is1e, e_asg, e_as1, e_as1e, e_as2, g_name, g_nil, g_cons, g_c1, g_tupT, g_tupL, e_asgC, e_ac1, e_ac1k, e_ac1e, e_par, e_pa1, e_pa1e, e_for, e_fo1, e_fo1e, e_forS, e_fs1, e_fs1t, fl_1, fl_nx, fl_ct, fl_bk, fl_rt, fl_ex, e_seqI, e_si1, e_si1t, e_si1e, e_enum, e_en1, e_en1t, e_zip, e_zi1, e_zi2, seq_l, seq_t, e_range1, e_range2, e_frz, e_fz, e_fzk, e_lm, e_lm1, e_lm2, e_lm2e, e_lm3, e_lm4, m_rev, m_clr, e_setI, e_siA, e_siAe, e_si0, e_si2, e_si3, e_si4, fzv_v, e_setF, e_sf1, e_sf1e, e_sf2, put_0, put_c, lk_c, u_fld, u_isN, u_isN_i, u_isN_s, u_isN_t, u_isN_l, u_isN_o, u_neg, e_B, e_B1, e_B1e, e_B2, ds_0, ds_v, ds_s, cs_s, b_lenl, b_lent, b_lenk, b_abs1, b_max2, b_min2, b_int1, b_intb, b_tupl, b_tupt, b_lisl, b_list', e_lr, o_addi, o_subi, o_muli, o_mulil, o_modi, o_lti, o_lei, o_gti, o_gei, o_eqi, o_eqn, o_eql0, ix_l, ix_t, ix_k, at_0, at_1, at_2, at_3, e_sl, e_sl1, e_sl2, e_sl3, e_sl4, sl_l, sl_t, e_nop, e_pt, e_pt1, e_lc, e_lcS, e_lcB, w_0, w_1, r_0, r_1, e_dnew, e_raise, e_raA, e_ra2, e_try, e_ty_nx, e_ty_rt, e_ty_bk, e_ty_ct, e_ty_ex, e_ty2, e_ty2f, e_ty3n, e_ty3r, e_ty3b, e_ty3c, e_xf, e_xf1, e_isX, e_ix1, e_ix2, ef_0, ef_1, e_isi, e_pl, e_pl1, e_plc, e_pl2, e_pl3, set_0, set_1, set_2, o_divs, el_0, el_c, nc_l, nc_t, nc_i, nc_s, nc_b, nc_n, nc_k, nc_o, nos_d, br3_b, kd_i, kd_s, e_disp, e_di1, e_di1e, e_ps0, e_ps1, e_pp1, e_pp1e, e_pp2i, e_pp2s, e_pp2e, e_pp3, e_pp3e, md_0, md_1, in_ki, in_ks, sm_t, sm_f, em_n, em_c, em_a, in_li, in_ti, List.set_cons_zero, List.set_cons_succ, List.length_cons, List.length_nil, Nat.reduceAdd, Nat.reduceLeDiff, Nat.reduceEqDiff, Nat.reduceLT, Int.reduceLT, Int.reduceLE, Int.reduceNeg, Int.reducePow, Int.reduceSub, Int.reduceAdd, Int.reduceToNat, if_true, if_false, ite_true, ite_false, reduceIte, and_self, and_true, true_and, false_and, and_false, Option.getD_some, Option.getD_none, Nat.zero_add, Nat.reduceSub, Nat.reducePow, Nat.reduceMul, reduceCtorEq, beq_self_eq_true, id_eq, List.map_nil, List.map_cons, Bool.not_true, Bool.not_false, Option.map_some, Option.bind_some, List.reverse_cons, List.reverse_nil, List.nil_append, List.cons_append, not_true_eq_false, not_false_eq_true, decide_true, decide_false, Bool.true_or, Bool.false_or, Bool.or_false, Bool.or_true, Int.toNat_natCast, decide_eq_true_eq, eq_self, Bool.true_and, Bool.and_true, Bool.false_and, Bool.and_false, *])
local macro_rules | `(tactic| walk_at "xl") => `(tactic| simp -implicitDefEqProofs +decide only [gt_0, gt_s, e_var, e_v1, e_slot, e_s1, e_c, drf_v, drf_s, e_r1, e_op, e_op1, e_op1e, e_op2, e_op2e, e_op3, e_oe, e_oe1, e_oe1e, e_oe2, e_oe2e, e_oe3, e_oe3l, e_oe3r, e_oe3b, e_ol, e_ol1, e_ol1e, e_ol2, e_ol2e, e_ol3, e_ol3l, e_u, e_u1, e_u1e, e_u2, e_tst, e_t1, e_t1e, e_t2, br3_t, br3_f, br3_d, br3_n, br3_a, e_and, e_and1, e_and1e, e_or, e_or1, e_or1e, e_not, e_not1, e_not1e, e_yes, e_av, e_av1, e_av1e, e_av2, e_ov, e_ov1, e_ov1e, e_ov2, e_nv, e_nv1, e_nv1e, e_nv2, e_if, e_if1, e_if1e, e_ch, e_ch1, e_ch3, e_ch4, e_ch2, e_nil, e_cons, e_c1, e_c1e, e_c2, e_c2e, vs_0, vs_1, co_s, e_tup, e_tu1, e_tu1e, e_tu2, e_lst, e_ls1, e_ls1e, e_ls2, av_0, av_v0, av_v, avb_f, av_s, avs_t, e_call, e_ca1, e_ca1e, e_ca2, e_R, e_Re, e_callC, e_cc1, e_cc1e, e_cc2, e_RC, e_callM, e_cm1, e_cm1e, e_cm2, nos_0, nos_v, e_R1, e_R1k, e_R1e, e_make, e_mk1, e_mk1e, e_mk2, e_Mk, e_Mke, e_meth, e_me1, e_me1e, e_me2, e_me2e, fin_nx, fin_rt, fin_ex, outs_0, outs_1, e_seq, q_nx, q_rt, q_bk, q_ct, q_ex, e_next, e_break, e_cont, e_retN, e_drop, e_dr1, e_dr1e, e_ret, e_re1, e_re1e, e_retC, e_rc1, e_rc1k, e_ifs, e_is1, e_is1e, e_asg, e_as1, e_as1e, e_as2, g_name, g_nil, g_cons, g_c1, g_tupT, g_tupL, e_asgC, e_ac1, e_ac1k, e_ac1e, e_par, e_pa1, e_pa1e, e_for, e_fo1, e_fo1e, e_forS, e_fs1, e_fs1t, fl_1, fl_nx, fl_ct, fl_bk, fl_rt, fl_ex, e_seqI, e_si1, e_si1t, e_si1e, e_enum, e_en1, e_en1t, e_zip, e_zi1, e_zi2, seq_l, seq_t, e_range1, e_range2, e_frz, e_fz, e_fzk, e_lm, e_lm1, e_lm2, e_lm2e, e_lm3, e_lm4, m_rev, m_clr, e_setI, e_siA, e_siAe, e_si0, e_si2, e_si3, e_si4, fzv_v, e_setF, e_sf1, e_sf1e, e_sf2, put_0, put_c, lk_c, u_fld, u_isN, u_isN_i, u_isN_s, u_isN_t, u_isN_l, u_isN_o, u_neg, e_B, e_B1, e_B1e, e_B2, ds_0, ds_v, ds_s, cs_s, b_lenl, b_lent, b_lenk, b_abs1, b_max2, b_min2, b_int1, b_intb, b_tupl, b_tupt, b_lisl, b_list', e_lr, o_addi, o_subi, o_muli, o_mulil, o_modi, o_lti, o_lei, o_gti, o_gei, o_eqi, o_eqn, o_eql0, ix_l, ix_t, ix_k, at_0, at_1, at_2, at_3, e_sl, e_sl1, e_sl2, e_sl3, e_sl4, sl_l, sl_t, e_nop, e_pt, e_pt1, e_lc, e_lcS, e_lcB, w_0, w_1, r_0, r_1, e_dnew, e_raise, e_raA, e_ra2, e_try, e_ty_nx, e_ty_rt, e_ty_bk, e_ty_ct, e_ty_ex, e_ty2, e_ty2f, e_ty3n, e_ty3r, e_ty3b, e_ty3c, e_xf, e_xf1, e_isX, e_ix1, e_ix2, ef_0, ef_1, e_isi, e_pl, e_pl1, e_plc, e_pl2, e_pl3, set_0, set_1, set_2, o_divs, el_0, el_c, nc_l, nc_t, nc_i, nc_s, nc_b, nc_n, nc_k, nc_o, nos_d, br3_b, kd_i, kd_s, e_disp, e_di1, e_di1e, e_ps0, e_ps1, e_pp1, e_pp1e, e_pp2i, e_pp2s, e_pp2e, e_pp3, e_pp3e, md_0, md_1, in_ki, in_ks, sm_t, sm_f, em_n, em_c, em_a, in_li, in_ti, List.set_cons_zero, List.set_cons_succ, List.length_cons, List.length_nil, Nat.reduceAdd, Nat.reduceLeDiff, Nat.reduceEqDiff, Nat.reduceLT, Int.reduceLT, Int.reduceLE, Int.reduceNeg, Int.reducePow, Int.reduceSub, Int.reduceAdd, Int.reduceToNat, if_true, if_false, ite_true, ite_false, reduceIte, and_self, and_true, true_and, false_and, and_false, Option.getD_some, Option.getD_none, Nat.zero_add, Nat.reduceSub, Nat.reducePow, Nat.reduceMul, reduceCtorEq, beq_self_eq_true, id_eq, List.map_nil, List.map_cons, Bool.not_true, Bool.not_false, Option.map_some, Option.bind_some, List.reverse_cons, List.reverse_nil, List.nil_append, List.cons_append, not_true_eq_false, not_false_eq_true, decide_true, decide_false, Bool.true_or, Bool.false_or, Bool.or_false, Bool.or_true, Int.toNat_natCast, decide_eq_true_eq, eq_self, Bool.true_and, Bool.and_true, Bool.false_and, Bool.and_false, fl_c, fl_0, *])
/-- number and facts -/
def eG : Int → List Fc → List D
  | _, [] => []
  | k, f :: r => .tup [.int k, f.d] :: eG (k + 1) r
theorem eG_idx : ∀ (fs : List Fc) (k : Int), (fs.mapIdx fun i f => D.tup [.int (k + (i : Int)), f.d]) = eG k fs
  | [], _ => rfl
  | f :: r, k => by
    rw [List.mapIdx_cons, eG, ← eG_idx r (k + 1)]
    congr 1
    · simp
    · apply List.ext_getElem?
      intro i
      rw [List.getElem?_mapIdx, List.getElem?_mapIdx]
      cases r[i]? with
      | none => rfl
      | some f =>
        show some (D.tup [.int (k + ((i + 1 : Nat) : Int)), f.d]) = some (D.tup [.int (k + 1 + (i : Int)), f.d])
        rw [show k + ((i + 1 : Nat) : Int) = k + 1 + (i : Int) by omega]
theorem enum_eG (fs : List Fc) : enumD (fs.map Fc.d) = eG 0 fs := by
  rw [enum_map, ← eG_idx fs 0]
  congr 1
  funext i f
  rw [Int.zero_add]
def offL (many : Int) (f : Fc) : List D := (if 0 ≤ f.a ∧ f.a < many then [] else [.int f.a]) ++ (if 0 ≤ f.b ∧ f.b < many then [] else [.int f.b])
theorem off_ok (v1 : D) (many : Int) (f : Fc) (o2 o3 : Option D) :
    xLcL g__law_due_2 t__law_due_2 c__law_due_2 [7] [.int f.a, .int f.b] [] [some (.int many), some v1, o2, o3, some (.int f.a), some (.int f.b), some (.int f.n), none] = some (.ok (offL many f) [some (.int many), some v1, o2, o3, some (.int f.a), some (.int f.b), some (.int f.n), none]) := by
  rw [lc_f (fun d => match d with | .int z => (if 0 ≤ z ∧ z < many then none else some (.int z)) | _ => none) _ _ fun x hx => ?_]
  · congr 2
    unfold offL
    by_cases c0 : 0 ≤ f.a ∧ f.a < many
    · by_cases c1 : 0 ≤ f.b ∧ f.b < many
      · simp [c0, c1]
      · simp [c0, c1]
    · by_cases c1 : 0 ≤ f.b ∧ f.b < many
      · simp [c0, c1]
      · simp [c0, c1]
  · obtain ⟨z, rfl⟩ : ∃ z, x = .int z := by
      simp only [List.mem_cons, List.not_mem_nil, or_false] at hx
      rcases hx with rfl | rfl <;> exact ⟨_, rfl⟩
    clear hx
    by_cases hz : 0 ≤ z ∧ z < many
    · refine ⟨[some (.int many), some v1, o2, o3, some (.int f.a), some (.int f.b), some (.int f.n), some (.int z)], rfl, false, [some (.int many), some v1, o2, o3, some (.int f.a), some (.int f.b), some (.int f.n), some (.int z)], ?_, fun h => ⟨if_pos hz, rfl⟩, fun h => (nomatch h)⟩
      obtain ⟨c0, c1⟩ := hz
      simp only [t__law_due_2]
      walk_at "xa"
    · refine ⟨[some (.int many), some v1, o2, o3, some (.int f.a), some (.int f.b), some (.int f.n), some (.int z)], rfl, true, [some (.int many), some v1, o2, o3, some (.int f.a), some (.int f.b), some (.int f.n), some (.int z)], ?_, fun h => (nomatch h), fun h => ⟨.int z, [some (.int many), some v1, o2, o3, some (.int f.a), some (.int f.b), some (.int f.n), some (.int z)], ?_, if_neg hz, rfl⟩⟩
      · simp only [t__law_due_2]
        by_cases c0 : 0 ≤ z
        · have c1 : ¬ z < many := fun q => hz ⟨c0, q⟩
          clear hz
          walk_at "xa"
        · clear hz
          walk_at "xa"
      · simp only [c__law_due_2]
        clear hz h
        walk_at "xa"
theorem due_turn2 (n : Int) (hn : n ≤ 1000) (p r : List Fc) (f : Fc) (hp : ∀ g ∈ p, g.ok n) (o3 o7 : Option D) :
    ∃ o3', l__law_due_1 [some (.int n), some (.lst ((p ++ f :: r).map Fc.d)), some (.int p.length), o3, some (.int f.a), some (.int f.b), some (.int f.n), o7] = some (match (vf n p p.length f).due with
      | none => .nx [some (.int n), some (.lst ((p ++ f :: r).map Fc.d)), some (.int p.length), o3', some (.int f.a), some (.int f.b), some (.int f.n), o7]
      | some d => .rt d [some (.int n), some (.lst ((p ++ f :: r).map Fc.d)), some (.int p.length), o3', some (.int f.a), some (.int f.b), some (.int f.n), o7]) := by
  have lc := off_ok (.lst ((p ++ f :: r).map Fc.d)) n f (some (.int p.length)) o3
  have hcut : cutD ((p ++ f :: r).map Fc.d) none (some (p.length : Int)) = p.map Fc.d := by
    rw [cut_take _ _ (by simp), ← List.map_take, List.take_left']
    rfl
  refine ⟨some (.lst (offL n f)), ?_⟩
  simp only [l__law_due_1]
  generalize (p ++ f :: r).map Fc.d = l at *
  have hoff : offL n f = (if 0 ≤ f.a ∧ f.a < n then [] else [.int f.a]) ++ (if 0 ≤ f.b ∧ f.b < n then [] else [.int f.b]) := rfl
  generalize offL n f = ol at *
  unfold vf
  by_cases a0 : 0 ≤ f.a ∧ f.a < n
  · rw [if_pos a0] at hoff ⊢
    by_cases b0 : 0 ≤ f.b ∧ f.b < n
    · rw [if_pos b0] at hoff ⊢
      simp only [List.nil_append] at hoff
      subst hoff
      have ej := joined_ok n f.a f.b p (fun g hg => ⟨(hp g hg).1, (hp g hg).2.1, (hp g hg).2.2.1, (hp g hg).2.2.2.1⟩) hn a0.1 a0.2
      clear hp
      by_cases l0 : 1 ≤ f.n
      · by_cases l1 : f.n ≤ 1000000000
        · rw [if_pos ⟨l0, l1⟩]
          by_cases c : Conn p f.a f.b
          · rw [if_pos c]
            simp only [c] at ej
            simp only [Vd2.due]
            clear a0 b0
            walk_at "xa"
            rw [e_lc1 (by simp)]
            walk_at "xa"
          · rw [if_neg c]
            simp only [c] at ej
            simp only [Vd2.due]
            clear a0 b0
            walk_at "xa"
            rw [e_lc1 (by simp)]
            walk_at "xa"
        · rw [if_neg fun z => l1 z.2]
          simp only [Vd2.due]
          clear a0 b0 ej
          walk_at "xa"
          rw [e_lc1 (by simp)]
          walk_at "xa"
      · rw [if_neg fun z => l0 z.1]
        simp only [Vd2.due]
        clear a0 b0 ej
        walk_at "xa"
        rw [e_lc1 (by simp)]
        walk_at "xa"
    · rw [if_neg b0] at hoff ⊢
      simp only [List.nil_append] at hoff
      subst hoff
      simp only [Vd2.due]
      clear a0 b0 hp
      walk_at "xa"
      rw [e_lc1 (by simp)]
      walk_at "xa"
  · rw [if_neg a0] at hoff ⊢
    simp only [Vd2.due]
    clear a0 hp
    split at hoff
    · simp only [List.append_nil] at hoff
      subst hoff
      walk_at "xa"
      rw [e_lc1 (by simp)]
      walk_at "xa"
    · simp only [List.cons_append, List.nil_append] at hoff
      subst hoff
      walk_at "xa"
      rw [e_lc1 (by simp)]
      walk_at "xa"
theorem due_loop2 (n : Int) (hn : n ≤ 1000) : ∀ (r p : List Fc) (fs : List Fc) (o2 o3 o4 o5 o6 o7 : Option D), fs = p ++ r → (∀ g ∈ p, g.ok n) →
    ∃ o2' o3' o4' o5' o6' o7', xForL g__law_due_1 l__law_due_1 (eG p.length r) [some (.int n), some (.lst (fs.map Fc.d)), o2, o3, o4, o5, o6, o7] = some (match (vt n p p.length r).due with
      | none => .nx [some (.int n), some (.lst (fs.map Fc.d)), o2', o3', o4', o5', o6', o7']
      | some d => .rt d [some (.int n), some (.lst (fs.map Fc.d)), o2', o3', o4', o5', o6', o7'])
  | [], p, fs, o2, o3, o4, o5, o6, o7, _, _ => ⟨o2, o3, o4, o5, o6, o7, rfl⟩
  | f :: r, p, fs, o2, o3, o4, o5, o6, o7, hfs, hp => by
    subst hfs
    obtain ⟨o3', e1⟩ := due_turn2 n hn p r f hp o3 o7
    have hgo : g__law_due_1 (.tup [.int p.length, f.d]) [some (.int n), some (.lst ((p ++ f :: r).map Fc.d)), o2, o3, o4, o5, o6, o7] = some [some (.int n), some (.lst ((p ++ f :: r).map Fc.d)), some (.int p.length), o3, some (.int f.a), some (.int f.b), some (.int f.n), o7] := rfl
    rw [eG, fl_c, hgo, fl_1, e1, vt]
    cases q : vf n p p.length f with
    | fine =>
      have := due_loop2 n hn r (p ++ [f]) (p ++ f :: r) (some (.int p.length)) o3' (some (.int f.a)) (some (.int f.b)) (some (.int f.n)) o7 (by simp) fun g hg => by
        rcases List.mem_append.mp hg with hg | hg
        · exact hp g hg
        · simp only [List.mem_cons, List.not_mem_nil, or_false] at hg
          subst hg; exact (vf_fine q).1
      rw [List.length_append] at this
      exact this
    | bad w z => exact ⟨_, _, _, _, _, _, rfl⟩
    | cross z => exact ⟨_, _, _, _, _, _, rfl⟩
    | ring z => exact ⟨_, _, _, _, _, _, rfl⟩
theorem due_ok2 (many : Int) (fs : List Fc) :
    x__law_due [.int many, .lst (fs.map Fc.d)] = some (.ok (((vT many fs).due).getD .non) []) := by
  have hle : (((fs.map Fc.d).length : Nat) : Int) = fs.length := by rw [List.length_map]
  have ee := enum_eG fs
  simp only [u__law_due, b__law_due, vT]
  by_cases c0 : 2 ≤ many
  · by_cases c1 : many ≤ 24
    · rw [if_pos ⟨c0, c1⟩]
      by_cases c2 : (fs.length : Int) = many - 1
      · rw [if_pos c2]
        obtain ⟨o2, o3, o4, o5, o6, o7, e1⟩ := due_loop2 many (by omega) fs [] fs none none none none none none rfl (by simp)
        have e1' : xForL g__law_due_1 l__law_due_1 (eG 0 fs) [some (.int many), some (.lst (fs.map Fc.d)), none, none, none, none, none, none] = _ := e1
        have c3 : ((fs.map Fc.d).length : Int) = many - 1 := by rw [hle]; exact c2
        clear hle c2 e1
        cases q : (vt many [] 0 fs).due with
        | none =>
          have q' : (vt many [] ([] : List Fc).length fs).due = none := q
          simp only [q'] at e1'
          walk_at "xa"
        | some y =>
          have q' : (vt many [] ([] : List Fc).length fs).due = some y := q
          simp only [q'] at e1'
          walk_at "xa"
      · rw [if_neg c2]
        simp only [Vd2.due]
        walk_at "xa"
    · rw [if_neg fun z => c1 z.2]
      simp only [Vd2.due]
      walk_at "xa"
  · rw [if_neg fun z => c0 z.1]
    simp only [Vd2.due]
    walk_at "xa"
theorem said_ok2 (many : Int) (fs : List Fc) (rd : D) (hr : seqX rd = some (fs.map Fc.r)) (hlen : fs.length ≤ 400) :
    x__law_said [.int many, rd] = some (.ok (((vT many fs).due).getD .non) []) := by
  obtain ⟨ws, o, e1⟩ := any_ok many fs rd hr hlen
  clear hr hlen
  simp only [u__law_said, b__law_said]
  have t1 : qx_TrainError X_NoCrossing = some true := rfl
  have t2 : qx_TrainError X_RingRoad = some true := rfl
  have t4 : qx_TrainError X_BadCount = some true := rfl
  have b1 : qx_BadCount X_BadCount = some true := rfl
  have b2 : qx_BadCount X_NoCrossing = some false := rfl
  have b3 : qx_BadCount X_RingRoad = some false := rfl
  have n1 : qx_NoCrossing X_BadCount = some false := rfl
  have n2 : qx_NoCrossing X_NoCrossing = some true := rfl
  have n3 : qx_NoCrossing X_RingRoad = some false := rfl
  have f1 : qx_RingRoad X_BadCount = some false := rfl
  have f2 : qx_RingRoad X_NoCrossing = some false := rfl
  have f3 : qx_RingRoad X_RingRoad = some true := rfl
  have w1 : qx_NoRoad_OffRoad X_BadCount = some false := rfl
  have w2 : qx_NoRoad_OffRoad X_NoCrossing = some false := rfl
  have w3 : qx_NoRoad_OffRoad X_RingRoad = some false := rfl
  have u1 : qx_ValueError X_BadCount = some true := rfl
  have u2 : qx_ValueError X_NoCrossing = some true := rfl
  have u3 : qx_ValueError X_RingRoad = some true := rfl
  have k1 : countX (.lst [.bl true, .bl false, .bl false]) [.bl true] = some (.int 1) := rfl
  have k2 : countX (.lst [.bl false, .bl true, .bl false]) [.bl true] = some (.int 1) := rfl
  have k3 : countX (.lst [.bl false, .bl false, .bl true]) [.bl true] = some (.int 1) := rfl
  cases q : vT many fs with
  | fine =>
    simp only [q, Vd2.exn] at e1
    simp only [Vd2.due]
    simp only [treeD] at e1
    walk_at "xa"
  | bad w z =>
    simp only [q, Vd2.exn] at e1
    simp only [Vd2.due]
    walk_at "xa"
  | cross z =>
    simp only [q, Vd2.exn] at e1
    simp only [Vd2.due]
    walk_at "xa"
  | ring z =>
    simp only [q, Vd2.exn] at e1
    simp only [Vd2.due]
    walk_at "xa"
end HT

/-! K2S (k02): a tree's facts spoilt; roads compared. -/
namespace HT
open PySem PySem.Spec L2 DL
local macro_rules | `(tactic| walk_at "x") => `(tactic| simp -implicitDefEqProofs +decide only [gt_0, gt_s, e_var, e_v1, e_slot, e_s1, e_c, drf_v, drf_s, e_r1, e_op, e_op1, e_op1e, e_op2, e_op2e, e_op3, e_oe, e_oe1, e_oe1e, e_oe2, e_oe2e, e_oe3, e_oe3l, e_oe3r, e_oe3b, e_ol, e_ol1, e_ol1e, e_ol2, e_ol2e, e_ol3, e_ol3l, e_u, e_u1, e_u1e, e_u2, e_tst, e_t1, e_t1e, e_t2, br3_t, br3_f, br3_d, br3_n, br3_a, e_and, e_and1, e_and1e, e_or, e_or1, e_or1e, e_not, e_not1, e_not1e, e_yes, e_av, e_av1, e_av1e, e_av2, e_ov, e_ov1, e_ov1e, e_ov2, e_nv, e_nv1, e_nv1e, e_nv2, e_if, e_if1, e_if1e, e_ch, e_ch1, e_ch3, e_ch4, e_ch2, e_nil, e_cons, e_c1, e_c1e, e_c2, e_c2e, vs_0, vs_1, co_s, e_tup, e_tu1, e_tu1e, e_tu2, e_lst, e_ls1, e_ls1e, e_ls2, av_0, av_v0, av_v, avb_f, av_s, avs_t, e_call, e_ca1, e_ca1e, e_ca2, e_R, e_Re, e_callC, e_cc1, e_cc1e, e_cc2, e_RC, e_callM, e_cm1, e_cm1e, e_cm2, nos_0, nos_v, e_R1, e_R1k, e_R1e, e_make, e_mk1, e_mk1e, e_mk2, e_Mk, e_Mke, e_meth, e_me1, e_me1e, e_me2, e_me2e, fin_nx, fin_rt, fin_ex, outs_0, outs_1, e_seq, q_nx, q_rt, q_bk, q_ct, q_ex, e_next, e_break, e_cont, e_retN, e_drop, e_dr1, e_dr1e, e_ret, e_re1, e_re1e, e_retC, e_rc1, e_rc1k, e_ifs, e_is1, e_is1e, e_asg, e_as1, e_as1e, e_as2, g_name, g_nil, g_cons, g_c1, g_tupT, g_tupL, e_asgC, e_ac1, e_ac1k, e_ac1e, e_par, e_pa1, e_pa1e, e_for, e_fo1, e_fo1e, e_forS, e_fs1, e_fs1t, fl_1, fl_nx, fl_ct, fl_bk, fl_rt, fl_ex, e_seqI, e_si1, e_si1t, e_si1e, e_enum, e_en1, e_en1t, e_zip, e_zi1, e_zi2, seq_l, seq_t, e_range1, e_range2, e_frz, e_fz, e_fzk, e_lm, e_lm1, e_lm2, e_lm2e, e_lm3, e_lm4, m_rev, m_clr, e_setI, e_siA, e_siAe, e_si0, e_si2, e_si3, e_si4, fzv_v, e_setF, e_sf1, e_sf1e, e_sf2, put_0, put_c, lk_c, u_fld, u_isN, u_isN_i, u_isN_s, u_isN_t, u_isN_l, u_isN_o, u_neg, e_B, e_B1, e_B1e, e_B2, ds_0, ds_v, ds_s, cs_s, b_lenl, b_lent, b_lenk, b_abs1, b_max2, b_min2, b_int1, b_intb, b_tupl, b_tupt, b_lisl, b_list', e_lr, o_addi, o_subi, o_muli, o_mulil, o_modi, o_lti, o_lei, o_gti, o_gei, o_eqi, o_eqn, o_eql0, ix_l, ix_t, ix_k, at_0, at_1, at_2, at_3, e_sl, e_sl1, e_sl2, e_sl3, e_sl4, sl_l, sl_t, e_nop, e_pt, e_pt1, e_lc, e_lcS, e_lcB, w_0, w_1, r_0, r_1, e_dnew, e_raise, e_raA, e_ra2, e_try, e_ty_nx, e_ty_rt, e_ty_bk, e_ty_ct, e_ty_ex, e_ty2, e_ty2f, e_ty3n, e_ty3r, e_ty3b, e_ty3c, e_xf, e_xf1, e_isX, e_ix1, e_ix2, ef_0, ef_1, e_isi, e_pl, e_pl1, e_plc, e_pl2, e_pl3, set_0, set_1, set_2, o_divs, el_0, el_c, nc_l, nc_t, nc_i, nc_s, nc_b, nc_n, nc_k, nc_o, nos_d, br3_b, kd_i, kd_s, e_disp, e_di1, e_di1e, e_ps0, e_ps1, e_pp1, e_pp1e, e_pp2i, e_pp2s, e_pp2e, e_pp3, e_pp3e, md_0, md_1, in_ki, in_ks, sm_t, sm_f, em_n, em_c, em_a, in_li, in_ti, List.set_cons_zero, List.set_cons_succ, List.length_cons, List.length_nil, Nat.reduceAdd, Nat.reduceLeDiff, Nat.reduceEqDiff, Nat.reduceLT, Int.reduceLT, Int.reduceLE, Int.reduceNeg, Int.reducePow, Int.reduceSub, Int.reduceAdd, Int.reduceToNat, if_true, if_false, ite_true, ite_false, reduceIte, and_self, and_true, true_and, false_and, and_false, Option.getD_some, Option.getD_none, Nat.zero_add, Nat.reduceSub, Nat.reducePow, Nat.reduceMul, reduceCtorEq, beq_self_eq_true, id_eq, List.map_nil, List.map_cons, Bool.not_true, Bool.not_false, Option.map_some, Option.bind_some, List.reverse_cons, List.reverse_nil, List.nil_append, List.cons_append, not_true_eq_false, not_false_eq_true, decide_true, decide_false, Bool.true_or, Bool.false_or, Bool.or_false, Bool.or_true, Int.toNat_natCast, decide_eq_true_eq, eq_self, Bool.true_and, Bool.and_true, Bool.false_and, Bool.and_false])
local macro_rules | `(tactic| walk_at "xa") => `(tactic| simp -implicitDefEqProofs +decide only [gt_0, gt_s, e_var, e_v1, e_slot, e_s1, e_c, drf_v, drf_s, e_r1, e_op, e_op1, e_op1e, e_op2, e_op2e, e_op3, e_oe, e_oe1, e_oe1e, e_oe2, e_oe2e, e_oe3, e_oe3l, e_oe3r, e_oe3b, e_ol, e_ol1, e_ol1e, e_ol2, e_ol2e, e_ol3, e_ol3l, e_u, e_u1, e_u1e, e_u2, e_tst, e_t1, e_t1e, e_t2, br3_t, br3_f, br3_d, br3_n, br3_a, e_and, e_and1, e_and1e, e_or, e_or1, e_or1e, e_not, e_not1, e_not1e, e_yes, e_av, e_av1, e_av1e, e_av2, e_ov, e_ov1, e_ov1e, e_ov2, e_nv, e_nv1, e_nv1e, e_nv2, e_if, e_if1, e_if1e, e_ch, e_ch1, e_ch3, e_ch4, e_ch2, e_nil, e_cons, e_c1, e_c1e, e_c2, e_c2e, vs_0, vs_1, co_s, e_tup, e_tu1, e_tu1e, e_tu2, e_lst, e_ls1, e_ls1e, e_ls2, av_0, av_v0, av_v, avb_f, av_s, avs_t, e_call, e_ca1, e_ca1e, e_ca2, e_R, e_Re, e_callC, e_cc1, e_cc1e, e_cc2, e_RC, e_callM, e_cm1, e_cm1e, e_cm2, nos_0, nos_v, e_R1, e_R1k, e_R1e, e_make, e_mk1, e_mk1e, e_mk2, e_Mk, e_Mke, e_meth, e_me1, e_me1e, e_me2, e_me2e, fin_nx, fin_rt, fin_ex, outs_0, outs_1, e_seq, q_nx, q_rt, q_bk, q_ct, q_ex, e_next, e_break, e_cont, e_retN, e_drop, e_dr1, e_dr1e, e_ret, e_re1, e_re1e, e_retC, e_rc1, e_rc1k, e_ifs, e_is1, e_is1e, e_asg, e_as1, e_as1e, e_as2, g_name, g_nil, g_cons, g_c1, g_tupT, g_tupL, e_asgC, e_ac1, e_ac1k, e_ac1e, e_par, e_pa1, e_pa1e, e_for, e_fo1, e_fo1e, e_forS, e_fs1, e_fs1t, fl_1, fl_nx, fl_ct, fl_bk, fl_rt, fl_ex, e_seqI, e_si1, e_si1t, e_si1e, e_enum, e_en1, e_en1t, e_zip, e_zi1, e_zi2, seq_l, seq_t, e_range1, e_range2, e_frz, e_fz, e_fzk, e_lm, e_lm1, e_lm2, e_lm2e, e_lm3, e_lm4, m_rev, m_clr, e_setI, e_siA, e_siAe, e_si0, e_si2, e_si3, e_si4, fzv_v, e_setF, e_sf1, e_sf1e, e_sf2, put_0, put_c, lk_c, u_fld, u_isN, u_isN_i, u_isN_s, u_isN_t, u_isN_l, u_isN_o, u_neg, e_B, e_B1, e_B1e, e_B2, ds_0, ds_v, ds_s, cs_s, b_lenl, b_lent, b_lenk, b_abs1, b_max2, b_min2, b_int1, b_intb, b_tupl, b_tupt, b_lisl, b_list', e_lr, o_addi, o_subi, o_muli, o_mulil, o_modi, o_lti, o_lei, o_gti, o_gei, o_eqi, o_eqn, o_eql0, ix_l, ix_t, ix_k, at_0, at_1, at_2, at_3, e_sl, e_sl1, e_sl2, e_sl3, e_sl4, sl_l, sl_t, e_nop, e_pt, e_pt1, e_lc, e_lcS, e_lcB, w_0, w_1, r_0, r_1, e_dnew, e_raise, e_raA, e_ra2, e_try, e_ty_nx, e_ty_rt, e_ty_bk, e_ty_ct, e_ty_ex, e_ty2, e_ty2f, e_ty3n, e_ty3r, e_ty3b, e_ty3c, e_xf, e_xf1, e_isX, e_ix1, e_ix2, ef_0, ef_1, e_isi, e_pl, e_pl1, e_plc, e_pl2, e_pl3, set_0, set_1, set_2, o_divs, el_0, el_c, nc_l, nc_t, nc_i, nc_s, nc_b, nc_n, nc_k, nc_o, nos_d, br3_b, kd_i, kd_s, e_disp, e_di1, e_di1e, e_ps0, e_ps1, e_pp1, e_pp1e, e_pp2i, e_pp2s, e_pp2e, e_pp3, e_pp3e, md_0, md_1, in_ki, in_ks, sm_t, sm_f, em_n, em_c, em_a, in_li, in_ti, List.set_cons_zero, List.set_cons_succ, List.length_cons, List.length_nil, Nat.reduceAdd, Nat.reduceLeDiff, Nat.reduceEqDiff, Nat.reduceLT, Int.reduceLT, Int.reduceLE, Int.reduceNeg, Int.reducePow, Int.reduceSub, Int.reduceAdd, Int.reduceToNat, if_true, if_false, ite_true, ite_false, reduceIte, and_self, and_true, true_and, false_and, and_false, Option.getD_some, Option.getD_none, Nat.zero_add, Nat.reduceSub, Nat.reducePow, Nat.reduceMul, reduceCtorEq, beq_self_eq_true, id_eq, List.map_nil, List.map_cons, Bool.not_true, Bool.not_false, Option.map_some, Option.bind_some, List.reverse_cons, List.reverse_nil, List.nil_append, List.cons_append, not_true_eq_false, not_false_eq_true, decide_true, decide_false, Bool.true_or, Bool.false_or, Bool.or_false, Bool.or_true, Int.toNat_natCast, decide_eq_true_eq, eq_self, Bool.true_and, Bool.and_true, Bool.false_and, Bool.and_false, *])
local macro_rules | `(tactic| walk_at "xl") => `(tactic| simp -implicitDefEqProofs +decide only [gt_0, gt_s, e_var, e_v1, e_slot, e_s1, e_c, drf_v, drf_s, e_r1, e_op, e_op1, e_op1e, e_op2, e_op2e, e_op3, e_oe, e_oe1, e_oe1e, e_oe2, e_oe2e, e_oe3, e_oe3l, e_oe3r, e_oe3b, e_ol, e_ol1, e_ol1e, e_ol2, e_ol2e, e_ol3, e_ol3l, e_u, e_u1, e_u1e, e_u2, e_tst, e_t1, e_t1e, e_t2, br3_t, br3_f, br3_d, br3_n, br3_a, e_and, e_and1, e_and1e, e_or, e_or1, e_or1e, e_not, e_not1, e_not1e, e_yes, e_av, e_av1, e_av1e, e_av2, e_ov, e_ov1, e_ov1e, e_ov2, e_nv, e_nv1, e_nv1e, e_nv2, e_if, e_if1, e_if1e, e_ch, e_ch1, e_ch3, e_ch4, e_ch2, e_nil, e_cons, e_c1, e_c1e, e_c2, e_c2e, vs_0, vs_1, co_s, e_tup, e_tu1, e_tu1e, e_tu2, e_lst, e_ls1, e_ls1e, e_ls2, av_0, av_v0, av_v, avb_f, av_s, avs_t, e_call, e_ca1, e_ca1e, e_ca2, e_R, e_Re, e_callC, e_cc1, e_cc1e, e_cc2, e_RC, e_callM, e_cm1, e_cm1e, e_cm2, nos_0, nos_v, e_R1, e_R1k, e_R1e, e_make, e_mk1, e_mk1e, e_mk2, e_Mk, e_Mke, e_meth, e_me1, e_me1e, e_me2, e_me2e, fin_nx, fin_rt, fin_ex, outs_0, outs_1, e_seq, q_nx, q_rt, q_bk, q_ct, q_ex, e_next, e_break, e_cont, e_retN, e_drop, e_dr1, e_dr1e, e_ret, e_re1, e_re1e, e_retC, e_rc1, e_rc1k, e_ifs, e_is1, e_is1e, e_asg, e_as1, e_as1e, e_as2, g_name, g_nil, g_cons, g_c1, g_tupT, g_tupL, e_asgC, e_ac1, e_ac1k, e_ac1e, e_par, e_pa1, e_pa1e, e_for, e_fo1, e_fo1e, e_forS, e_fs1, e_fs1t, fl_1, fl_nx, fl_ct, fl_bk, fl_rt, fl_ex, e_seqI, e_si1, e_si1t, e_si1e, e_enum, e_en1, e_en1t, e_zip, e_zi1, e_zi2, seq_l, seq_t, e_range1, e_range2, e_frz, e_fz, e_fzk, e_lm, e_lm1, e_lm2, e_lm2e, e_lm3, e_lm4, m_rev, m_clr, e_setI, e_siA, e_siAe, e_si0, e_si2, e_si3, e_si4, fzv_v, e_setF, e_sf1, e_sf1e, e_sf2, put_0, put_c, lk_c, u_fld, u_isN, u_isN_i, u_isN_s, u_isN_t, u_isN_l, u_isN_o, u_neg, e_B, e_B1, e_B1e, e_B2, ds_0, ds_v, ds_s, cs_s, b_lenl, b_lent, b_lenk, b_abs1, b_max2, b_min2, b_int1, b_intb, b_tupl, b_tupt, b_lisl, b_list', e_lr, o_addi, o_subi, o_muli, o_mulil, o_modi, o_lti, o_lei, o_gti, o_gei, o_eqi, o_eqn, o_eql0, ix_l, ix_t, ix_k, at_0, at_1, at_2, at_3, e_sl, e_sl1, e_sl2, e_sl3, e_sl4, sl_l, sl_t, e_nop, e_pt, e_pt1, e_lc, e_lcS, e_lcB, w_0, w_1, r_0, r_1, e_dnew, e_raise, e_raA, e_ra2, e_try, e_ty_nx, e_ty_rt, e_ty_bk, e_ty_ct, e_ty_ex, e_ty2, e_ty2f, e_ty3n, e_ty3r, e_ty3b, e_ty3c, e_xf, e_xf1, e_isX, e_ix1, e_ix2, ef_0, ef_1, e_isi, e_pl, e_pl1, e_plc, e_pl2, e_pl3, set_0, set_1, set_2, o_divs, el_0, el_c, nc_l, nc_t, nc_i, nc_s, nc_b, nc_n, nc_k, nc_o, nos_d, br3_b, kd_i, kd_s, e_disp, e_di1, e_di1e, e_ps0, e_ps1, e_pp1, e_pp1e, e_pp2i, e_pp2s, e_pp2e, e_pp3, e_pp3e, md_0, md_1, in_ki, in_ks, sm_t, sm_f, em_n, em_c, em_a, in_li, in_ti, List.set_cons_zero, List.set_cons_succ, List.length_cons, List.length_nil, Nat.reduceAdd, Nat.reduceLeDiff, Nat.reduceEqDiff, Nat.reduceLT, Int.reduceLT, Int.reduceLE, Int.reduceNeg, Int.reducePow, Int.reduceSub, Int.reduceAdd, Int.reduceToNat, if_true, if_false, ite_true, ite_false, reduceIte, and_self, and_true, true_and, false_and, and_false, Option.getD_some, Option.getD_none, Nat.zero_add, Nat.reduceSub, Nat.reducePow, Nat.reduceMul, reduceCtorEq, beq_self_eq_true, id_eq, List.map_nil, List.map_cons, Bool.not_true, Bool.not_false, Option.map_some, Option.bind_some, List.reverse_cons, List.reverse_nil, List.nil_append, List.cons_append, not_true_eq_false, not_false_eq_true, decide_true, decide_false, Bool.true_or, Bool.false_or, Bool.or_false, Bool.or_true, Int.toNat_natCast, decide_eq_true_eq, eq_self, Bool.true_and, Bool.and_true, Bool.false_and, Bool.and_false, fl_c, fl_0, *])
theorem at_prev (fs : List Fc) (i : Nat) (h : i < fs.length) : ∃ g : Fc, atI (fs.map Fc.d) ((i : Int) - 1) = some g.d := by
  cases i with
  | zero =>
    refine ⟨fs[fs.length - 1], ?_⟩
    unfold atI ixN
    rw [if_neg (by omega), if_pos (by rw [List.length_map]; omega)]
    show (fs.map Fc.d)[_]? = _
    rw [List.getElem?_map, List.length_map]
    rw [show ((0 : Nat) : Int) - 1 + (fs.length : Int) = ((fs.length - 1 : Nat) : Int) by omega, Int.toNat_natCast, List.getElem?_eq_getElem (by omega)]
    rfl
  | succ i =>
    refine ⟨fs[i], at_of (j := i) (by omega) ?_⟩
    rw [List.getElem?_map, List.getElem?_eq_getElem (by omega)]; rfl
theorem add_fc (a b : List Fc) (h : a.length + b.length ≤ 1000) : addX (.lst (a.map Fc.d)) (.lst (b.map Fc.d)) = some (.lst ((a ++ b).map Fc.d)) := by
  rw [o_addl (by rw [List.length_map, List.length_map]; omega), List.map_append]
theorem spoilt_ok2 (s : Src) (many : Int) (fs : List Fc) (hl : fs.length ≤ 100) :
    ∃ (many' : Int) (fs' : List Fc) (s' : Src), x__law_spoilt [s.d, .int many, .lst (fs.map Fc.d)] = some (.ok (.tup [.int many', .lst (fs'.map Fc.d)]) [s'.d]) ∧ fs'.length ≤ fs.length + 1 := by
  obtain ⟨w, s1, e1, w0, w1⟩ := draw_ok s 9 (by omega) (by omega)
  simp only [u__law_spoilt, b__law_spoilt]
  by_cases c0 : w = 0
  · obtain ⟨d, s2, e2, hd⟩ := pick_ok s1 [.int (many + 1), .int (many - 1), .int 0, .int 1, .int (-2), .int 25, .int 1000000000] (by simp) (by simp)
    obtain ⟨m, rfl⟩ : ∃ m : Int, d = .int m := by
      simp only [List.mem_cons, List.not_mem_nil, or_false] at hd
      rcases hd with rfl | rfl | rfl | rfl | rfl | rfl | rfl <;> exact ⟨_, rfl⟩
    refine ⟨m, fs, s2, ?_, by omega⟩
    clear hd
    simp only [Src.d] at e1 e2 ⊢
    walk_at "xa"
  · rcases List.eq_nil_or_concat fs with rfl | ⟨fs0, f0, hfs⟩
    · refine ⟨many, [⟨0, 1, 1⟩], s1, ?_, by simp⟩
      simp only [Src.d] at e1 ⊢
      walk_at "xa"
      rfl
    · have hpos : 0 < fs.length := by rw [hfs]; simp
      have hem : (fs.map Fc.d).isEmpty = false := by rw [hfs]; simp
      clear hfs
      have hle : (((fs.map Fc.d).length : Nat) : Int) = fs.length := by rw [List.length_map]
      obtain ⟨z, s2, e2, z0, z1⟩ := draw_ok s1 fs.length (by omega) (by omega)
      obtain ⟨i, rfl⟩ := toNat_of z0
      have hi : i < fs.length := by omega
      have ai : atI (fs.map Fc.d) (i : Int) = some fs[i].d := at_n (by rw [List.getElem?_map, List.getElem?_eq_getElem hi]; rfl)
      have t1 : cutD (fs.map Fc.d) none (some (i : Int)) = (fs.take i).map Fc.d := by rw [cut_take _ _ (by rw [List.length_map]; omega), List.map_take]
      have t2 : cutD (fs.map Fc.d) none (some ((i : Int) + 1)) = (fs.take (i + 1)).map Fc.d := by
        rw [show (i : Int) + 1 = ((i + 1 : Nat) : Int) by omega, cut_take _ _ (by rw [List.length_map]; omega), List.map_take]
      have t3 : cutD (fs.map Fc.d) (some (i : Int)) none = (fs.drop i).map Fc.d := by rw [cut_drop _ _ (by rw [List.length_map]; omega), List.map_drop]
      have t4 : cutD (fs.map Fc.d) (some ((i : Int) + 1)) none = (fs.drop (i + 1)).map Fc.d := by
        rw [show (i : Int) + 1 = ((i + 1 : Nat) : Int) by omega, cut_drop _ _ (by rw [List.length_map]; omega), List.map_drop]
      clear z0 z1
      have ltk : ∀ j, (fs.take j).length ≤ j := fun j => by rw [List.length_take]; omega
      by_cases c1 : w = 1
      · refine ⟨many, fs.take i ++ fs.drop (i + 1), s2, ?_, by rw [List.length_append, List.length_take, List.length_drop]; omega⟩
        have a1 := add_fc (fs.take i) (fs.drop (i + 1)) (by rw [List.length_take, List.length_drop]; omega)
        generalize List.map Fc.d (List.take i fs ++ List.drop (i + 1) fs) = res at *
        generalize List.map Fc.d (List.take i fs) = l1 at *
        generalize List.map Fc.d (List.drop (i + 1) fs) = l2 at *
        simp only [Src.d, Fc.d] at e1 e2 ai ⊢
        clear hl hpos t2 t3
        generalize List.map (fun f : Fc => D.tup [D.int f.a, D.int f.b, D.int f.n]) fs = l at *
        walk_at "xa"
      · by_cases c2 : w = 2
        · refine ⟨many, fs.take (i + 1) ++ fs.drop i, s2, ?_, by rw [List.length_append, List.length_take, List.length_drop]; omega⟩
          have a1 := add_fc (fs.take (i + 1)) (fs.drop i) (by rw [List.length_take, List.length_drop]; omega)
          generalize List.map Fc.d (List.take (i + 1) fs ++ List.drop i fs) = res at *
          generalize List.map Fc.d (List.take (i + 1) fs) = l1 at *
          generalize List.map Fc.d (List.drop i fs) = l2 at *
          simp only [Src.d, Fc.d] at e1 e2 ai ⊢
          clear hl hpos t1 t4
          walk_at "xa"
        · have a0 : ∀ g : Fc, addX (.lst ((fs.take i).map Fc.d)) (.lst [g.d]) = some (.lst ((fs.take i ++ [g]).map Fc.d)) := fun g => add_fc (fs.take i) [g] (by have := ltk i; simp only [List.length_cons, List.length_nil]; omega)
          have a2 : ∀ g : Fc, addX (.lst ((fs.take i ++ [g]).map Fc.d)) (.lst ((fs.drop (i + 1)).map Fc.d)) = some (.lst ((fs.take i ++ [g] ++ fs.drop (i + 1)).map Fc.d)) := fun g => add_fc _ _ (by have := ltk i; rw [List.length_append, List.length_drop]; simp only [List.length_cons, List.length_nil]; omega)
          have ll : ∀ g : Fc, (fs.take i ++ [g] ++ fs.drop (i + 1)).length ≤ fs.length + 1 := fun g => by rw [List.length_append, List.length_append, List.length_take, List.length_drop]; simp only [List.length_cons, List.length_nil]; omega
          by_cases c3 : w = 3
          · obtain ⟨g, ag⟩ := at_prev fs i hi
            refine ⟨many, fs.take i ++ [g] ++ fs.drop (i + 1), s2, ?_, ll g⟩
            have a0 := a0 g
            have a2 := a2 g
            generalize g.d = gd at *
            generalize List.map Fc.d (List.take i fs ++ [g] ++ List.drop (i + 1) fs) = res at *
            generalize List.map Fc.d (List.take i fs ++ [g]) = l3 at *
            generalize List.map Fc.d (List.take i fs) = l1 at *
            generalize List.map Fc.d (List.drop (i + 1) fs) = l2 at *
            simp only [Src.d, Fc.d] at e1 e2 ai ⊢
            clear hl hpos t2 t3 ltk ll
            generalize List.map (fun f : Fc => D.tup [D.int f.a, D.int f.b, D.int f.n]) fs = l at *
            walk_at "xa"
          · obtain ⟨d, s3, e3, hd⟩ := pick_ok s2 [.int many, .int (-1), .int (many + 5), .int (0 - many)] (by simp) (by simp)
            obtain ⟨o, rfl⟩ : ∃ o : Int, d = .int o := by
              simp only [List.mem_cons, List.not_mem_nil, or_false] at hd
              rcases hd with rfl | rfl | rfl | rfl <;> exact ⟨_, rfl⟩
            clear hd
            obtain ⟨p, s4, e4, _, _⟩ := draw_ok s3 3 (by omega) (by omega)
            obtain ⟨q, s5, e5, _, _⟩ := draw_ok s4 5 (by omega) (by omega)
            generalize hF : fs[i] = F at *
            obtain ⟨a, b, n⟩ := F
            obtain ⟨gd, s6, e6, hd⟩ := pick_ok s5 (([⟨o, b, n⟩, ⟨a, o, n⟩, ⟨o, o, n⟩, ⟨a, a, n⟩, ⟨a, b, 0⟩, ⟨a, b, 0 - n⟩, ⟨a, b, 1000000001⟩, ⟨a, b, 1000000000⟩, ⟨b, a, n⟩, ⟨p, q, n⟩] : List Fc).map Fc.d) (by simp) (by simp)
            obtain ⟨g, hg, rfl⟩ := List.mem_map.mp hd
            clear hd hg
            refine ⟨many, fs.take i ++ [g] ++ fs.drop (i + 1), s6, ?_, ll g⟩
            have a0 := a0 g
            have a2 := a2 g
            generalize g.d = gd at *
            generalize List.map Fc.d (List.take i fs ++ [g] ++ List.drop (i + 1) fs) = res at *
            generalize List.map Fc.d (List.take i fs ++ [g]) = l3 at *
            generalize List.map Fc.d (List.take i fs) = l1 at *
            generalize List.map Fc.d (List.drop (i + 1) fs) = l2 at *
            simp only [Src.d, Fc.d, List.map_cons, List.map_nil] at e1 e2 e3 e4 e5 e6 ai ⊢
            clear hl hpos t2 t3 ltk ll hF
            generalize List.map (fun f : Fc => D.tup [D.int f.a, D.int f.b, D.int f.n]) fs = l at *
            walk_at "xa"
            rw [o_catl (by simp)]
            walk_at "xa"
            rw [m_app (by simp)]
            walk_at "xa"
theorem roads_eq : ∀ l : List Fc, eqL (eqD S2 5) (l.map Fc.r) (l.map Fc.r) = some true
  | [] => rfl
  | f :: r => by
    rw [List.map_cons]
    unfold eqL
    have e1 : ∀ n z, eqD S0 (n + 1) (.int z) (.int z) = some true := fun n z => by show some (z == z) = _; simp
    have : eqD S2 5 f.r f.r = some true := by
      show eqL (eqD S0 5) [.int f.a, .int f.b, .int f.n] [.int f.a, .int f.b, .int f.n] = _
      simp only [eqL, e1]
    rw [this]; exact roads_eq r
theorem roadsX (l : List Fc) : eqX S2 6 not (.lst (l.map Fc.r)) (.lst (l.map Fc.r)) = some (.bl false) := by
  show (eqL (eqD S2 5) _ _).map _ = _
  rw [roads_eq]; rfl
theorem twoX2 (s : Str) (z : Int) : eqX S2 6 not (.tup [.str s, .int z]) (.tup [.str s, .int z]) = some (.bl false) := by
  show (eqL (eqD S2 5) _ _).map _ = _
  have e1 : ∀ s : Str, eqD S2 5 (.str s) (.str s) = some true := fun s => by show some (s == s) = _; simp
  have e2 : ∀ n : Int, eqD S2 5 (.int n) (.int n) = some true := fun s => by show some (s == s) = _; simp
  simp only [eqL, e1, e2]
  rfl
theorem dueX2 (v : Vd2) : eqX S2 6 not (v.due.getD .non) (v.due.getD .non) = some (.bl false) := by
  cases v with
  | fine => rfl
  | bad w z => exact twoX2 _ z
  | cross z => exact twoX2 _ z
  | ring z => exact twoX2 _ z
end HT

/-! LZ (k02): the law's run. -/
namespace HT
open PySem PySem.Spec L2 DL
local macro_rules | `(tactic| walk_at "x") => `(tactic| simp -implicitDefEqProofs +decide only [gt_0, gt_s, e_var, e_v1, e_slot, e_s1, e_c, drf_v, drf_s, e_r1, e_op, e_op1, e_op1e, e_op2, e_op2e, e_op3, e_oe, e_oe1, e_oe1e, e_oe2, e_oe2e, e_oe3, e_oe3l, e_oe3r, e_oe3b, e_ol, e_ol1, e_ol1e, e_ol2, e_ol2e, e_ol3, e_ol3l, e_u, e_u1, e_u1e, e_u2, e_tst, e_t1, e_t1e, e_t2, br3_t, br3_f, br3_d, br3_n, br3_a, e_and, e_and1, e_and1e, e_or, e_or1, e_or1e, e_not, e_not1, e_not1e, e_yes, e_av, e_av1, e_av1e, e_av2, e_ov, e_ov1, e_ov1e, e_ov2, e_nv, e_nv1, e_nv1e, e_nv2, e_if, e_if1, e_if1e, e_ch, e_ch1, e_ch3, e_ch4, e_ch2, e_nil, e_cons, e_c1, e_c1e, e_c2, e_c2e, vs_0, vs_1, co_s, e_tup, e_tu1, e_tu1e, e_tu2, e_lst, e_ls1, e_ls1e, e_ls2, av_0, av_v0, av_v, avb_f, av_s, avs_t, e_call, e_ca1, e_ca1e, e_ca2, e_R, e_Re, e_callC, e_cc1, e_cc1e, e_cc2, e_RC, e_callM, e_cm1, e_cm1e, e_cm2, nos_0, nos_v, e_R1, e_R1k, e_R1e, e_make, e_mk1, e_mk1e, e_mk2, e_Mk, e_Mke, e_meth, e_me1, e_me1e, e_me2, e_me2e, fin_nx, fin_rt, fin_ex, outs_0, outs_1, e_seq, q_nx, q_rt, q_bk, q_ct, q_ex, e_next, e_break, e_cont, e_retN, e_drop, e_dr1, e_dr1e, e_ret, e_re1, e_re1e, e_retC, e_rc1, e_rc1k, e_ifs, e_is1, e_is1e, e_asg, e_as1, e_as1e, e_as2, g_name, g_nil, g_cons, g_c1, g_tupT, g_tupL, e_asgC, e_ac1, e_ac1k, e_ac1e, e_par, e_pa1, e_pa1e, e_for, e_fo1, e_fo1e, e_forS, e_fs1, e_fs1t, fl_1, fl_nx, fl_ct, fl_bk, fl_rt, fl_ex, e_seqI, e_si1, e_si1t, e_si1e, e_enum, e_en1, e_en1t, e_zip, e_zi1, e_zi2, seq_l, seq_t, e_range1, e_range2, e_frz, e_fz, e_fzk, e_lm, e_lm1, e_lm2, e_lm2e, e_lm3, e_lm4, m_rev, m_clr, e_setI, e_siA, e_siAe, e_si0, e_si2, e_si3, e_si4, fzv_v, e_setF, e_sf1, e_sf1e, e_sf2, put_0, put_c, lk_c, u_fld, u_isN, u_isN_i, u_isN_s, u_isN_t, u_isN_l, u_isN_o, u_neg, e_B, e_B1, e_B1e, e_B2, ds_0, ds_v, ds_s, cs_s, b_lenl, b_lent, b_lenk, b_abs1, b_max2, b_min2, b_int1, b_intb, b_tupl, b_tupt, b_lisl, b_list', e_lr, o_addi, o_subi, o_muli, o_mulil, o_modi, o_lti, o_lei, o_gti, o_gei, o_eqi, o_eqn, o_eql0, ix_l, ix_t, ix_k, at_0, at_1, at_2, at_3, e_sl, e_sl1, e_sl2, e_sl3, e_sl4, sl_l, sl_t, e_nop, e_pt, e_pt1, e_lc, e_lcS, e_lcB, w_0, w_1, r_0, r_1, e_dnew, e_raise, e_raA, e_ra2, e_try, e_ty_nx, e_ty_rt, e_ty_bk, e_ty_ct, e_ty_ex, e_ty2, e_ty2f, e_ty3n, e_ty3r, e_ty3b, e_ty3c, e_xf, e_xf1, e_isX, e_ix1, e_ix2, ef_0, ef_1, e_isi, e_pl, e_pl1, e_plc, e_pl2, e_pl3, set_0, set_1, set_2, o_divs, el_0, el_c, nc_l, nc_t, nc_i, nc_s, nc_b, nc_n, nc_k, nc_o, nos_d, br3_b, kd_i, kd_s, e_disp, e_di1, e_di1e, e_ps0, e_ps1, e_pp1, e_pp1e, e_pp2i, e_pp2s, e_pp2e, e_pp3, e_pp3e, md_0, md_1, in_ki, in_ks, sm_t, sm_f, em_n, em_c, em_a, in_li, in_ti, List.set_cons_zero, List.set_cons_succ, List.length_cons, List.length_nil, Nat.reduceAdd, Nat.reduceLeDiff, Nat.reduceEqDiff, Nat.reduceLT, Int.reduceLT, Int.reduceLE, Int.reduceNeg, Int.reducePow, Int.reduceSub, Int.reduceAdd, Int.reduceToNat, if_true, if_false, ite_true, ite_false, reduceIte, and_self, and_true, true_and, false_and, and_false, Option.getD_some, Option.getD_none, Nat.zero_add, Nat.reduceSub, Nat.reducePow, Nat.reduceMul, reduceCtorEq, beq_self_eq_true, id_eq, List.map_nil, List.map_cons, Bool.not_true, Bool.not_false, Option.map_some, Option.bind_some, List.reverse_cons, List.reverse_nil, List.nil_append, List.cons_append, not_true_eq_false, not_false_eq_true, decide_true, decide_false, Bool.true_or, Bool.false_or, Bool.or_false, Bool.or_true, Int.toNat_natCast, decide_eq_true_eq, eq_self, Bool.true_and, Bool.and_true, Bool.false_and, Bool.and_false])
local macro_rules | `(tactic| walk_at "xa") => `(tactic| simp -implicitDefEqProofs +decide only [gt_0, gt_s, e_var, e_v1, e_slot, e_s1, e_c, drf_v, drf_s, e_r1, e_op, e_op1, e_op1e, e_op2, e_op2e, e_op3, e_oe, e_oe1, e_oe1e, e_oe2, e_oe2e, e_oe3, e_oe3l, e_oe3r, e_oe3b, e_ol, e_ol1, e_ol1e, e_ol2, e_ol2e, e_ol3, e_ol3l, e_u, e_u1, e_u1e, e_u2, e_tst, e_t1, e_t1e, e_t2, br3_t, br3_f, br3_d, br3_n, br3_a, e_and, e_and1, e_and1e, e_or, e_or1, e_or1e, e_not, e_not1, e_not1e, e_yes, e_av, e_av1, e_av1e, e_av2, e_ov, e_ov1, e_ov1e, e_ov2, e_nv, e_nv1, e_nv1e, e_nv2, e_if, e_if1, e_if1e, e_ch, e_ch1, e_ch3, e_ch4, e_ch2, e_nil, e_cons, e_c1, e_c1e, e_c2, e_c2e, vs_0, vs_1, co_s, e_tup, e_tu1, e_tu1e, e_tu2, e_lst, e_ls1, e_ls1e, e_ls2, av_0, av_v0, av_v, avb_f, av_s, avs_t, e_call, e_ca1, e_ca1e, e_ca2, e_R, e_Re, e_callC, e_cc1, e_cc1e, e_cc2, e_RC, e_callM, e_cm1, e_cm1e, e_cm2, nos_0, nos_v, e_R1, e_R1k, e_R1e, e_make, e_mk1, e_mk1e, e_mk2, e_Mk, e_Mke, e_meth, e_me1, e_me1e, e_me2, e_me2e, fin_nx, fin_rt, fin_ex, outs_0, outs_1, e_seq, q_nx, q_rt, q_bk, q_ct, q_ex, e_next, e_break, e_cont, e_retN, e_drop, e_dr1, e_dr1e, e_ret, e_re1, e_re1e, e_retC, e_rc1, e_rc1k, e_ifs, e_is1, e_is1e, e_asg, e_as1, e_as1e, e_as2, g_name, g_nil, g_cons, g_c1, g_tupT, g_tupL, e_asgC, e_ac1, e_ac1k, e_ac1e, e_par, e_pa1, e_pa1e, e_for, e_fo1, e_fo1e, e_forS, e_fs1, e_fs1t, fl_1, fl_nx, fl_ct, fl_bk, fl_rt, fl_ex, e_seqI, e_si1, e_si1t, e_si1e, e_enum, e_en1, e_en1t, e_zip, e_zi1, e_zi2, seq_l, seq_t, e_range1, e_range2, e_frz, e_fz, e_fzk, e_lm, e_lm1, e_lm2, e_lm2e, e_lm3, e_lm4, m_rev, m_clr, e_setI, e_siA, e_siAe, e_si0, e_si2, e_si3, e_si4, fzv_v, e_setF, e_sf1, e_sf1e, e_sf2, put_0, put_c, lk_c, u_fld, u_isN, u_isN_i, u_isN_s, u_isN_t, u_isN_l, u_isN_o, u_neg, e_B, e_B1, e_B1e, e_B2, ds_0, ds_v, ds_s, cs_s, b_lenl, b_lent, b_lenk, b_abs1, b_max2, b_min2, b_int1, b_intb, b_tupl, b_tupt, b_lisl, b_list', e_lr, o_addi, o_subi, o_muli, o_mulil, o_modi, o_lti, o_lei, o_gti, o_gei, o_eqi, o_eqn, o_eql0, ix_l, ix_t, ix_k, at_0, at_1, at_2, at_3, e_sl, e_sl1, e_sl2, e_sl3, e_sl4, sl_l, sl_t, e_nop, e_pt, e_pt1, e_lc, e_lcS, e_lcB, w_0, w_1, r_0, r_1, e_dnew, e_raise, e_raA, e_ra2, e_try, e_ty_nx, e_ty_rt, e_ty_bk, e_ty_ct, e_ty_ex, e_ty2, e_ty2f, e_ty3n, e_ty3r, e_ty3b, e_ty3c, e_xf, e_xf1, e_isX, e_ix1, e_ix2, ef_0, ef_1, e_isi, e_pl, e_pl1, e_plc, e_pl2, e_pl3, set_0, set_1, set_2, o_divs, el_0, el_c, nc_l, nc_t, nc_i, nc_s, nc_b, nc_n, nc_k, nc_o, nos_d, br3_b, kd_i, kd_s, e_disp, e_di1, e_di1e, e_ps0, e_ps1, e_pp1, e_pp1e, e_pp2i, e_pp2s, e_pp2e, e_pp3, e_pp3e, md_0, md_1, in_ki, in_ks, sm_t, sm_f, em_n, em_c, em_a, in_li, in_ti, List.set_cons_zero, List.set_cons_succ, List.length_cons, List.length_nil, Nat.reduceAdd, Nat.reduceLeDiff, Nat.reduceEqDiff, Nat.reduceLT, Int.reduceLT, Int.reduceLE, Int.reduceNeg, Int.reducePow, Int.reduceSub, Int.reduceAdd, Int.reduceToNat, if_true, if_false, ite_true, ite_false, reduceIte, and_self, and_true, true_and, false_and, and_false, Option.getD_some, Option.getD_none, Nat.zero_add, Nat.reduceSub, Nat.reducePow, Nat.reduceMul, reduceCtorEq, beq_self_eq_true, id_eq, List.map_nil, List.map_cons, Bool.not_true, Bool.not_false, Option.map_some, Option.bind_some, List.reverse_cons, List.reverse_nil, List.nil_append, List.cons_append, not_true_eq_false, not_false_eq_true, decide_true, decide_false, Bool.true_or, Bool.false_or, Bool.or_false, Bool.or_true, Int.toNat_natCast, decide_eq_true_eq, eq_self, Bool.true_and, Bool.and_true, Bool.false_and, Bool.and_false, *])
local macro_rules | `(tactic| walk_at "xl") => `(tactic| simp -implicitDefEqProofs +decide only [gt_0, gt_s, e_var, e_v1, e_slot, e_s1, e_c, drf_v, drf_s, e_r1, e_op, e_op1, e_op1e, e_op2, e_op2e, e_op3, e_oe, e_oe1, e_oe1e, e_oe2, e_oe2e, e_oe3, e_oe3l, e_oe3r, e_oe3b, e_ol, e_ol1, e_ol1e, e_ol2, e_ol2e, e_ol3, e_ol3l, e_u, e_u1, e_u1e, e_u2, e_tst, e_t1, e_t1e, e_t2, br3_t, br3_f, br3_d, br3_n, br3_a, e_and, e_and1, e_and1e, e_or, e_or1, e_or1e, e_not, e_not1, e_not1e, e_yes, e_av, e_av1, e_av1e, e_av2, e_ov, e_ov1, e_ov1e, e_ov2, e_nv, e_nv1, e_nv1e, e_nv2, e_if, e_if1, e_if1e, e_ch, e_ch1, e_ch3, e_ch4, e_ch2, e_nil, e_cons, e_c1, e_c1e, e_c2, e_c2e, vs_0, vs_1, co_s, e_tup, e_tu1, e_tu1e, e_tu2, e_lst, e_ls1, e_ls1e, e_ls2, av_0, av_v0, av_v, avb_f, av_s, avs_t, e_call, e_ca1, e_ca1e, e_ca2, e_R, e_Re, e_callC, e_cc1, e_cc1e, e_cc2, e_RC, e_callM, e_cm1, e_cm1e, e_cm2, nos_0, nos_v, e_R1, e_R1k, e_R1e, e_make, e_mk1, e_mk1e, e_mk2, e_Mk, e_Mke, e_meth, e_me1, e_me1e, e_me2, e_me2e, fin_nx, fin_rt, fin_ex, outs_0, outs_1, e_seq, q_nx, q_rt, q_bk, q_ct, q_ex, e_next, e_break, e_cont, e_retN, e_drop, e_dr1, e_dr1e, e_ret, e_re1, e_re1e, e_retC, e_rc1, e_rc1k, e_ifs, e_is1, e_is1e, e_asg, e_as1, e_as1e, e_as2, g_name, g_nil, g_cons, g_c1, g_tupT, g_tupL, e_asgC, e_ac1, e_ac1k, e_ac1e, e_par, e_pa1, e_pa1e, e_for, e_fo1, e_fo1e, e_forS, e_fs1, e_fs1t, fl_1, fl_nx, fl_ct, fl_bk, fl_rt, fl_ex, e_seqI, e_si1, e_si1t, e_si1e, e_enum, e_en1, e_en1t, e_zip, e_zi1, e_zi2, seq_l, seq_t, e_range1, e_range2, e_frz, e_fz, e_fzk, e_lm, e_lm1, e_lm2, e_lm2e, e_lm3, e_lm4, m_rev, m_clr, e_setI, e_siA, e_siAe, e_si0, e_si2, e_si3, e_si4, fzv_v, e_setF, e_sf1, e_sf1e, e_sf2, put_0, put_c, lk_c, u_fld, u_isN, u_isN_i, u_isN_s, u_isN_t, u_isN_l, u_isN_o, u_neg, e_B, e_B1, e_B1e, e_B2, ds_0, ds_v, ds_s, cs_s, b_lenl, b_lent, b_lenk, b_abs1, b_max2, b_min2, b_int1, b_intb, b_tupl, b_tupt, b_lisl, b_list', e_lr, o_addi, o_subi, o_muli, o_mulil, o_modi, o_lti, o_lei, o_gti, o_gei, o_eqi, o_eqn, o_eql0, ix_l, ix_t, ix_k, at_0, at_1, at_2, at_3, e_sl, e_sl1, e_sl2, e_sl3, e_sl4, sl_l, sl_t, e_nop, e_pt, e_pt1, e_lc, e_lcS, e_lcB, w_0, w_1, r_0, r_1, e_dnew, e_raise, e_raA, e_ra2, e_try, e_ty_nx, e_ty_rt, e_ty_bk, e_ty_ct, e_ty_ex, e_ty2, e_ty2f, e_ty3n, e_ty3r, e_ty3b, e_ty3c, e_xf, e_xf1, e_isX, e_ix1, e_ix2, ef_0, ef_1, e_isi, e_pl, e_pl1, e_plc, e_pl2, e_pl3, set_0, set_1, set_2, o_divs, el_0, el_c, nc_l, nc_t, nc_i, nc_s, nc_b, nc_n, nc_k, nc_o, nos_d, br3_b, kd_i, kd_s, e_disp, e_di1, e_di1e, e_ps0, e_ps1, e_pp1, e_pp1e, e_pp2i, e_pp2s, e_pp2e, e_pp3, e_pp3e, md_0, md_1, in_ki, in_ks, sm_t, sm_f, em_n, em_c, em_a, in_li, in_ti, List.set_cons_zero, List.set_cons_succ, List.length_cons, List.length_nil, Nat.reduceAdd, Nat.reduceLeDiff, Nat.reduceEqDiff, Nat.reduceLT, Int.reduceLT, Int.reduceLE, Int.reduceNeg, Int.reducePow, Int.reduceSub, Int.reduceAdd, Int.reduceToNat, if_true, if_false, ite_true, ite_false, reduceIte, and_self, and_true, true_and, false_and, and_false, Option.getD_some, Option.getD_none, Nat.zero_add, Nat.reduceSub, Nat.reducePow, Nat.reduceMul, reduceCtorEq, beq_self_eq_true, id_eq, List.map_nil, List.map_cons, Bool.not_true, Bool.not_false, Option.map_some, Option.bind_some, List.reverse_cons, List.reverse_nil, List.nil_append, List.cons_append, not_true_eq_false, not_false_eq_true, decide_true, decide_false, Bool.true_or, Bool.false_or, Bool.or_false, Bool.or_true, Int.toNat_natCast, decide_eq_true_eq, eq_self, Bool.true_and, Bool.and_true, Bool.false_and, Bool.and_false, fl_c, fl_0, *])
theorem turn2 (v0 v1 : D) (s : Src) (o3 o4 o5 o6 o7 o8 o9 o10 o11 : Option D) :
    ∃ (s' : Src) (p4 p5 p6 p7 p8 p9 p10 p11 : Option D), l_law_2 [some v0, some v1, some s.d, o3, o4, o5, o6, o7, o8, o9, o10, o11] = some (.nx [some v0, some v1, some s'.d, o3, p4, p5, p6, p7, p8, p9, p10, p11]) := by
  obtain ⟨many, fs, s1, e1, ht, hm⟩ := tree_drawn s 9 9 (by omega) (by omega) (by omega) (by omega)
  have hl : fs.length ≤ 23 := by have := ht.len; have := ht.hi; omega
  clear ht hm
  obtain ⟨k, s2, e2, k0, k1⟩ := draw_ok s1 4 (by omega) (by omega)
  have fo := for_nx (g := g_law_3) (b := l_law_3) (fun r e => ∃ (s3 : Src) (m : Int) (gs : List Fc) (p4 : Option D), e = [some v0, some v1, some s3.d, o3, p4, o5, o6, some (.int m), some (.lst (gs.map Fc.d)), o9, o10, o11] ∧ gs.length + r.length ≤ 30) ?_
    (rangeD 0 k.toNat) [some v0, some v1, some s2.d, o3, o4, o5, o6, some (.int many), some (.lst (fs.map Fc.d)), o9, o10, o11] ⟨s2, many, fs, o4, rfl, by simp [rangeD]; omega⟩
  · obtain ⟨e', h1, s3, m, gs, p4, rfl, hgl⟩ := fo
    have hgl : gs.length ≤ 30 := by simpa using hgl
    have lc : xLcL g_law_4 xYes c_law_4 [9, 10, 11] (gs.map Fc.d) [] [some v0, some v1, some s3.d, o3, p4, o5, o6, some (.int m), some (.lst (gs.map Fc.d)), none, none, none] = some (.ok (gs.map Fc.r) [some v0, some v1, some s3.d, o3, p4, o5, o6, some (.int m), some (.lst (gs.map Fc.d)), none, none, none]) := by
      rw [lc_m (fun d => match d with | .tup [a, b, n] => .ins C_Road [(F_a, a), (F_b, b), (F_length, n)] | d => d) fun d hd => ?_]
      · congr 2
        rw [List.map_map]; rfl
      · obtain ⟨f, hf, rfl⟩ := List.mem_map.mp hd
        have er := road_ok (.int f.a) (.int f.b) (.int f.n)
        refine ⟨_, rfl, [some v0, some v1, some s3.d, o3, p4, o5, o6, some (.int m), some (.lst (gs.map Fc.d)), some (.int f.a), some (.int f.b), some (.int f.n)], ?_, rfl⟩
        clear hd e1 e2 h1
        simp only [c_law_4, Fc.d]
        walk_at "xa"
    have ed := due_ok2 m gs
    have es := said_ok2 m gs (.lst (gs.map Fc.r)) rfl (by omega)
    have et := said_ok2 m gs (.tup (gs.map Fc.r)) rfl (by omega)
    have q1 := dueX2 (vT m gs)
    have q2 := roadsX gs
    have hl3 : (gs.map Fc.d).length ≤ 1000000 := by rw [List.length_map]; omega
    refine ⟨s3, p4, some (.lst (gs.map Fc.r)), some (.lst (gs.map Fc.r)), some (.int m), some (.lst (gs.map Fc.d)), o9, o10, o11, ?_⟩
    simp only [l_law_2]
    generalize (vT m gs).due.getD D.non = du at *
    clear hgl hl
    generalize gs.map Fc.d = gd at *
    generalize gs.map Fc.r = gr at *
    generalize fs.map Fc.d = fd at *
    simp only [Src.d] at e1 e2 h1 lc ⊢
    walk_at "xa"
    rw [e_ra1 ⟨by omega, by omega⟩]
    walk_at "xa"
    rw [e_lc1 hl3]
    walk_at "xa"
  · rintro d r e ⟨s3, m, gs, p4, rfl, hgl⟩
    have hgl' : gs.length + (r.length + 1) ≤ 30 := hgl
    obtain ⟨m', gs', s4, e3, hl'⟩ := spoilt_ok2 s3 m gs (by omega)
    refine ⟨_, rfl, [some v0, some v1, some s4.d, o3, some d, o5, o6, some (.int m'), some (.lst (gs'.map Fc.d)), o9, o10, o11], ?_, s4, m', gs', some d, rfl, by omega⟩
    simp only [l_law_3]
    clear e1 e2 hgl hgl' hl' hl
    simp only [Src.d] at e3 ⊢
    walk_at "xa"
theorem law_ok (ns : List Int) (hl : ns.length ≤ 63) : ∃ o, x_law [.lst (ns.map .int)] = some (.ok (.bl true) o) := by
  obtain ⟨rr, hrr, _⟩ := cut_mapF D.int (ns ++ [0]) none (some 8)
  have fo := for_nx (g := g_law_1) (b := l_law_1) (fun r e => (∃ r' : List Int, r = r'.map D.int) ∧ ∃ (o1 o2 o3 o4 o5 o6 o7 o8 o9 o10 o11 : Option D), e = [some (.lst (ns.map .int)), o1, o2, o3, o4, o5, o6, o7, o8, o9, o10, o11]) ?_
    (rr.map D.int) [some (.lst (ns.map .int)), none, none, none, none, none, none, none, none, none, none, none] ⟨⟨_, rfl⟩, _, _, _, _, _, _, _, _, _, _, _, rfl⟩
  · obtain ⟨e', h1, _, o1, o2, o3, o4, o5, o6, o7, o8, o9, o10, o11, rfl⟩ := fo
    refine ⟨[], ?_⟩
    simp only [u_law, b_law]
    walk_at "xa"
    rw [o_addl (by rw [List.length_map]; simp; omega)]
    rw [List.map_append] at hrr
    simp only [List.map_cons, List.map_nil] at hrr
    walk_at "xa"
  · rintro d r e ⟨⟨r', hr⟩, o1, o2, o3, o4, o5, o6, o7, o8, o9, o10, o11, rfl⟩
    cases r' with
    | nil => cases hr
    | cons n r' =>
      injection hr with hd hr
      subst hd
      refine ⟨_, rfl, ?_⟩
      obtain ⟨s, e1⟩ := source_ok n
      have fo := for_nx (g := g_law_2) (b := l_law_2) (fun r e => ∃ (s : Src) (o3 o4 o5 o6 o7 o8 o9 o10 o11 : Option D), e = [some (.lst (ns.map .int)), some (.int n), some s.d, o3, o4, o5, o6, o7, o8, o9, o10, o11]) ?_
        (rangeD 0 5) [some (.lst (ns.map .int)), some (.int n), some s.d, o3, o4, o5, o6, o7, o8, o9, o10, o11] ⟨s, _, _, _, _, _, _, _, _, _, rfl⟩
      · obtain ⟨e', h1, s', p3, p4, p5, p6, p7, p8, p9, p10, p11, rfl⟩ := fo
        refine ⟨[some (.lst (ns.map .int)), some (.int n), some s'.d, p3, p4, p5, p6, p7, p8, p9, p10, p11], ?_, ⟨r', hr⟩, _, _, _, _, _, _, _, _, _, _, _, rfl⟩
        simp only [l_law_1]
        clear hr
        simp only [Src.d] at e1 h1 ⊢
        walk_at "xa"
        rw [e_ra1 ⟨by omega, by omega⟩]
        walk_at "xa"
      · rintro d r e ⟨s, p3, p4, p5, p6, p7, p8, p9, p10, p11, rfl⟩
        obtain ⟨s', q4, q5, q6, q7, q8, q9, q10, q11, e4⟩ := turn2 (.lst (ns.map .int)) (.int n) s (some d) p4 p5 p6 p7 p8 p9 p10 p11
        exact ⟨_, rfl, _, e4, s', _, _, _, _, _, _, _, _, _, rfl⟩
theorem law_true (ns : List Int) (hl : ns.length ≤ 63) : m_law [.lst (ns.map .int)] (fun _ => none) (fun d _ => d = .bl true) (fun _ _ => False) :=
  law_run s_law (law_ok ns hl)
end HT

/-! The walks of law k02 (printed by gen.py). -/
namespace HT
open PySem PySem.Spec PyProof.Rows L2 DL

def top (i : Nat) : Stmt := PySem.Challenge.pw_onetrain_k02_trees_refused.main.body.getD i (.Pass ⟨0, 0, 0, 0⟩)
section
variable {cls exc : Nat → Addr} {P : Program} {w : World} {K : PySem.W.Frag} {mg : Str → Option Value} {base : Heap} {f : Addr} {fd : FuncData}
theorem sc_Road_facts : FnScope ["self"] ["self"] (defScope (inClass (top 12) 1)) := ⟨rfl, rfl, rfl, by decide +kernel, rfl, by decide +kernel, by decide +kernel⟩
theorem w_Road_facts (F : FunD K "facts" "Road.facts" (defArgs (inClass (top 12) 1)) (defBody (inClass (top 12) 1)) (defScope (inClass (top 12) 1)) [] [] f fd) (ok : TabOk (tb cls exc) K nF) : FnOk P w K mg base (L2.CX P w) 1 f fd ["self"] (spD (tb cls exc) K m_Road_facts) := by
  have hN := sc_Road_facts.nd
  exact fnD_of F sc_Road_facts fun cdv A outer s H E hr =>
 (sb_one (ss_ret (se_tup (sa_cons (se_fld (nF := nF) F_a ok (by decide) (se_var 0)) (sa_cons (se_fld (nF := nF) F_b ok (by decide) (se_var 0)) (sa_cons (se_fld (nF := nF) F_length ok (by decide) (se_var 0)) sa_nil))))))
theorem sc_Road___eq__ : FnScope ["self", "other"] ["self", "other"] (defScope (inClass (top 12) 2)) := ⟨rfl, rfl, rfl, by decide +kernel, rfl, by decide +kernel, by decide +kernel⟩
theorem w_Road___eq__ (F : FunD K "__eq__" "Road.__eq__" (defArgs (inClass (top 12) 2)) (defBody (inClass (top 12) 2)) (defScope (inClass (top 12) 2)) [] [] f fd) (H_Road_facts : Mth (tb cls exc) P w K mg base C_Road "facts" 1 ["self"] m_Road_facts) (ok : TabOk (tb cls exc) K nF) (fr_isinstance : mg "isinstance" = none) (ti : TabI (tb cls exc) K) (c_Road : mg "Road" = some (.ref ((tb cls exc).cls C_Road))) (ko_Road : ∀ t b, qo_Road t = some b → PySem.W.kitOne K (t.val (tb cls exc)) (.ref ((tb cls exc).cls C_Road)) = some b) : FnOk P w K mg base (L2.CX P w) 9 f fd ["self", "other"] (spD (tb cls exc) K m_Road___eq__) := by
  have hN := sc_Road___eq__.nd
  exact fnD_of F sc_Road___eq__ fun cdv A outer s H E hr =>
 (sb_one (ss_ret (se_and (se_isiO (nF := nF) (q := qo_Road) ok ti rfl fr_isinstance (se_var 1) rfl c_Road ko_Road) (se_one (se_cmp (opd_eq (n := 6) (own0 (P := P) (w := w) (K := K) (mg := mg) (base := base) (T := (tb cls exc))) yes (Sb.of (n := 0 + 6) (hr.mono (by decide)))) (se_meth0 (nF := nF) H_Road_facts ok (hr.mono (by decide)) (se_var 0)) (se_meth0 (nF := nF) H_Road_facts ok (hr.mono (by decide)) (se_var 1)) (nomark _))))))
theorem sc_Tree_facts : FnScope ["self"] ["self"] (defScope (inClass (top 13) 1)) := ⟨rfl, rfl, rfl, by decide +kernel, rfl, by decide +kernel, by decide +kernel⟩
theorem w_Tree_facts (F : FunD K "facts" "Tree.facts" (defArgs (inClass (top 13) 1)) (defBody (inClass (top 13) 1)) (defScope (inClass (top 13) 1)) [] [] f fd) (ok : TabOk (tb cls exc) K nF) : FnOk P w K mg base (L2.CX P w) 1 f fd ["self"] (spD (tb cls exc) K m_Tree_facts) := by
  have hN := sc_Tree_facts.nd
  exact fnD_of F sc_Tree_facts fun cdv A outer s H E hr =>
 (sb_one (ss_ret (se_tup (sa_cons (se_fld (nF := nF) F_crossings ok (by decide) (se_var 0)) (sa_cons (se_fld (nF := nF) F_roads ok (by decide) (se_var 0)) sa_nil)))))
theorem sc_Tree___eq__ : FnScope ["self", "other"] ["self", "other"] (defScope (inClass (top 13) 2)) := ⟨rfl, rfl, rfl, by decide +kernel, rfl, by decide +kernel, by decide +kernel⟩
theorem w_Tree___eq__ (F : FunD K "__eq__" "Tree.__eq__" (defArgs (inClass (top 13) 2)) (defBody (inClass (top 13) 2)) (defScope (inClass (top 13) 2)) [] [] f fd) (H_Tree_facts : Mth (tb cls exc) P w K mg base C_Tree "facts" 1 ["self"] m_Tree_facts) (ok : TabOk (tb cls exc) K nF) (own1 : ∀ c q, S1 c = some q → OwnE (tb cls exc) P w K mg base 9 c q) (fr_isinstance : mg "isinstance" = none) (ti : TabI (tb cls exc) K) (c_Tree : mg "Tree" = some (.ref ((tb cls exc).cls C_Tree))) (ko_Tree : ∀ t b, qo_Tree t = some b → PySem.W.kitOne K (t.val (tb cls exc)) (.ref ((tb cls exc).cls C_Tree)) = some b) : FnOk P w K mg base (L2.CX P w) 18 f fd ["self", "other"] (spD (tb cls exc) K m_Tree___eq__) := by
  have hN := sc_Tree___eq__.nd
  exact fnD_of F sc_Tree___eq__ fun cdv A outer s H E hr =>
 (sb_one (ss_ret (se_and (se_isiO (nF := nF) (q := qo_Tree) ok ti rfl fr_isinstance (se_var 1) rfl c_Tree ko_Tree) (se_one (se_cmp (opd_eq (n := 6) own1 yes (Sb.of (n := 9 + 6) (hr.mono (by decide)))) (se_meth0 (nF := nF) H_Tree_facts ok (hr.mono (by decide)) (se_var 0)) (se_meth0 (nF := nF) H_Tree_facts ok (hr.mono (by decide)) (se_var 1)) (nomark _))))))
theorem sc_Road___init__ : FnScope ["self", "a", "b", "length"] ["self", "a", "b", "length"] (defScope (inClass (top 12) 0)) := ⟨rfl, rfl, rfl, by decide +kernel, rfl, by decide +kernel, by decide +kernel⟩
theorem w_Road___init__ (F : FunD K "__init__" "Road.__init__" (defArgs (inClass (top 12) 0)) (defBody (inClass (top 12) 0)) (defScope (inClass (top 12) 0)) [] [] f fd) (ok : TabOk (tb cls exc) K nF) : FnOk P w K mg base (L2.CX P w) 1 f fd ["self", "a", "b", "length"] (spD (tb cls exc) K m_Road___init__) := by
  have hN := sc_Road___init__.nd
  exact fnD_of F sc_Road___init__ fun cdv A outer s H E hr =>
 (sb_cons (ss_fld (nF := nF) F_a ok (by decide) (se_var 0) (se_var 1))
 (sb_cons (ss_fld (nF := nF) F_b ok (by decide) (se_var 0) (se_var 2))
 (sb_one (ss_fld (nF := nF) F_length ok (by decide) (se_var 0) (se_var 3)))))
theorem sc__law_draw : FnScope ["_law_source_here", "_law_many", "_law_number", "_law_found"] ["_law_source_here", "_law_many"] (defScope (top 18)) := ⟨rfl, rfl, rfl, by decide +kernel, rfl, by decide +kernel, by decide +kernel⟩
theorem w__law_draw (F : FunD K "_law_draw" "_law_draw" (defArgs (top 18)) (defBody (top 18)) (defScope (top 18)) [] [] f fd)  : FnOk P w K mg base (L2.CX P w) 1 f fd ["_law_source_here", "_law_many"] (spD (tb cls exc) K m__law_draw) := by
  have hN := sc__law_draw.nd
  exact fnD_of F sc__law_draw fun cdv A outer s H E hr =>
 (sb_cons (ss_if (st_cmp opd_ge (se_ix (hu_of hr) (se_var 0) se_int) (se_cst (v := 1000000000000000000) (se_op opd_pow se_int se_int) (by intro _ _ _ _ q; first | exact q | exact ⟨⟨by decide, by decide, by decide⟩, q⟩)) (nomark _))
 (sb_cons (ss_set 3 hN (se_op opd_mod (se_ix (hu_of hr) (se_var 0) se_int) (se_var 1)))
 (sb_cons (ss_sub (hu_of hr) (se_var 0) se_int (se_op opd_div (se_ix (hu_of hr) (se_var 0) se_int) (se_var 1)))
 (sb_one (ss_ret (se_var 3)))))
 sb_nil)
 (sb_cons (ss_sub (hu_of hr) (se_var 0) se_int (se_op (opd_add false) (se_ix (hu_of hr) (se_var 0) se_int) se_int))
 (sb_cons (ss_set 2 hN (se_op opd_mod (se_op opd_mulI (se_op (opd_add false) (se_op (opd_add false) (se_ix (hu_of hr) (se_var 0) se_int) (se_op opd_mulI se_int (se_ix (hu_of hr) (se_var 0) se_int))) se_int) se_int) se_int))
 (sb_cons (ss_set 2 hN (se_op opd_mod (se_op opd_mulI (se_var 2) (se_op (opd_add false) (se_op opd_div (se_var 2) se_int) se_int)) se_int))
 (sb_one (ss_ret (se_op opd_mod (se_op opd_mod (se_op (opd_add false) (se_op opd_div (se_var 2) se_int) (se_op opd_mulI (se_op opd_mod (se_var 2) se_int) se_int)) se_int) (se_var 1))))))))
theorem sc__law_joined : FnScope ["_law_facts", "_law_one", "_law_other", "_law_found", "_law_at", "_law_here", "_law_there", "_law_size"] ["_law_facts", "_law_one", "_law_other"] (defScope (top 22)) := ⟨rfl, rfl, rfl, by decide +kernel, rfl, by decide +kernel, by decide +kernel⟩
theorem w__law_joined (F : FunD K "_law_joined" "_law_joined" (defArgs (top 22)) (defBody (top 22)) (defScope (top 22)) [] [] f fd) (own2 : ∀ c q, S2 c = some q → OwnE (tb cls exc) P w K mg base 18 c q) (fr_len : mg "len" = none) : FnOk P w K mg base (L2.CX P w) 27 f fd ["_law_facts", "_law_one", "_law_other"] (spD (tb cls exc) K m__law_joined) := by
  have hN := sc__law_joined.nd
  exact fnD_of F sc__law_joined fun cdv A outer s H E hr =>
 (sb_cons (ss_set 3 hN (se_lst true (sa_cons (se_var 1) sa_nil)))
 (sb_cons (ss_set 4 hN se_int)
 (sb_cons (ss_while (st_cmp opd_lt (se_var 4) (se_callB cb_len rfl fr_len (sa_cons (se_var 3) sa_nil)) (nomark _))
 (sb_cons (ss_for rfl (si_seq (se_var 0)) (sg_tup rfl (sgs_cons (sg_name 5 hN) (sgs_cons (sg_name 6 hN) (sgs_cons (sg_name 7 hN) sgs_nil))))
 (sb_cons (ss_if (SW.st (sw_and (st_cmp (opd_eq (n := 6) own2 yes (Sb.of (n := 18 + 6) (hr.mono (by decide)))) (se_var 5) (se_ix (hu_of hr) (se_var 3) (se_var 4)) (nomark _)) (sw_and1 (st_cmp (opd_notIn (n := 6) own2 yes (Sb.of (n := 18 + 6 + 1) (hr.mono (by decide)))) (se_var 6) (se_var 3) (by rfl)))))
 (sb_one (ss_expr (se_lm PySem.F.slot_list_append mtd_append (se_var 3) (sa_cons (se_var 6) sa_nil))))
 sb_nil)
 (sb_one (ss_if (SW.st (sw_and (st_cmp (opd_eq (n := 6) own2 yes (Sb.of (n := 18 + 6) (hr.mono (by decide)))) (se_var 6) (se_ix (hu_of hr) (se_var 3) (se_var 4)) (nomark _)) (sw_and1 (st_cmp (opd_notIn (n := 6) own2 yes (Sb.of (n := 18 + 6 + 1) (hr.mono (by decide)))) (se_var 5) (se_var 3) (by rfl)))))
 (sb_one (ss_expr (se_lm PySem.F.slot_list_append mtd_append (se_var 3) (sa_cons (se_var 5) sa_nil))))
 sb_nil))))
 (sb_one (ss_set 4 hN (se_op (opd_add false) (se_var 4) se_int)))))
 (sb_one (ss_ret (se_cmp (opd_in (n := 6) own2 yes (Sb.of (n := 18 + 6 + 1) (hr.mono (by decide)))) (se_var 2) (se_var 3) (by rfl)))))))
theorem sc__law_due : FnScope ["_law_many", "_law_facts", "_law_at", "_law_off", "_law_one", "_law_other", "_law_size", "_law_crossing_so"] ["_law_many", "_law_facts"] (defScope (top 23)) := ⟨rfl, rfl, rfl, by decide +kernel, rfl, by decide +kernel, by decide +kernel⟩
theorem w__law_due (F : FunD K "_law_due" "_law_due" (defArgs (top 23)) (defBody (top 23)) (defScope (top 23)) [] [] f fd) (fr_enumerate : mg "enumerate" = none) (G__law_joined : Fn (tb cls exc) P w K mg base "_law_joined" 27 ["_law_facts", "_law_one", "_law_other"] m__law_joined) (own2 : ∀ c q, S2 c = some q → OwnE (tb cls exc) P w K mg base 18 c q) (fr_len : mg "len" = none) : FnOk P w K mg base (L2.CX P w) 28 f fd ["_law_many", "_law_facts"] (spD (tb cls exc) K m__law_due) := by
  have hN := sc__law_due.nd
  exact fnD_of F sc__law_due fun cdv A outer s H E hr =>
 (sb_cons (ss_if (st_not (st_chain opd_le opd_le se_int (se_var 0) se_int))
 (sb_one (ss_ret (se_tup (sa_cons se_str (sa_cons (se_var 0) sa_nil)))))
 sb_nil)
 (sb_cons (ss_if (st_cmp (opd_ne (n := 6) own2 yes (Sb.of (n := 18 + 6) (hr.mono (by decide)))) (se_callB cb_len rfl fr_len (sa_cons (se_var 1) sa_nil)) (se_op opd_sub (se_var 0) se_int) (nomark _))
 (sb_one (ss_ret (se_tup (sa_cons se_str (sa_cons (se_callB cb_len rfl fr_len (sa_cons (se_var 1) sa_nil)) sa_nil)))))
 sb_nil)
 (sb_cons (ss_for rfl (si_enum rfl fr_enumerate (se_var 1)) (sg_tup rfl (sgs_cons (sg_name 2 hN) (sgs_cons (sg_tup rfl (sgs_cons (sg_name 4 hN) (sgs_cons (sg_name 5 hN) (sgs_cons (sg_name 6 hN) sgs_nil)))) sgs_nil)))
 (sb_cons (ss_setLcV false 3 rfl hN (si_seq (se_tup (sa_cons (se_var 4) (sa_cons (se_var 5) sa_nil)))) (blkB_ok (own := [("_law_crossing_so", 7)]) (by kernel_rfl)) (fun _ _ _ _ _ => (sg_name 7 hN)) (fun _ _ _ _ _ => (sts_one (st_not (st_chain opd_le opd_lt se_int (se_var 7) (se_var 0))))) (fun _ _ _ _ _ => (se_var 7)) (by rfl))
 (sb_cons (ss_if (st_cmp (opd_ne (n := 6) own2 yes (Sb.of (n := 18 + 6) (hr.mono (by decide)))) (se_var 3) (se_lst false sa_nil) (nomark _))
 (sb_one (ss_ret (se_tup (sa_cons se_str (sa_cons (se_ix (hu_of hr) (se_var 3) se_int) sa_nil)))))
 sb_nil)
 (sb_cons (ss_if (st_not (st_chain opd_le opd_le se_int (se_var 6) (se_cst (v := 1000000000) (se_op opd_pow se_int se_int) (by intro _ _ _ _ q; first | exact q | exact ⟨⟨by decide, by decide, by decide⟩, q⟩))))
 (sb_one (ss_ret (se_tup (sa_cons se_str (sa_cons (se_var 6) sa_nil)))))
 sb_nil)
 (sb_one (ss_if (st_val (se_call G__law_joined hr rfl (sa_cons (se_slice false (se_var 1) so_none (so_some (se_var 2))) (sa_cons (se_var 4) (sa_cons (se_var 5) sa_nil)))))
 (sb_one (ss_ret (se_tup (sa_cons se_str (sa_cons (se_var 2) sa_nil)))))
 sb_nil))))))
 (sb_one (ss_ret se_non)))))
theorem sc_roads_at : FnScope ["tree", "crossing", "found", "number", "road"] ["tree", "crossing"] (defScope (top 14)) := ⟨rfl, rfl, rfl, by decide +kernel, rfl, by decide +kernel, by decide +kernel⟩
theorem w_roads_at (F : FunD K "roads_at" "roads_at" (defArgs (top 14)) (defBody (top 14)) (defScope (top 14)) [] [] f fd) (fr_enumerate : mg "enumerate" = none) (ok : TabOk (tb cls exc) K nF) (own2 : ∀ c q, S2 c = some q → OwnE (tb cls exc) P w K mg base 18 c q) : FnOk P w K mg base (L2.CX P w) 27 f fd ["tree", "crossing"] (spD (tb cls exc) K m_roads_at) := by
  have hN := sc_roads_at.nd
  exact fnD_of F sc_roads_at fun cdv A outer s H E hr =>
 (sb_cons (ss_set 2 hN (se_lst true sa_nil))
 (sb_cons (ss_for rfl (si_enum rfl fr_enumerate (se_fld (nF := nF) F_roads ok (by decide) (se_var 0))) (sg_tup rfl (sgs_cons (sg_name 3 hN) (sgs_cons (sg_name 4 hN) sgs_nil)))
 (sb_cons (ss_if (st_cmp (opd_eq (n := 6) own2 yes (Sb.of (n := 18 + 6) (hr.mono (by decide)))) (se_fld (nF := nF) F_a ok (by decide) (se_var 4)) (se_var 1) (nomark _))
 (sb_one (ss_expr (se_lm PySem.F.slot_list_append mtd_append (se_var 2) (sa_cons (se_tup (sa_cons (se_var 3) (sa_cons (se_fld (nF := nF) F_b ok (by decide) (se_var 4)) (sa_cons (se_fld (nF := nF) F_length ok (by decide) (se_var 4)) sa_nil)))) sa_nil))))
 sb_nil)
 (sb_one (ss_if (st_cmp (opd_eq (n := 6) own2 yes (Sb.of (n := 18 + 6) (hr.mono (by decide)))) (se_fld (nF := nF) F_b ok (by decide) (se_var 4)) (se_var 1) (nomark _))
 (sb_one (ss_expr (se_lm PySem.F.slot_list_append mtd_append (se_var 2) (sa_cons (se_tup (sa_cons (se_var 3) (sa_cons (se_fld (nF := nF) F_a ok (by decide) (se_var 4)) (sa_cons (se_fld (nF := nF) F_length ok (by decide) (se_var 4)) sa_nil)))) sa_nil))))
 sb_nil))))
 (sb_one (ss_ret (se_frz (se_var 2))))))
theorem sc_ways_from : FnScope ["tree", "crossing", "found", "waiting", "here", "number", "there", "length"] ["tree", "crossing"] (defScope (top 15)) := ⟨rfl, rfl, rfl, by decide +kernel, rfl, by decide +kernel, by decide +kernel⟩
theorem w_ways_from (F : FunD K "ways_from" "ways_from" (defArgs (top 15)) (defBody (top 15)) (defScope (top 15)) [] [] f fd) (own2 : ∀ c q, S2 c = some q → OwnE (tb cls exc) P w K mg base 18 c q) (G_roads_at : Fn (tb cls exc) P w K mg base "roads_at" 27 ["tree", "crossing"] m_roads_at) : FnOk P w K mg base (L2.CX P w) 28 f fd ["tree", "crossing"] (spD (tb cls exc) K m_ways_from) := by
  have hN := sc_ways_from.nd
  exact fnD_of F sc_ways_from fun cdv A outer s H E hr =>
 (sb_cons (ss_set 2 hN (se_disp true (sps_cons (se_var 1) (se_tup (sa_cons se_int (sa_cons se_non sa_nil))) sps_nil)))
 (sb_cons (ss_set 3 hN (se_lst true (sa_cons (se_var 1) sa_nil)))
 (sb_cons (ss_while (st_cmp (opd_ne (n := 6) own2 yes (Sb.of (n := 18 + 6) (hr.mono (by decide)))) (se_var 3) (se_lst false sa_nil) (nomark _))
 (sb_cons (ss_set 4 hN (se_lm0 PySem.F.slot_list_pop mtd_pop (se_var 3)))
 (sb_one (ss_for rfl (si_seq (se_call G_roads_at hr rfl (sa_cons (se_var 0) (sa_cons (se_var 4) sa_nil)))) (sg_tup rfl (sgs_cons (sg_name 5 hN) (sgs_cons (sg_name 6 hN) (sgs_cons (sg_name 7 hN) sgs_nil))))
 (sb_one (ss_if (st_cmp (opd_notIn (n := 6) own2 yes (Sb.of (n := 18 + 6 + 1) (hr.mono (by decide)))) (se_var 6) (se_var 2) (by rfl))
 (sb_cons (ss_sub (hu_of hr) (se_var 2) (se_var 6) (se_tup (sa_cons (se_op (opd_add false) (se_ix (hu_of hr) (se_ix (hu_of hr) (se_var 2) (se_var 4)) se_int) (se_var 7)) (sa_cons (se_var 5) sa_nil))))
 (sb_one (ss_expr (se_lm PySem.F.slot_list_append mtd_append (se_var 3) (sa_cons (se_var 6) sa_nil)))))
 sb_nil))))))
 (sb_one (ss_ret (se_frz (se_var 2)))))))
theorem sc_Tree___init__ : FnScope ["self", "crossings", "roads", "lots", "number", "road", "crossing", "gone", "lot"] ["self", "crossings", "roads"] (defScope (inClass (top 13) 0)) := ⟨rfl, rfl, rfl, by decide +kernel, rfl, by decide +kernel, by decide +kernel⟩
theorem w_Tree___init__ (F : FunD K "__init__" "Tree.__init__" (defArgs (inClass (top 13) 0)) (defBody (inClass (top 13) 0)) (defScope (inClass (top 13) 0)) [] [] f fd) (ok : TabOk (tb cls exc) K nF) (fr_range : mg "range" = none) (G_ways_from : Fn (tb cls exc) P w K mg base "ways_from" 28 ["tree", "crossing"] m_ways_from) (fr_enumerate : mg "enumerate" = none) (own2 : ∀ c q, S2 c = some q → OwnE (tb cls exc) P w K mg base 18 c q) (R_RingRoad : Err (tb cls exc) P w K mg base "RingRoad" X_RingRoad 2 [F_road]) (g_MOST_LENGTH : ∃ t, mg "MOST_LENGTH" = some (.int 1000000000 t)) (R_BadCount : Err (tb cls exc) P w K mg base "BadCount" X_BadCount 2 [F_what, F_count]) (R_NoCrossing : Err (tb cls exc) P w K mg base "NoCrossing" X_NoCrossing 2 [F_crossing]) (fr_list : mg "list" = none) (fr_len : mg "len" = none) (g_LEAST_CROSSINGS : ∃ t, mg "LEAST_CROSSINGS" = some (.int 2 t)) (g_MOST_CROSSINGS : ∃ t, mg "MOST_CROSSINGS" = some (.int 24 t)) (fr_tuple : mg "tuple" = none) : FnOk P w K mg base (L2.CX P w) 29 f fd ["self", "crossings", "roads"] (spD (tb cls exc) K m_Tree___init__) := by
  have hN := sc_Tree___init__.nd
  exact fnD_of F sc_Tree___init__ fun cdv A outer s H E hr =>
 (sb_cons (ss_fld (nF := nF) F_crossings ok (by decide) (se_var 0) (se_var 1))
 (sb_cons (ss_fld (nF := nF) F_roads ok (by decide) (se_var 0) (se_callTy cb_tuple rfl fr_tuple (sa_cons (se_var 2) sa_nil)))
 (sb_cons (ss_if (st_not (st_chain opd_le opd_le (se_gint rfl g_LEAST_CROSSINGS.choose_spec) (se_var 1) (se_gint rfl g_MOST_CROSSINGS.choose_spec)))
 (sb_one (ss_raise rfl R_BadCount (hr.mono (by decide)) rfl (sa_cons se_str (sa_cons (se_var 1) sa_nil))))
 sb_nil)
 (sb_cons (ss_if (st_cmp (opd_ne (n := 6) own2 yes (Sb.of (n := 18 + 6) (hr.mono (by decide)))) (se_callB cb_len rfl fr_len (sa_cons (se_fld (nF := nF) F_roads ok (by decide) (se_var 0)) sa_nil)) (se_op opd_sub (se_var 1) se_int) (nomark _))
 (sb_one (ss_raise rfl R_BadCount (hr.mono (by decide)) rfl (sa_cons se_str (sa_cons (se_callB cb_len rfl fr_len (sa_cons (se_fld (nF := nF) F_roads ok (by decide) (se_var 0)) sa_nil)) sa_nil))))
 sb_nil)
 (sb_cons (ss_set 3 hN (se_listRg false rfl rfl fr_list (sr_1 rfl fr_range (se_var 1))))
 (sb_cons (ss_for rfl (si_enum rfl fr_enumerate (se_fld (nF := nF) F_roads ok (by decide) (se_var 0))) (sg_tup rfl (sgs_cons (sg_name 4 hN) (sgs_cons (sg_name 5 hN) sgs_nil)))
 (sb_cons (ss_for rfl (si_seq (se_tup (sa_cons (se_fld (nF := nF) F_a ok (by decide) (se_var 5)) (sa_cons (se_fld (nF := nF) F_b ok (by decide) (se_var 5)) sa_nil)))) (sg_name 6 hN)
 (sb_one (ss_if (st_not (st_chain opd_le opd_lt se_int (se_var 6) (se_var 1)))
 (sb_one (ss_raise rfl R_NoCrossing (hr.mono (by decide)) rfl (sa_cons (se_var 6) sa_nil)))
 sb_nil)))
 (sb_cons (ss_if (st_not (st_chain opd_le opd_le se_int (se_fld (nF := nF) F_length ok (by decide) (se_var 5)) (se_gint rfl g_MOST_LENGTH.choose_spec)))
 (sb_one (ss_raise rfl R_BadCount (hr.mono (by decide)) rfl (sa_cons se_str (sa_cons (se_fld (nF := nF) F_length ok (by decide) (se_var 5)) sa_nil))))
 sb_nil)
 (sb_cons (ss_if (st_cmp (opd_eq (n := 6) own2 yes (Sb.of (n := 18 + 6) (hr.mono (by decide)))) (se_ix (hu_of hr) (se_var 3) (se_fld (nF := nF) F_a ok (by decide) (se_var 5))) (se_ix (hu_of hr) (se_var 3) (se_fld (nF := nF) F_b ok (by decide) (se_var 5))) (nomark _))
 (sb_one (ss_raise rfl R_RingRoad (hr.mono (by decide)) rfl (sa_cons (se_var 4) sa_nil)))
 sb_nil)
 (sb_cons (ss_set 7 hN (se_ix (hu_of hr) (se_var 3) (se_fld (nF := nF) F_b ok (by decide) (se_var 5))))
 (sb_one (ss_set 3 hN (se_lcV false rfl hN (si_seq (se_var 3)) (blkB_ok (own := [("lot", 8)]) (by kernel_rfl)) (fun _ _ _ _ _ => (sg_name 8 hN)) (fun _ _ _ _ _ => sts_nil) (fun _ _ _ _ _ => (se_if (st_cmp (opd_eq (n := 6) own2 yes (Sb.of (n := 18 + 6) (hr.mono (by decide)))) (se_var 8) (se_var 7) (nomark _)) (se_ix (hu_of hr) (se_var 3) (se_fld (nF := nF) F_a ok (by decide) (se_var 5))) (se_var 8)))))))))))
 (sb_one (ss_fld (nF := nF) F_ways ok (by decide) (se_var 0) (se_lcV false rfl hN (si_range1 rfl fr_range (sa_cons (se_var 1) sa_nil)) (blkB_ok (own := [("crossing", 6)]) (by kernel_rfl)) (fun _ _ _ _ _ => (sg_name 6 hN)) (fun _ _ _ _ _ => sts_nil) (fun _ _ _ _ _ => (se_call G_ways_from hr rfl (sa_cons (se_var 0) (sa_cons (se_var 6) sa_nil)))))))))))))
theorem sc__law_said : FnScope ["_law_many", "_law_roads_so", "e", "_law_kinds"] ["_law_many", "_law_roads_so"] (defScope (top 24)) := ⟨rfl, rfl, rfl, by decide +kernel, rfl, by decide +kernel, by decide +kernel⟩
theorem w__law_said (F : FunD K "_law_said" "_law_said" (defArgs (top 24)) (defBody (top 24)) (defScope (top 24)) [] [] f fd) (M_Tree : Mkr (tb cls exc) P w K mg base "Tree" C_Tree 29 ["self", "crossings", "roads"] m_Tree___init__) (tx : TabX (tb cls exc) K nF) (fr_isinstance : mg "isinstance" = none) (fr_ValueError : mg "ValueError" = none) (kv_ValueError : ∀ c b, qx_ValueError c = some b → PySem.W.kitOne K (.ref ((tb cls exc).exc c)) (.type "ValueError") = some b) (kt_NoRoad_OffRoad : ∀ c b, qx_NoRoad_OffRoad c = some b → PySem.W.kitAny K (.ref ((tb cls exc).exc c)) [.ref ((tb cls exc).exc X_NoRoad), .ref ((tb cls exc).exc X_OffRoad)] = some b) (x_OffRoad : mg "OffRoad" = some (.ref ((tb cls exc).exc X_OffRoad))) (x_NoRoad : mg "NoRoad" = some (.ref ((tb cls exc).exc X_NoRoad))) (x_RingRoad : mg "RingRoad" = some (.ref ((tb cls exc).exc X_RingRoad))) (kx_RingRoad : ∀ c b, qx_RingRoad c = some b → PySem.W.kitOne K (.ref ((tb cls exc).exc c)) (.ref ((tb cls exc).exc X_RingRoad)) = some b) (x_NoCrossing : mg "NoCrossing" = some (.ref ((tb cls exc).exc X_NoCrossing))) (kx_NoCrossing : ∀ c b, qx_NoCrossing c = some b → PySem.W.kitOne K (.ref ((tb cls exc).exc c)) (.ref ((tb cls exc).exc X_NoCrossing)) = some b) (x_BadCount : mg "BadCount" = some (.ref ((tb cls exc).exc X_BadCount))) (kx_BadCount : ∀ c b, qx_BadCount c = some b → PySem.W.kitOne K (.ref ((tb cls exc).exc c)) (.ref ((tb cls exc).exc X_BadCount)) = some b) (x_TrainError : mg "TrainError" = some (.ref ((tb cls exc).exc X_TrainError))) (ex_TrainError : ∀ c b, qx_TrainError c = some b → PySem.W.exmOne K (.ref ((tb cls exc).exc c)) (.ref ((tb cls exc).exc X_TrainError)) = some b) : FnOk P w K mg base (L2.CX P w) 31 f fd ["_law_many", "_law_roads_so"] (spD (tb cls exc) K m__law_said) := by
  have hN := sc__law_said.nd
  exact fnD_of F sc__law_said fun cdv A outer s H E hr =>
 (sb_cons (ss_tryAs qx_TrainError 2 rfl rfl hN ⟨rfl, rfl, .inl x_TrainError⟩ ex_TrainError (fun pn xe => (sb_one (ss_expr (se_make true M_Tree hr rfl (sa_cons (se_var 0) (sa_cons (se_var 1) sa_nil))))))
 (fun a oe c dd pn hz hf => (sb_cons (ss_set 3 hN (se_lst false (sa_cons (se_isX (nF := nF) (q := qx_BadCount) (v := .ref ((tb cls exc).exc X_BadCount)) (cv := .ref ((tb cls exc).exc X_BadCount)) tx hz hf rfl fr_isinstance (se_var 2) (pe_glob rfl x_BadCount rfl) (fun _ z => z) (kx_BadCount c)) (sa_cons (se_isX (nF := nF) (q := qx_NoCrossing) (v := .ref ((tb cls exc).exc X_NoCrossing)) (cv := .ref ((tb cls exc).exc X_NoCrossing)) tx hz hf rfl fr_isinstance (se_var 2) (pe_glob rfl x_NoCrossing rfl) (fun _ z => z) (kx_NoCrossing c)) (sa_cons (se_isX (nF := nF) (q := qx_RingRoad) (v := .ref ((tb cls exc).exc X_RingRoad)) (cv := .ref ((tb cls exc).exc X_RingRoad)) tx hz hf rfl fr_isinstance (se_var 2) (pe_glob rfl x_RingRoad rfl) (fun _ z => z) (kx_RingRoad c)) sa_nil)))))
 (sb_cons (ss_if (SW.st (sw_or (st_cmp (opd_ne (n := 6) (own0 (P := P) (w := w) (K := K) (mg := mg) (base := base) (T := (tb cls exc))) no0 (Sb.no (n := 0 + 6) hr rfl (by decide))) (se_pl PySem.F.slot_list_count ptd_count (se_var 3) (sa_cons se_bl sa_nil)) se_int (nomark _)) (sw_or (st_val (se_isXT (nF := nF) (q := qx_NoRoad_OffRoad) (cs := [.ref ((tb cls exc).exc X_NoRoad), .ref ((tb cls exc).exc X_OffRoad)]) (us := [.ref ((tb cls exc).exc X_NoRoad), .ref ((tb cls exc).exc X_OffRoad)]) tx hz hf rfl fr_isinstance (se_var 2) (pa_cons (pe_glob (v := .ref ((tb cls exc).exc X_NoRoad)) rfl x_NoRoad rfl) (pa_cons (pe_glob (v := .ref ((tb cls exc).exc X_OffRoad)) rfl x_OffRoad rfl) pa_nil (by rfl)) (by rfl)) (fun _ _ _ z => z) rfl (Paired.cons (ClsV.own _) (Paired.cons (ClsV.own _) Paired.nil)) (kt_NoRoad_OffRoad c))) (sw_or1 (st_not (st_val (se_isX (nF := nF) (q := qx_ValueError) (v := .ty "ValueError") (cv := .type "ValueError") tx hz hf rfl fr_isinstance (se_var 2) (pe_bltn (v := .ty "ValueError") rfl fr_ValueError (by rfl) rfl (by decide) (by decide)) (fun _ z => z) (kv_ValueError c))))))))
 (sb_one (ss_ret (se_tup (sa_cons se_str (sa_cons se_non sa_nil)))))
 sb_nil)
 (sb_cons (ss_if (st_val (se_ix (by have := hu_of hr; exact this) (se_var 3) se_int))
 (sb_one (ss_ret (se_tup (sa_cons (se_xf (nF := nF) F_what tx (by decide) hz hf (se_var 2)) (sa_cons (se_xf (nF := nF) F_count tx (by decide) hz hf (se_var 2)) sa_nil)))))
 sb_nil)
 (sb_one (ss_ret (se_if (st_val (se_ix (by have := hu_of hr; exact this) (se_var 3) se_int)) (se_tup (sa_cons se_str (sa_cons (se_xf (nF := nF) F_crossing tx (by decide) hz hf (se_var 2)) sa_nil))) (se_tup (sa_cons se_str (sa_cons (se_xf (nF := nF) F_road tx (by decide) hz hf (se_var 2)) sa_nil)))))))))))
 (sb_one (ss_ret se_non)))
theorem sc__law_source : FnScope ["_law_cell"] ["_law_cell"] (defScope (top 17)) := ⟨rfl, rfl, rfl, by decide +kernel, rfl, by decide +kernel, by decide +kernel⟩
theorem w__law_source (F : FunD K "_law_source" "_law_source" (defArgs (top 17)) (defBody (top 17)) (defScope (top 17)) [] [] f fd) (fr_abs : mg "abs" = none) : FnOk P w K mg base (L2.CX P w) 1 f fd ["_law_cell"] (spD (tb cls exc) K m__law_source) := by
  have hN := sc__law_source.nd
  exact fnD_of F sc__law_source fun cdv A outer s H E hr =>
 (sb_one (ss_ret (se_lst true (sa_cons (se_callB cb_abs rfl fr_abs (sa_cons (se_var 0) sa_nil)) (sa_cons (se_op opd_mod (se_var 0) se_int) (sa_cons se_int sa_nil))))))
theorem sc__law_pick : FnScope ["_law_source_here", "_law_some"] ["_law_source_here", "_law_some"] (defScope (top 19)) := ⟨rfl, rfl, rfl, by decide +kernel, rfl, by decide +kernel, by decide +kernel⟩
theorem w__law_pick (F : FunD K "_law_pick" "_law_pick" (defArgs (top 19)) (defBody (top 19)) (defScope (top 19)) [] [] f fd) (G__law_draw : Fn (tb cls exc) P w K mg base "_law_draw" 1 ["_law_source_here", "_law_many"] m__law_draw) (fr_len : mg "len" = none) : FnOk P w K mg base (L2.CX P w) 2 f fd ["_law_source_here", "_law_some"] (spD (tb cls exc) K m__law_pick) := by
  have hN := sc__law_pick.nd
  exact fnD_of F sc__law_pick fun cdv A outer s H E hr =>
 (sb_one (ss_ret (se_ix (hu_of hr) (se_var 1) (se_call G__law_draw hr rfl (sa_cons (se_var 0) (sa_cons (se_callB cb_len rfl fr_len (sa_cons (se_var 1) sa_nil)) sa_nil))))))
theorem sc__law_spoilt : FnScope ["_law_source_here", "_law_many", "_law_facts", "_law_way", "_law_at", "_law_odd", "_law_some", "_law_one", "_law_other", "_law_size"] ["_law_source_here", "_law_many", "_law_facts"] (defScope (top 25)) := ⟨rfl, rfl, rfl, by decide +kernel, rfl, by decide +kernel, by decide +kernel⟩
theorem w__law_spoilt (F : FunD K "_law_spoilt" "_law_spoilt" (defArgs (top 25)) (defBody (top 25)) (defScope (top 25)) [] [] f fd) (G__law_pick : Fn (tb cls exc) P w K mg base "_law_pick" 2 ["_law_source_here", "_law_some"] m__law_pick) (G__law_draw : Fn (tb cls exc) P w K mg base "_law_draw" 1 ["_law_source_here", "_law_many"] m__law_draw) (own2 : ∀ c q, S2 c = some q → OwnE (tb cls exc) P w K mg base 18 c q) (fr_len : mg "len" = none) : FnOk P w K mg base (L2.CX P w) 27 f fd ["_law_source_here", "_law_many", "_law_facts"] (spD (tb cls exc) K m__law_spoilt) := by
  have hN := sc__law_spoilt.nd
  exact fnD_of F sc__law_spoilt fun cdv A outer s H E hr =>
 (sb_cons (ss_set 3 hN (se_call G__law_draw (hr.mono (by decide)) rfl (sa_cons (se_var 0) (sa_cons se_int sa_nil))))
 (sb_cons (ss_if (st_cmp (opd_eq (n := 6) own2 yes (Sb.of (n := 18 + 6) (hr.mono (by decide)))) (se_var 3) se_int (nomark _))
 (sb_one (ss_ret (se_tup (sa_cons (se_call G__law_pick (hr.mono (by decide)) rfl (sa_cons (se_var 0) (sa_cons (se_lst false (sa_cons (se_op (opd_add false) (se_var 1) se_int) (sa_cons (se_op opd_sub (se_var 1) se_int) (sa_cons se_int (sa_cons se_int (sa_cons (se_cst (v := (-2)) (se_neg se_int) (by intro _ _ _ _ q; first | exact q | exact ⟨⟨by decide, by decide, by decide⟩, q⟩)) (sa_cons se_int (sa_cons (se_cst (v := 1000000000) (se_op opd_pow se_int se_int) (by intro _ _ _ _ q; first | exact q | exact ⟨⟨by decide, by decide, by decide⟩, q⟩)) sa_nil)))))))) sa_nil))) (sa_cons (se_var 2) sa_nil)))))
 sb_nil)
 (sb_cons (ss_if (st_cmp (opd_eq (n := 6) own2 yes (Sb.of (n := 18 + 6) (hr.mono (by decide)))) (se_var 2) (se_lst false sa_nil) (nomark _))
 (sb_one (ss_ret (se_tup (sa_cons (se_var 1) (sa_cons (se_lst false (sa_cons (se_tup (sa_cons se_int (sa_cons se_int (sa_cons se_int sa_nil)))) sa_nil)) sa_nil)))))
 sb_nil)
 (sb_cons (ss_set 4 hN (se_call G__law_draw (hr.mono (by decide)) rfl (sa_cons (se_var 0) (sa_cons (se_callB cb_len rfl fr_len (sa_cons (se_var 2) sa_nil)) sa_nil))))
 (sb_cons (ss_asg (se_ix (hu_of hr) (se_var 2) (se_var 4)) (sg_tup rfl (sgs_cons (sg_name 7 hN) (sgs_cons (sg_name 8 hN) (sgs_cons (sg_name 9 hN) sgs_nil)))))
 (sb_cons (ss_if (st_cmp (opd_eq (n := 6) own2 yes (Sb.of (n := 18 + 6) (hr.mono (by decide)))) (se_var 3) se_int (nomark _))
 (sb_one (ss_ret (se_tup (sa_cons (se_var 1) (sa_cons (se_op (opd_add false) (se_slice false (se_var 2) so_none (so_some (se_var 4))) (se_slice false (se_var 2) (so_some (se_op (opd_add false) (se_var 4) se_int)) so_none)) sa_nil)))))
 sb_nil)
 (sb_cons (ss_if (st_cmp (opd_eq (n := 6) own2 yes (Sb.of (n := 18 + 6) (hr.mono (by decide)))) (se_var 3) se_int (nomark _))
 (sb_one (ss_ret (se_tup (sa_cons (se_var 1) (sa_cons (se_op (opd_add false) (se_slice false (se_var 2) so_none (so_some (se_op (opd_add false) (se_var 4) se_int))) (se_slice false (se_var 2) (so_some (se_var 4)) so_none)) sa_nil)))))
 sb_nil)
 (sb_cons (ss_if (st_cmp (opd_eq (n := 6) own2 yes (Sb.of (n := 18 + 6) (hr.mono (by decide)))) (se_var 3) se_int (nomark _))
 (sb_one (ss_ret (se_tup (sa_cons (se_var 1) (sa_cons (se_op (opd_add false) (se_op (opd_add false) (se_slice false (se_var 2) so_none (so_some (se_var 4))) (se_lst false (sa_cons (se_ix (hu_of hr) (se_var 2) (se_op opd_sub (se_var 4) se_int)) sa_nil))) (se_slice false (se_var 2) (so_some (se_op (opd_add false) (se_var 4) se_int)) so_none)) sa_nil)))))
 sb_nil)
 (sb_cons (ss_set 5 hN (se_call G__law_pick (hr.mono (by decide)) rfl (sa_cons (se_var 0) (sa_cons (se_lst false (sa_cons (se_var 1) (sa_cons (se_cst (v := (-1)) (se_neg se_int) (by intro _ _ _ _ q; first | exact q | exact ⟨⟨by decide, by decide, by decide⟩, q⟩)) (sa_cons (se_op (opd_add false) (se_var 1) se_int) (sa_cons (se_op opd_sub se_int (se_var 1)) sa_nil))))) sa_nil))))
 (sb_cons (ss_set 6 hN (se_lst true (sa_cons (se_tup (sa_cons (se_var 5) (sa_cons (se_var 8) (sa_cons (se_var 9) sa_nil)))) (sa_cons (se_tup (sa_cons (se_var 7) (sa_cons (se_var 5) (sa_cons (se_var 9) sa_nil)))) (sa_cons (se_tup (sa_cons (se_var 5) (sa_cons (se_var 5) (sa_cons (se_var 9) sa_nil)))) (sa_cons (se_tup (sa_cons (se_var 7) (sa_cons (se_var 7) (sa_cons (se_var 9) sa_nil)))) (sa_cons (se_tup (sa_cons (se_var 7) (sa_cons (se_var 8) (sa_cons se_int sa_nil)))) sa_nil)))))))
 (sb_cons (ss_set 6 hN (se_op (opd_add true) (se_var 6) (se_lst false (sa_cons (se_tup (sa_cons (se_var 7) (sa_cons (se_var 8) (sa_cons (se_op opd_sub se_int (se_var 9)) sa_nil)))) (sa_cons (se_tup (sa_cons (se_var 7) (sa_cons (se_var 8) (sa_cons (se_cst (v := 1000000001) (se_op (opd_add false) (se_cst (v := 1000000000) (se_op opd_pow se_int se_int) (by intro _ _ _ _ q; first | exact q | exact ⟨⟨by decide, by decide, by decide⟩, q⟩)) se_int) (by intro _ _ _ _ q; first | exact q | exact ⟨⟨by decide, by decide, by decide⟩, q⟩)) sa_nil)))) (sa_cons (se_tup (sa_cons (se_var 7) (sa_cons (se_var 8) (sa_cons (se_cst (v := 1000000000) (se_op opd_pow se_int se_int) (by intro _ _ _ _ q; first | exact q | exact ⟨⟨by decide, by decide, by decide⟩, q⟩)) sa_nil)))) (sa_cons (se_tup (sa_cons (se_var 8) (sa_cons (se_var 7) (sa_cons (se_var 9) sa_nil)))) sa_nil)))))))
 (sb_cons (ss_expr (se_lm PySem.F.slot_list_append mtd_append (se_var 6) (sa_cons (se_tup (sa_cons (se_call G__law_draw (hr.mono (by decide)) rfl (sa_cons (se_var 0) (sa_cons se_int sa_nil))) (sa_cons (se_call G__law_draw (hr.mono (by decide)) rfl (sa_cons (se_var 0) (sa_cons se_int sa_nil))) (sa_cons (se_var 9) sa_nil)))) sa_nil)))
 (sb_one (ss_ret (se_tup (sa_cons (se_var 1) (sa_cons (se_op (opd_add false) (se_op (opd_add false) (se_slice false (se_var 2) so_none (so_some (se_var 4))) (se_lst false (sa_cons (se_call G__law_pick (hr.mono (by decide)) rfl (sa_cons (se_var 0) (sa_cons (se_var 6) sa_nil))) sa_nil))) (se_slice false (se_var 2) (so_some (se_op (opd_add false) (se_var 4) se_int)) so_none)) sa_nil)))))))))))))))))
theorem sc__law_shuffled : FnScope ["_law_source_here", "_law_some", "_law_left", "_law_found"] ["_law_source_here", "_law_some"] (defScope (top 20)) := ⟨rfl, rfl, rfl, by decide +kernel, rfl, by decide +kernel, by decide +kernel⟩
theorem w__law_shuffled (F : FunD K "_law_shuffled" "_law_shuffled" (defArgs (top 20)) (defBody (top 20)) (defScope (top 20)) [] [] f fd) (own2 : ∀ c q, S2 c = some q → OwnE (tb cls exc) P w K mg base 18 c q) (G__law_draw : Fn (tb cls exc) P w K mg base "_law_draw" 1 ["_law_source_here", "_law_many"] m__law_draw) (fr_len : mg "len" = none) (fr_list : mg "list" = none) : FnOk P w K mg base (L2.CX P w) 27 f fd ["_law_source_here", "_law_some"] (spD (tb cls exc) K m__law_shuffled) := by
  have hN := sc__law_shuffled.nd
  exact fnD_of F sc__law_shuffled fun cdv A outer s H E hr =>
 (sb_cons (ss_set 2 hN (se_callTy (cb_list true) rfl fr_list (sa_cons (se_var 1) sa_nil)))
 (sb_cons (ss_set 3 hN (se_lst true sa_nil))
 (sb_cons (ss_while (st_cmp (opd_ne (n := 6) own2 yes (Sb.of (n := 18 + 6) (hr.mono (by decide)))) (se_var 2) (se_lst false sa_nil) (nomark _))
 (sb_one (ss_expr (se_lm PySem.F.slot_list_append mtd_append (se_var 3) (sa_cons (se_lm PySem.F.slot_list_pop mtd_pop (se_var 2) (sa_cons (se_call G__law_draw (hr.mono (by decide)) rfl (sa_cons (se_var 0) (sa_cons (se_callB cb_len rfl fr_len (sa_cons (se_var 2) sa_nil)) sa_nil))) sa_nil)) sa_nil)))))
 (sb_one (ss_ret (se_frz (se_var 3)))))))
theorem sc__law_tree : FnScope ["_law_source_here", "_law_most", "_law_long", "_law_many", "_law_order", "_law_found", "_law_at", "_law_ends"] ["_law_source_here", "_law_most", "_law_long"] (defScope (top 21)) := ⟨rfl, rfl, rfl, by decide +kernel, rfl, by decide +kernel, by decide +kernel⟩
theorem w__law_tree (F : FunD K "_law_tree" "_law_tree" (defArgs (top 21)) (defBody (top 21)) (defScope (top 21)) [] [] f fd) (G__law_shuffled : Fn (tb cls exc) P w K mg base "_law_shuffled" 27 ["_law_source_here", "_law_some"] m__law_shuffled) (fr_range : mg "range" = none) (G__law_pick : Fn (tb cls exc) P w K mg base "_law_pick" 2 ["_law_source_here", "_law_some"] m__law_pick) (G__law_draw : Fn (tb cls exc) P w K mg base "_law_draw" 1 ["_law_source_here", "_law_many"] m__law_draw) (own2 : ∀ c q, S2 c = some q → OwnE (tb cls exc) P w K mg base 18 c q) (fr_list : mg "list" = none) : FnOk P w K mg base (L2.CX P w) 28 f fd ["_law_source_here", "_law_most", "_law_long"] (spD (tb cls exc) K m__law_tree) := by
  have hN := sc__law_tree.nd
  exact fnD_of F sc__law_tree fun cdv A outer s H E hr =>
 (sb_cons (ss_set 3 hN (se_op (opd_add false) se_int (se_call G__law_draw (hr.mono (by decide)) rfl (sa_cons (se_var 0) (sa_cons (se_op opd_sub (se_var 1) se_int) sa_nil)))))
 (sb_cons (ss_set 4 hN (se_call G__law_shuffled hr rfl (sa_cons (se_var 0) (sa_cons (se_listRg false rfl rfl fr_list (sr_1 rfl fr_range (se_var 3))) sa_nil))))
 (sb_cons (ss_set 5 hN (se_lst true sa_nil))
 (sb_cons (ss_for rfl (si_range2 rfl fr_range (sa_cons se_int (sa_cons (se_var 3) sa_nil))) (sg_name 6 hN)
 (sb_cons (ss_set 7 hN (se_lst true (sa_cons (se_ix (hu_of hr) (se_var 4) (se_var 6)) (sa_cons (se_ix (hu_of hr) (se_var 4) (se_call G__law_pick (hr.mono (by decide)) rfl (sa_cons (se_var 0) (sa_cons (se_lst false (sa_cons (se_op opd_sub (se_var 6) se_int) (sa_cons se_int (sa_cons (se_call G__law_draw (hr.mono (by decide)) rfl (sa_cons (se_var 0) (sa_cons (se_var 6) sa_nil))) sa_nil)))) sa_nil)))) sa_nil))))
 (sb_cons (ss_if (st_cmp (opd_eq (n := 6) own2 yes (Sb.of (n := 18 + 6) (hr.mono (by decide)))) (se_call G__law_draw (hr.mono (by decide)) rfl (sa_cons (se_var 0) (sa_cons se_int sa_nil))) se_int (nomark _))
 (sb_one (ss_expr (se_lm0 PySem.F.slot_list_reverse mtd_reverse (se_var 7))))
 sb_nil)
 (sb_one (ss_expr (se_lm PySem.F.slot_list_append mtd_append (se_var 5) (sa_cons (se_tup (sa_cons (se_ix (hu_of hr) (se_var 7) se_int) (sa_cons (se_ix (hu_of hr) (se_var 7) se_int) (sa_cons (se_call G__law_pick (hr.mono (by decide)) rfl (sa_cons (se_var 0) (sa_cons (se_lst false (sa_cons se_int (sa_cons se_int (sa_cons (se_op (opd_add false) se_int (se_call G__law_draw (hr.mono (by decide)) rfl (sa_cons (se_var 0) (sa_cons (se_var 2) sa_nil)))) sa_nil)))) sa_nil))) sa_nil)))) sa_nil)))))))
 (sb_one (ss_ret (se_tup (sa_cons (se_var 3) (sa_cons (se_call G__law_shuffled hr rfl (sa_cons (se_var 0) (sa_cons (se_var 5) sa_nil))) sa_nil)))))))))
theorem sc_law : FnScope ["_law_script", "_law_cell", "_law_source_here", "_law_turn", "_law_k", "_law_roads_so", "_law_kept", "_law_many", "_law_facts", "_law_one", "_law_other", "_law_size"] ["_law_script"] (defScope (top 26)) := ⟨rfl, rfl, rfl, by decide +kernel, rfl, by decide +kernel, by decide +kernel⟩
theorem w_law (F : FunD K "law" "law" (defArgs (top 26)) (defBody (top 26)) (defScope (top 26)) [] [] f fd) (fr_range : mg "range" = none) (G__law_said : Fn (tb cls exc) P w K mg base "_law_said" 31 ["_law_many", "_law_roads_so"] m__law_said) (fr_tuple : mg "tuple" = none) (G__law_due : Fn (tb cls exc) P w K mg base "_law_due" 28 ["_law_many", "_law_facts"] m__law_due) (own2 : ∀ c q, S2 c = some q → OwnE (tb cls exc) P w K mg base 18 c q) (fr_list : mg "list" = none) (M_Road : Mkr (tb cls exc) P w K mg base "Road" C_Road 1 ["self", "a", "b", "length"] m_Road___init__) (G__law_draw : Fn (tb cls exc) P w K mg base "_law_draw" 1 ["_law_source_here", "_law_many"] m__law_draw) (G__law_spoilt : Fn (tb cls exc) P w K mg base "_law_spoilt" 27 ["_law_source_here", "_law_many", "_law_facts"] m__law_spoilt) (G__law_tree : Fn (tb cls exc) P w K mg base "_law_tree" 28 ["_law_source_here", "_law_most", "_law_long"] m__law_tree) (G__law_source : Fn (tb cls exc) P w K mg base "_law_source" 1 ["_law_cell"] m__law_source) : FnOk P w K mg base (L2.CX P w) 32 f fd ["_law_script"] (spD (tb cls exc) K m_law) := by
  have hN := sc_law.nd
  exact fnD_of F sc_law fun cdv A outer s H E hr =>
 (sb_cons (ss_for rfl (si_seq (se_slice false (se_op (opd_add false) (se_var 0) (se_lst false (sa_cons se_int sa_nil))) so_none (so_some se_int))) (sg_name 1 hN)
 (sb_cons (ss_set 2 hN (se_call G__law_source (hr.mono (by decide)) rfl (sa_cons (se_var 1) sa_nil)))
 (sb_one (ss_for rfl (si_range1 rfl fr_range (sa_cons se_int sa_nil)) (sg_name 3 hN)
 (sb_cons (ss_asg (se_call G__law_tree (hr.mono (by decide)) rfl (sa_cons (se_var 2) (sa_cons se_int (sa_cons se_int sa_nil)))) (sg_tup rfl (sgs_cons (sg_name 7 hN) (sgs_cons (sg_name 8 hN) sgs_nil))))
 (sb_cons (ss_for rfl (si_range1 rfl fr_range (sa_cons (se_call G__law_draw (hr.mono (by decide)) rfl (sa_cons (se_var 2) (sa_cons se_int sa_nil))) sa_nil)) (sg_name 4 hN)
 (sb_one (ss_asg (se_call G__law_spoilt (hr.mono (by decide)) rfl (sa_cons (se_var 2) (sa_cons (se_var 7) (sa_cons (se_var 8) sa_nil)))) (sg_tup rfl (sgs_cons (sg_name 7 hN) (sgs_cons (sg_name 8 hN) sgs_nil))))))
 (sb_cons (ss_setLcV false 5 rfl hN (si_seq (se_var 8)) (blkB_ok (own := [("_law_one", 9), ("_law_other", 10), ("_law_size", 11)]) (by kernel_rfl)) (fun _ _ _ _ _ => (sg_tup rfl (sgs_cons (sg_name 9 hN) (sgs_cons (sg_name 10 hN) (sgs_cons (sg_name 11 hN) sgs_nil))))) (fun _ _ _ _ _ => sts_nil) (fun _ _ _ _ _ => (se_make true M_Road (hr.mono (by decide)) rfl (sa_cons (se_var 9) (sa_cons (se_var 10) (sa_cons (se_var 11) sa_nil))))) (by rfl))
 (sb_cons (ss_set 6 hN (se_callTy (cb_list false) rfl fr_list (sa_cons (se_var 5) sa_nil)))
 (sb_cons (ss_if (SW.st (sw_or (st_cmp (opd_ne (n := 6) own2 yes (Sb.of (n := 18 + 6) (hr.mono (by decide)))) (se_call G__law_said hr rfl (sa_cons (se_var 7) (sa_cons (se_var 5) sa_nil))) (se_call G__law_due (hr.mono (by decide)) rfl (sa_cons (se_var 7) (sa_cons (se_var 8) sa_nil))) (nomark _)) (sw_or1 (st_cmp (opd_ne (n := 6) own2 yes (Sb.of (n := 18 + 6) (hr.mono (by decide)))) (se_var 5) (se_var 6) (nomark _)))))
 (sb_one (ss_ret se_bl))
 sb_nil)
 (sb_one (ss_if (st_cmp (opd_ne (n := 6) own2 yes (Sb.of (n := 18 + 6) (hr.mono (by decide)))) (se_call G__law_said hr rfl (sa_cons (se_var 7) (sa_cons (se_callTy cb_tuple rfl fr_tuple (sa_cons (se_var 5) sa_nil)) sa_nil))) (se_call G__law_due (hr.mono (by decide)) rfl (sa_cons (se_var 7) (sa_cons (se_var 8) sa_nil))) (nomark _))
 (sb_one (ss_ret se_bl))
 sb_nil)))))))))))
 (sb_one (ss_ret se_bl)))
end
end HT

/-! The head of law k02 (printed by head.py). -/
namespace HT
open PySem PySem.Spec PyProof.Rows L2 DL He

def cn : List Str := ["Road", "Tree"]
def xn : List Str := ["TrainError", "BadCount", "NoCrossing", "RingRoad", "NoRoad", "OffRoad"]
abbrev TT (K : PySem.W.Frag) : Tab := tb (gaAt K cn) (gaAt K xn)
def fn : List DefD := [(⟨("Road", some "facts"), "facts", "Road.facts", defArgs (inClass (top 12) 1), defBody (inClass (top 12) 1), defScope (inClass (top 12) 1), [], []⟩ : DefD),
 (⟨("Road", some "__eq__"), "__eq__", "Road.__eq__", defArgs (inClass (top 12) 2), defBody (inClass (top 12) 2), defScope (inClass (top 12) 2), [], []⟩ : DefD),
 (⟨("Tree", some "facts"), "facts", "Tree.facts", defArgs (inClass (top 13) 1), defBody (inClass (top 13) 1), defScope (inClass (top 13) 1), [], []⟩ : DefD),
 (⟨("Tree", some "__eq__"), "__eq__", "Tree.__eq__", defArgs (inClass (top 13) 2), defBody (inClass (top 13) 2), defScope (inClass (top 13) 2), [], []⟩ : DefD),
 (⟨("Road", some "__init__"), "__init__", "Road.__init__", defArgs (inClass (top 12) 0), defBody (inClass (top 12) 0), defScope (inClass (top 12) 0), [], []⟩ : DefD),
 (⟨("_law_draw", none), "_law_draw", "_law_draw", defArgs (top 18), defBody (top 18), defScope (top 18), [], []⟩ : DefD),
 (⟨("_law_joined", none), "_law_joined", "_law_joined", defArgs (top 22), defBody (top 22), defScope (top 22), [], []⟩ : DefD),
 (⟨("_law_due", none), "_law_due", "_law_due", defArgs (top 23), defBody (top 23), defScope (top 23), [], []⟩ : DefD),
 (⟨("roads_at", none), "roads_at", "roads_at", defArgs (top 14), defBody (top 14), defScope (top 14), [], []⟩ : DefD),
 (⟨("ways_from", none), "ways_from", "ways_from", defArgs (top 15), defBody (top 15), defScope (top 15), [], []⟩ : DefD),
 (⟨("Tree", some "__init__"), "__init__", "Tree.__init__", defArgs (inClass (top 13) 0), defBody (inClass (top 13) 0), defScope (inClass (top 13) 0), [], []⟩ : DefD),
 (⟨("RingRoad", some "__init__"), "__init__", "RingRoad.__init__", defArgs (inClass (top 5) 0), defBody (inClass (top 5) 0), defScope (inClass (top 5) 0), [], []⟩ : DefD),
 (⟨("BadCount", some "__init__"), "__init__", "BadCount.__init__", defArgs (inClass (top 3) 0), defBody (inClass (top 3) 0), defScope (inClass (top 3) 0), [], []⟩ : DefD),
 (⟨("NoCrossing", some "__init__"), "__init__", "NoCrossing.__init__", defArgs (inClass (top 4) 0), defBody (inClass (top 4) 0), defScope (inClass (top 4) 0), [], []⟩ : DefD),
 (⟨("_law_said", none), "_law_said", "_law_said", defArgs (top 24), defBody (top 24), defScope (top 24), [], []⟩ : DefD),
 (⟨("_law_source", none), "_law_source", "_law_source", defArgs (top 17), defBody (top 17), defScope (top 17), [], []⟩ : DefD),
 (⟨("_law_pick", none), "_law_pick", "_law_pick", defArgs (top 19), defBody (top 19), defScope (top 19), [], []⟩ : DefD),
 (⟨("_law_spoilt", none), "_law_spoilt", "_law_spoilt", defArgs (top 25), defBody (top 25), defScope (top 25), [], []⟩ : DefD),
 (⟨("_law_shuffled", none), "_law_shuffled", "_law_shuffled", defArgs (top 20), defBody (top 20), defScope (top 20), [], []⟩ : DefD),
 (⟨("_law_tree", none), "_law_tree", "_law_tree", defArgs (top 21), defBody (top 21), defScope (top 21), [], []⟩ : DefD),
 (⟨("law", none), "law", "law", defArgs (top 26), defBody (top 26), defScope (top 26), [], []⟩ : DefD)]
def ts : List (PySem.W.Frag → Bool) := [hnB,
 (fun K => cn.all (clsB K flds)),
 (fun K => xn.all (excB K flds)),
 (Fa.ok · (.meth "Road" "facts")),
 (Fa.ok · (.free "isinstance")),
 (Fa.ok · (.glo "Road")),
 (fun K => kitB K (Ty.val (TT K)) 2 (qOwn 2 0) (.ref (ga K "Road"))),
 (Fa.ok · (.meth "Tree" "facts")),
 (fun K => ownB K "Road"),
 (Fa.ok · (.meth "Road" "__eq__")),
 (Fa.ok · (.glo "Tree")),
 (fun K => kitB K (Ty.val (TT K)) 2 (qOwn 2 1) (.ref (ga K "Tree"))),
 (fun K => ownB K "Tree"),
 (Fa.ok · (.meth "Tree" "__eq__")),
 (Fa.ok · (.free "len")),
 (Fa.ok · (.free "enumerate")),
 (Fa.ok · (.glo "_law_joined")),
 (Fa.ok · (.glo "roads_at")),
 (Fa.ok · (.free "range")),
 (Fa.ok · (.glo "ways_from")),
 (fun K => einB K "RingRoad"),
 (Fa.ok · (.glo "RingRoad")),
 (Fa.ok · (.int "MOST_LENGTH" 1000000000)),
 (fun K => einB K "BadCount"),
 (Fa.ok · (.glo "BadCount")),
 (fun K => einB K "NoCrossing"),
 (Fa.ok · (.glo "NoCrossing")),
 (Fa.ok · (.free "list")),
 (Fa.ok · (.int "LEAST_CROSSINGS" 2)),
 (Fa.ok · (.int "MOST_CROSSINGS" 24)),
 (Fa.ok · (.free "tuple")),
 (Fa.ok · (.mkr "Tree")),
 (Fa.ok · (.free "ValueError")),
 (fun K => kexV K (gaAt K xn) [true, true, true, true, true, true] "ValueError"),
 (fun K => kexT K (gaAt K xn) [false, false, false, false, true, true] [.ref (ga K "NoRoad"), .ref (ga K "OffRoad")]),
 (Fa.ok · (.glo "OffRoad")),
 (Fa.ok · (.glo "NoRoad")),
 (fun K => kexB K (gaAt K xn) [false, false, false, true, false, false] (ga K "RingRoad")),
 (fun K => kexB K (gaAt K xn) [false, false, true, false, false, false] (ga K "NoCrossing")),
 (fun K => kexB K (gaAt K xn) [false, true, false, false, false, false] (ga K "BadCount")),
 (Fa.ok · (.glo "TrainError")),
 (fun K => kexB K (gaAt K xn) [true, true, true, true, true, true] (ga K "TrainError")),
 (Fa.ok · (.free "abs")),
 (Fa.ok · (.glo "_law_draw")),
 (Fa.ok · (.glo "_law_pick")),
 (Fa.ok · (.glo "_law_shuffled")),
 (Fa.ok · (.glo "_law_said")),
 (Fa.ok · (.glo "_law_due")),
 (Fa.ok · (.mkr "Road")),
 (Fa.ok · (.glo "_law_spoilt")),
 (Fa.ok · (.glo "_law_tree")),
 (Fa.ok · (.glo "_law_source")),
 (Fa.ok · (.glo "law"))]
abbrev R : PySem.W.OpenRow := PySem.W.OpenLaw.row PySem.Challenge.rw_onetrain_k02_trees_refused
abbrev hk : PySem.W.Hook := hookM 5 ts fn
def ob (s : PySem.W.SharedT) : AlM := obsMG 5 ts fn (HandSHeadRun.getT s)
theorem ob_eq (s : PySem.W.SharedT) : ob s = hk.obs s.abs := obsMG_eq (HandSHeadRun.getT_eq s)
def loose : List Str := (["_wall", "__name__", "TrainError", "BadCount", "NoCrossing", "RingRoad", "NoRoad", "OffRoad", "LEAST_CROSSINGS", "MOST_CROSSINGS", "MOST_LENGTH", "Road", "Tree", "roads_at", "ways_from", "_law_source", "_law_draw", "_law_pick", "_law_shuffled", "_law_tree"] : List Str) ++ (["_law_joined", "_law_due", "_law_said", "_law_spoilt"] : List Str)
theorem run (w : World) : HandSHeadRun.RunEq R (PySem.W.view R.prog [26]) hk ob 9000 loose w := by
  intro os
  kernel_rfl
set_option maxRecDepth 100000 in
theorem facts {P : Program} {w : World} {K : PySem.W.Frag} {h : Heap} {mg : Str → Option Value} {base : Heap} {fd_law : FuncData} (X : K.In h) (G : h.Ns mainGlobals mg) (c : SaysM ts fn K)
  (F_law : FunD K "law" "law" (defArgs (top 26)) (defBody (top 26)) (defScope (top 26)) [] [] (ga K "law") fd_law) : FnOk P w K mg base (L2.CX P w) 32 (ga K "law") fd_law ["_law_script"] (spD (TT K) K m_law) := by
  have hn := c.fact 0
  have hcl := c.fact 1
  have ok : TabOk (TT K) K nF := tabOk_of (by decide) hcl
  have ti : TabI (TT K) K := tabI_of (by decide) hn hcl
  have hxs := c.fact 2
  have tx : TabX (TT K) K nF := tabX_of X (by decide) hn hxs
  obtain ⟨fd_Road_facts, F_Road_facts⟩ := c.def_ 0 rfl
  have ok_Road_facts := w_Road_facts (P := P) (w := w) (mg := mg) (base := base) (cls := gaAt K cn) (exc := gaAt K xn) F_Road_facts ok
  obtain ⟨fd_Road___eq__, F_Road___eq__⟩ := c.def_ 1 rfl
  have H_Road_facts : Mth (TT K) P w K mg base C_Road "facts" 1 ["self"] m_Road_facts := ⟨⟨_, _, meth_ok (c.fact 3 rfl), F_Road_facts.bindsN (fun _ _ _ _ _ _ us hl => match us, hl with | [_], _ => rfl), ok_Road_facts⟩, fldOf_no (by decide +kernel)⟩
  have fr_isinstance : mg "isinstance" = none := free_ok X G (c.fact 4 rfl)
  have c_Road : mg "Road" = some (.ref ((TT K).cls C_Road)) := glo_ok X G (c.fact 5 rfl)
  have ko_Road : ∀ t b, qo_Road t = some b → PySem.W.kitOne K (t.val (TT K)) (.ref ((TT K).cls C_Road)) = some b := kitB_own (c.fact 6 rfl)
  have ok_Road___eq__ := w_Road___eq__ (P := P) (w := w) (mg := mg) (base := base) (cls := gaAt K cn) (exc := gaAt K xn) F_Road___eq__ H_Road_facts ok fr_isinstance ti c_Road ko_Road
  obtain ⟨fd_Tree_facts, F_Tree_facts⟩ := c.def_ 2 rfl
  have ok_Tree_facts := w_Tree_facts (P := P) (w := w) (mg := mg) (base := base) (cls := gaAt K cn) (exc := gaAt K xn) F_Tree_facts ok
  obtain ⟨fd_Tree___eq__, F_Tree___eq__⟩ := c.def_ 3 rfl
  have H_Tree_facts : Mth (TT K) P w K mg base C_Tree "facts" 1 ["self"] m_Tree_facts := ⟨⟨_, _, meth_ok (c.fact 7 rfl), F_Tree_facts.bindsN (fun _ _ _ _ _ _ us hl => match us, hl with | [_], _ => rfl), ok_Tree_facts⟩, fldOf_no (by decide +kernel)⟩
  have oe_Road : ∀ L, 9 ≤ L → OwnE (TT K) P w K mg base L 0 q_Road := fun L hL => ownE_of (mf := m_Road_facts) (me := m_Road___eq__) rfl rfl rfl (by decide) rfl (meth_ok (c.fact 9 rfl)) (F_Road___eq__.bindsN (fun _ _ _ _ _ _ us hl => match us, hl with | [_, _], _ => rfl)) ok_Road___eq__ hL (c.fact 8 rfl) (fun c q h => by cases h)
  have own1 : ∀ c q, S1 c = some q → OwnE (TT K) P w K mg base 9 c q := fun c q h => by
    unfold S1 at h
    split at h
    · cases h; exact oe_Road _ (by decide)
    · cases h
  have c_Tree : mg "Tree" = some (.ref ((TT K).cls C_Tree)) := glo_ok X G (c.fact 10 rfl)
  have ko_Tree : ∀ t b, qo_Tree t = some b → PySem.W.kitOne K (t.val (TT K)) (.ref ((TT K).cls C_Tree)) = some b := kitB_own (c.fact 11 rfl)
  have ok_Tree___eq__ := w_Tree___eq__ (P := P) (w := w) (mg := mg) (base := base) (cls := gaAt K cn) (exc := gaAt K xn) F_Tree___eq__ H_Tree_facts ok own1 fr_isinstance ti c_Tree ko_Tree
  obtain ⟨fd_Road___init__, F_Road___init__⟩ := c.def_ 4 rfl
  have ok_Road___init__ := w_Road___init__ (P := P) (w := w) (mg := mg) (base := base) (cls := gaAt K cn) (exc := gaAt K xn) F_Road___init__ ok
  obtain ⟨fd__law_draw, F__law_draw⟩ := c.def_ 5 rfl
  have ok__law_draw := w__law_draw (P := P) (w := w) (mg := mg) (base := base) (cls := gaAt K cn) (exc := gaAt K xn) F__law_draw 
  obtain ⟨fd__law_joined, F__law_joined⟩ := c.def_ 6 rfl
  have oe_Tree : ∀ L, 18 ≤ L → OwnE (TT K) P w K mg base L 1 q_Tree := fun L hL => ownE_of (mf := m_Tree_facts) (me := m_Tree___eq__) rfl rfl rfl (by decide) rfl (meth_ok (c.fact 13 rfl)) (F_Tree___eq__.bindsN (fun _ _ _ _ _ _ us hl => match us, hl with | [_, _], _ => rfl)) ok_Tree___eq__ hL (c.fact 12 rfl) (fun c q h => ((own1 c q h).same))
  have own2 : ∀ c q, S2 c = some q → OwnE (TT K) P w K mg base 18 c q := fun c q h => by
    unfold S2 at h
    split at h
    · cases h; exact oe_Road _ (by decide)
    · cases h; exact oe_Tree _ (by decide)
    · cases h
  have fr_len : mg "len" = none := free_ok X G (c.fact 14 rfl)
  have ok__law_joined := w__law_joined (P := P) (w := w) (mg := mg) (base := base) (cls := gaAt K cn) (exc := gaAt K xn) F__law_joined own2 fr_len
  obtain ⟨fd__law_due, F__law_due⟩ := c.def_ 7 rfl
  have fr_enumerate : mg "enumerate" = none := free_ok X G (c.fact 15 rfl)
  have G__law_joined : Fn (TT K) P w K mg base "_law_joined" 27 ["_law_facts", "_law_one", "_law_other"] m__law_joined := ⟨_, _, glo_ok X G (c.fact 16 rfl), F__law_joined.kp, F__law_joined.bindsN (fun _ _ _ _ _ _ us hl => match us, hl with | [_, _, _], _ => rfl), ok__law_joined⟩
  have ok__law_due := w__law_due (P := P) (w := w) (mg := mg) (base := base) (cls := gaAt K cn) (exc := gaAt K xn) F__law_due fr_enumerate G__law_joined own2 fr_len
  obtain ⟨fd_roads_at, F_roads_at⟩ := c.def_ 8 rfl
  have ok_roads_at := w_roads_at (P := P) (w := w) (mg := mg) (base := base) (cls := gaAt K cn) (exc := gaAt K xn) F_roads_at fr_enumerate ok own2
  obtain ⟨fd_ways_from, F_ways_from⟩ := c.def_ 9 rfl
  have G_roads_at : Fn (TT K) P w K mg base "roads_at" 27 ["tree", "crossing"] m_roads_at := ⟨_, _, glo_ok X G (c.fact 17 rfl), F_roads_at.kp, F_roads_at.bindsN (fun _ _ _ _ _ _ us hl => match us, hl with | [_, _], _ => rfl), ok_roads_at⟩
  have ok_ways_from := w_ways_from (P := P) (w := w) (mg := mg) (base := base) (cls := gaAt K cn) (exc := gaAt K xn) F_ways_from own2 G_roads_at
  obtain ⟨fd_Tree___init__, F_Tree___init__⟩ := c.def_ 10 rfl
  have fr_range : mg "range" = none := free_ok X G (c.fact 18 rfl)
  have G_ways_from : Fn (TT K) P w K mg base "ways_from" 28 ["tree", "crossing"] m_ways_from := ⟨_, _, glo_ok X G (c.fact 19 rfl), F_ways_from.kp, F_ways_from.bindsN (fun _ _ _ _ _ _ us hl => match us, hl with | [_, _], _ => rfl), ok_ways_from⟩
  obtain ⟨fd_RingRoad___init__, F_RingRoad___init__⟩ := c.def_ 11 rfl
  have R_RingRoad : Err (TT K) P w K mg base "RingRoad" X_RingRoad 2 [F_road] := by
    have sc : FnScope ["self", "road"] ["self", "road"] (defScope (inClass (top 5) 0)) := ⟨rfl, rfl, rfl, by decide +kernel, rfl, by decide +kernel, by decide +kernel⟩
    have e := excB_ok X hn (List.all_eq_true.mp hxs "RingRoad" (by decide +kernel))
    have ei := ba (c.fact 20 rfl)
    refine ⟨glo_ok X G (c.fact 21 rfl), e.1, ⟨_, _, ["self", "road"], de ei.1, de ei.2, F_RingRoad___init__.bindsN (fun _ _ _ _ _ _ us hl => match us, hl with | [_, _], _ => rfl), .inl ⟨_, rfl, init1 F_RingRoad___init__ sc rfl ?_⟩⟩, ?_⟩
    · exact fun cdv A outer s H E hr => ps_ost (pv 0) (pv 1) rfl
    · intro i hi; exact e.2.2.2 _ (fldOf_mem (by revert i; decide))
  have g_MOST_LENGTH : ∃ t, mg "MOST_LENGTH" = some (.int 1000000000 t) := int_ok X G (c.fact 22 rfl)
  obtain ⟨fd_BadCount___init__, F_BadCount___init__⟩ := c.def_ 12 rfl
  have R_BadCount : Err (TT K) P w K mg base "BadCount" X_BadCount 2 [F_what, F_count] := by
    have sc : FnScope ["self", "what", "count"] ["self", "what", "count"] (defScope (inClass (top 3) 0)) := ⟨rfl, rfl, rfl, by decide +kernel, rfl, by decide +kernel, by decide +kernel⟩
    have e := excB_ok X hn (List.all_eq_true.mp hxs "BadCount" (by decide +kernel))
    have ei := ba (c.fact 23 rfl)
    refine ⟨glo_ok X G (c.fact 24 rfl), e.1, ⟨_, _, ["self", "what", "count"], de ei.1, de ei.2, F_BadCount___init__.bindsN (fun _ _ _ _ _ _ us hl => match us, hl with | [_, _, _], _ => rfl), .inr ⟨_, _, rfl, init2 F_BadCount___init__ sc rfl ?_ ?_⟩⟩, ?_⟩
    · exact fun cdv A outer s H E hr => ps_ost (pv 0) (pv 1) rfl
    · exact fun cdv A outer s H E hr => ps_ost (pv 0) (pv 2) rfl
    · intro i hi; exact e.2.2.2 _ (fldOf_mem (by revert i; decide))
  obtain ⟨fd_NoCrossing___init__, F_NoCrossing___init__⟩ := c.def_ 13 rfl
  have R_NoCrossing : Err (TT K) P w K mg base "NoCrossing" X_NoCrossing 2 [F_crossing] := by
    have sc : FnScope ["self", "crossing"] ["self", "crossing"] (defScope (inClass (top 4) 0)) := ⟨rfl, rfl, rfl, by decide +kernel, rfl, by decide +kernel, by decide +kernel⟩
    have e := excB_ok X hn (List.all_eq_true.mp hxs "NoCrossing" (by decide +kernel))
    have ei := ba (c.fact 25 rfl)
    refine ⟨glo_ok X G (c.fact 26 rfl), e.1, ⟨_, _, ["self", "crossing"], de ei.1, de ei.2, F_NoCrossing___init__.bindsN (fun _ _ _ _ _ _ us hl => match us, hl with | [_, _], _ => rfl), .inl ⟨_, rfl, init1 F_NoCrossing___init__ sc rfl ?_⟩⟩, ?_⟩
    · exact fun cdv A outer s H E hr => ps_ost (pv 0) (pv 1) rfl
    · intro i hi; exact e.2.2.2 _ (fldOf_mem (by revert i; decide))
  have fr_list : mg "list" = none := free_ok X G (c.fact 27 rfl)
  have g_LEAST_CROSSINGS : ∃ t, mg "LEAST_CROSSINGS" = some (.int 2 t) := int_ok X G (c.fact 28 rfl)
  have g_MOST_CROSSINGS : ∃ t, mg "MOST_CROSSINGS" = some (.int 24 t) := int_ok X G (c.fact 29 rfl)
  have fr_tuple : mg "tuple" = none := free_ok X G (c.fact 30 rfl)
  have ok_Tree___init__ := w_Tree___init__ (P := P) (w := w) (mg := mg) (base := base) (cls := gaAt K cn) (exc := gaAt K xn) F_Tree___init__ ok fr_range G_ways_from fr_enumerate own2 R_RingRoad g_MOST_LENGTH R_BadCount R_NoCrossing fr_list fr_len g_LEAST_CROSSINGS g_MOST_CROSSINGS fr_tuple
  obtain ⟨fd__law_said, F__law_said⟩ := c.def_ 14 rfl
  have M_Tree : Mkr (TT K) P w K mg base "Tree" C_Tree 29 ["self", "crossings", "roads"] m_Tree___init__ := ⟨_, _, glo_ok X G (c.fact 10 rfl), mkr_ok (c.fact 31 rfl), F_Tree___init__.bindsN (fun _ _ _ _ _ _ us hl => match us, hl with | [_, _, _], _ => rfl), ok_Tree___init__⟩
  have fr_ValueError : mg "ValueError" = none := free_ok X G (c.fact 32 rfl)
  have kv_ValueError : ∀ c b, qx_ValueError c = some b → PySem.W.kitOne K (.ref ((TT K).exc c)) (.type "ValueError") = some b := kexV_k (c.fact 33 rfl)
  have kt_NoRoad_OffRoad : ∀ c b, qx_NoRoad_OffRoad c = some b → PySem.W.kitAny K (.ref ((TT K).exc c)) [.ref ((TT K).exc X_NoRoad), .ref ((TT K).exc X_OffRoad)] = some b := kexT_k (c.fact 34 rfl)
  have x_OffRoad : mg "OffRoad" = some (.ref ((TT K).exc X_OffRoad)) := glo_ok X G (c.fact 35 rfl)
  have x_NoRoad : mg "NoRoad" = some (.ref ((TT K).exc X_NoRoad)) := glo_ok X G (c.fact 36 rfl)
  have x_RingRoad : mg "RingRoad" = some (.ref ((TT K).exc X_RingRoad)) := glo_ok X G (c.fact 21 rfl)
  have kx_RingRoad : ∀ c b, qx_RingRoad c = some b → PySem.W.kitOne K (.ref ((TT K).exc c)) (.ref ((TT K).exc X_RingRoad)) = some b := kexB_k (c.fact 37 rfl)
  have x_NoCrossing : mg "NoCrossing" = some (.ref ((TT K).exc X_NoCrossing)) := glo_ok X G (c.fact 26 rfl)
  have kx_NoCrossing : ∀ c b, qx_NoCrossing c = some b → PySem.W.kitOne K (.ref ((TT K).exc c)) (.ref ((TT K).exc X_NoCrossing)) = some b := kexB_k (c.fact 38 rfl)
  have x_BadCount : mg "BadCount" = some (.ref ((TT K).exc X_BadCount)) := glo_ok X G (c.fact 24 rfl)
  have kx_BadCount : ∀ c b, qx_BadCount c = some b → PySem.W.kitOne K (.ref ((TT K).exc c)) (.ref ((TT K).exc X_BadCount)) = some b := kexB_k (c.fact 39 rfl)
  have x_TrainError : mg "TrainError" = some (.ref ((TT K).exc X_TrainError)) := glo_ok X G (c.fact 40 rfl)
  have ex_TrainError : ∀ c b, qx_TrainError c = some b → PySem.W.exmOne K (.ref ((TT K).exc c)) (.ref ((TT K).exc X_TrainError)) = some b := kexB_x (c.fact 41 rfl)
  have ok__law_said := w__law_said (P := P) (w := w) (mg := mg) (base := base) (cls := gaAt K cn) (exc := gaAt K xn) F__law_said M_Tree tx fr_isinstance fr_ValueError kv_ValueError kt_NoRoad_OffRoad x_OffRoad x_NoRoad x_RingRoad kx_RingRoad x_NoCrossing kx_NoCrossing x_BadCount kx_BadCount x_TrainError ex_TrainError
  obtain ⟨fd__law_source, F__law_source⟩ := c.def_ 15 rfl
  have fr_abs : mg "abs" = none := free_ok X G (c.fact 42 rfl)
  have ok__law_source := w__law_source (P := P) (w := w) (mg := mg) (base := base) (cls := gaAt K cn) (exc := gaAt K xn) F__law_source fr_abs
  obtain ⟨fd__law_pick, F__law_pick⟩ := c.def_ 16 rfl
  have G__law_draw : Fn (TT K) P w K mg base "_law_draw" 1 ["_law_source_here", "_law_many"] m__law_draw := ⟨_, _, glo_ok X G (c.fact 43 rfl), F__law_draw.kp, F__law_draw.bindsN (fun _ _ _ _ _ _ us hl => match us, hl with | [_, _], _ => rfl), ok__law_draw⟩
  have ok__law_pick := w__law_pick (P := P) (w := w) (mg := mg) (base := base) (cls := gaAt K cn) (exc := gaAt K xn) F__law_pick G__law_draw fr_len
  obtain ⟨fd__law_spoilt, F__law_spoilt⟩ := c.def_ 17 rfl
  have G__law_pick : Fn (TT K) P w K mg base "_law_pick" 2 ["_law_source_here", "_law_some"] m__law_pick := ⟨_, _, glo_ok X G (c.fact 44 rfl), F__law_pick.kp, F__law_pick.bindsN (fun _ _ _ _ _ _ us hl => match us, hl with | [_, _], _ => rfl), ok__law_pick⟩
  have ok__law_spoilt := w__law_spoilt (P := P) (w := w) (mg := mg) (base := base) (cls := gaAt K cn) (exc := gaAt K xn) F__law_spoilt G__law_pick G__law_draw own2 fr_len
  obtain ⟨fd__law_shuffled, F__law_shuffled⟩ := c.def_ 18 rfl
  have ok__law_shuffled := w__law_shuffled (P := P) (w := w) (mg := mg) (base := base) (cls := gaAt K cn) (exc := gaAt K xn) F__law_shuffled own2 G__law_draw fr_len fr_list
  obtain ⟨fd__law_tree, F__law_tree⟩ := c.def_ 19 rfl
  have G__law_shuffled : Fn (TT K) P w K mg base "_law_shuffled" 27 ["_law_source_here", "_law_some"] m__law_shuffled := ⟨_, _, glo_ok X G (c.fact 45 rfl), F__law_shuffled.kp, F__law_shuffled.bindsN (fun _ _ _ _ _ _ us hl => match us, hl with | [_, _], _ => rfl), ok__law_shuffled⟩
  have ok__law_tree := w__law_tree (P := P) (w := w) (mg := mg) (base := base) (cls := gaAt K cn) (exc := gaAt K xn) F__law_tree G__law_shuffled fr_range G__law_pick G__law_draw own2 fr_list
  have G__law_said : Fn (TT K) P w K mg base "_law_said" 31 ["_law_many", "_law_roads_so"] m__law_said := ⟨_, _, glo_ok X G (c.fact 46 rfl), F__law_said.kp, F__law_said.bindsN (fun _ _ _ _ _ _ us hl => match us, hl with | [_, _], _ => rfl), ok__law_said⟩
  have G__law_due : Fn (TT K) P w K mg base "_law_due" 28 ["_law_many", "_law_facts"] m__law_due := ⟨_, _, glo_ok X G (c.fact 47 rfl), F__law_due.kp, F__law_due.bindsN (fun _ _ _ _ _ _ us hl => match us, hl with | [_, _], _ => rfl), ok__law_due⟩
  have M_Road : Mkr (TT K) P w K mg base "Road" C_Road 1 ["self", "a", "b", "length"] m_Road___init__ := ⟨_, _, glo_ok X G (c.fact 5 rfl), mkr_ok (c.fact 48 rfl), F_Road___init__.bindsN (fun _ _ _ _ _ _ us hl => match us, hl with | [_, _, _, _], _ => rfl), ok_Road___init__⟩
  have G__law_spoilt : Fn (TT K) P w K mg base "_law_spoilt" 27 ["_law_source_here", "_law_many", "_law_facts"] m__law_spoilt := ⟨_, _, glo_ok X G (c.fact 49 rfl), F__law_spoilt.kp, F__law_spoilt.bindsN (fun _ _ _ _ _ _ us hl => match us, hl with | [_, _, _], _ => rfl), ok__law_spoilt⟩
  have G__law_tree : Fn (TT K) P w K mg base "_law_tree" 28 ["_law_source_here", "_law_most", "_law_long"] m__law_tree := ⟨_, _, glo_ok X G (c.fact 50 rfl), F__law_tree.kp, F__law_tree.bindsN (fun _ _ _ _ _ _ us hl => match us, hl with | [_, _, _], _ => rfl), ok__law_tree⟩
  have G__law_source : Fn (TT K) P w K mg base "_law_source" 1 ["_law_cell"] m__law_source := ⟨_, _, glo_ok X G (c.fact 51 rfl), F__law_source.kp, F__law_source.bindsN (fun _ _ _ _ _ _ us hl => match us, hl with | [_], _ => rfl), ok__law_source⟩
  have ok_law := w_law (P := P) (w := w) (mg := mg) (base := base) (cls := gaAt K cn) (exc := gaAt K xn) F_law fr_range G__law_said fr_tuple G__law_due own2 fr_list M_Road G__law_draw G__law_spoilt G__law_tree G__law_source
  exact ok_law
end HT

open PySem PySem.W PySem.Calls PyProof.Rows
theorem PySem.Challenge.cw_onetrain_k02_trees_refused_holds : PySem.Challenge.rw_onetrain_k02_trees_refused.Holds := by
  w_on; o_law
  refine HandSHeadRun.head_any (r := OpenLaw.row PySem.Challenge.rw_onetrain_k02_trees_refused) (q := view (OpenLaw.row PySem.Challenge.rw_onetrain_k02_trees_refused).prog [26]) (H := HT.hk) (ob := HT.ob) (M := 9000) (loose := HT.loose) (d := HandSHeadRun.topDef (OpenLaw.row PySem.Challenge.rw_onetrain_k02_trees_refused).prog 26) (kwd := []) HT.ob_eq
    (by kernel_rfl) (fun s => by kernel_rfl) HT.run (by kernel_rfl) (by kernel_rfl) (by kernel_rfl) (by rfl) (by first | assumption | decide +kernel) (by decide +kernel) ⟨rfl, rfl, rfl, rfl, rfl, by decide +kernel⟩ ?hw ?hc
  case hw => w_witness2
  case hc =>
    refine DL.walk_ofW (l := PySem.Challenge.rw_onetrain_k02_trees_refused) (n := 63) (k := 32) (x := "_law_script") rfl (by decide) (by kernel_rfl) ⟨rfl, by decide, by decide⟩ ?F
    intro w mg fa h Y G hmg0
    obtain ⟨K, KX, c⟩ := Y
    have hmg : mg ("law" : PySem.Str) = some (.ref fa) := by
      have e : (HandSHeadRun.topDef (OpenLaw.row PySem.Challenge.rw_onetrain_k02_trees_refused).prog 26).name = ("law" : PySem.Str) := by kernel_rfl
      rw [← e]
      exact hmg0
    obtain ⟨fd, F⟩ := c.def_ 20 rfl
    have e := hmg.symm.trans (He.glo_ok KX G (c.fact 52 (f := (He.Fa.ok · (.glo "law"))) rfl))
    cases e
    have b := L2.FunD.bindsA (ps := ["_law_script"]) F fun _ _ _ _ _ _ us hl => match us, hl with | [_], _ => rfl
    exact ⟨K, fd, DL.spD (HT.TT K) K HT.m_law, KX, fun s u => b s [u] rfl, fun H a ns hl _ hS => DL.law_sp (HT.law_true ns hl) hS, fun base _ _ => HT.facts KX G c F⟩

import PyProof.Rows.All
import Wide.All
import OpenK.AllK
import Wide.FinOn
import HandS.ForMost
import HandS.Exc
import HandS.ExcOwn
import HandS.WordsExc
import HandS.TupAny
import KE.KDictKeyed
import HandS.IsInst
import HandS.Conv
import HandS.TupMul
import HandS.TupLe
import HandS.Style
import HandS.Zip
import KE.SortData
import HandS.SortOrd
import HandS.Strs
import HandS.SetFor
import HandS.Small
import HandS.More
import HandS.Sort
import KE.KDictList
import KE.GoesMore
import KE.KDictPairs
import PyProof.Draws
import KE.KDictZip
import PySem.Challenge.RW_pointsat_k11_whole_scripts_that_do_moves
set_option Elab.async false
set_option linter.all false
set_option maxRecDepth 100000
set_option maxHeartbeats 8000000
/-! The D layer, 1: data, what represents it in the abstract heap, states of slots, readings that compute. -/
namespace DL
open PySem L2

/-- Python data by value; ref: an object by its address; dcn: a dict whose keys are (nested) tuples; ins: an instance that stays as it is; scr: the script; prt: a pair that a walk makes on the way -/
inductive D where
  | non | bl (b : Bool) | int (i : Int) | str (s : Str) | ref (a : Addr)
  | tup (xs : List D) | prt (xs : List D) | lst (xs : List D) | dct (kvs : List (D × D)) | dcn (kvs : List (D × D)) | ty (n : String) | ins (C : Addr) (fs : List (Str × D)) | scr (ns : List Int)

def keyD : D → Option Key
  | .int i => some (.inl i)
  | .str s => some (.inr s)
  | _ => none

mutual
def nkD : D → Option NestedKey
  | .non => some .none
  | .bl b => some (.num (if b then 1 else 0))
  | .int i => some (.num i)
  | .tup ds => (nksD ds).map .tup
  | _ => none
def nksD : List D → Option (List NestedKey)
  | [] => some []
  | d :: ds => match nkD d, nksD ds with
    | some k, some ks => some (k :: ks)
    | _, _ => none
end

/-- an entry of a dict with tuple keys: hash, key's address, value -/
abbrev NEnt := Int × Addr × V
def dnO (a : Addr) (es : List NEnt) : HO := .ext fun h => (a == sysModules) = false ∧ es.length ≤ sizeLine ∧
  ∃ (o : Obj) (ents : Array DictEntry) (ep : Nat) (us : List Value), h.get? a = some o ∧ o.ExactDict ∧ o.data = .dict ents ep ∧ Vals (es.map (·.2.2)) us ∧
    ents.toList = List.zipWith (fun (e : NEnt) u => (⟨e.1, .ref e.2.1, u⟩ : DictEntry)) es us

/-- a tuple that is a plain one (no namespace of its own): locked with its object, or written -/
def ExT (K : PySem.W.Frag) (H : Hp) (a : Addr) (vs : List V) : Prop := (∃ o, H a = some (.frz o (.tup vs)) ∧ o.dict = none) ∨
  ∃ (o : Obj) (its : Array Value) (n : Nat), K.lookup a = some o ∧ o.cls = .type "tuple" ∧ o.dict = none ∧ o.data = .seq its n ∧ its.size ≤ sizeLine ∧ Vals vs its.toList
theorem ExT.sqT {K : PySem.W.Frag} {H : Hp} {a : Addr} {vs : List V} (h : ExT K H a vs) : SqT K H a vs := by
  rcases h with ⟨o, h, _⟩ | ⟨o, its, n, h1, h2, _, h3, h4, h5⟩
  · exact .inl (.inr ⟨o, h⟩)
  · exact .inr ⟨o, its, n, h1, h2, h3, h4, h5⟩
mutual
def Rep (K : PySem.W.Frag) (H : Hp) : D → V → Prop
  | .non, v => v = .non
  | .bl b, v => v = .bl b
  | .int i, v => v = .int i
  | .str s, v => v = .str s
  | .ref a, v => v = .ref a
  | .ty n, v => v = .ty n
  | .tup ds, v => ∃ a vs, v = .ref a ∧ ExT K H a vs ∧ Reps K H ds vs
  | .prt ds, v => ∃ a vs, v = .ref a ∧ SqT K H a vs ∧ Reps K H ds vs
  | .lst ds, v => ∃ a vs, v = .ref a ∧ H a = some (.lst vs) ∧ Reps K H ds vs
  | .dct kvs, v => ∃ a o vs, v = .ref a ∧ H a = some (.frz o (.dK vs)) ∧ Repk K H kvs vs
  | .dcn kvs, v => ∃ a es, v = .ref a ∧ Rd H a (dnO a es) ∧ Repn K H kvs es
  | .ins C fs, v => ∃ a dx vs, v = .ref a ∧ H a = some (.ins C dx vs) ∧ Repf K H fs vs
  | .scr ns, v => ∃ a, v = .ref a ∧ SqL K H a (ns.map V.int)
def Reps (K : PySem.W.Frag) (H : Hp) : List D → List V → Prop
  | [], vs => vs = []
  | d :: ds, vs => ∃ v r, vs = v :: r ∧ Rep K H d v ∧ Reps K H ds r
def Repk (K : PySem.W.Frag) (H : Hp) : List (D × D) → List (Key × V) → Prop
  | [], vs => vs = []
  | (k, d) :: ds, vs => ∃ k' v r, vs = (k', v) :: r ∧ keyD k = some k' ∧ Rep K H d v ∧ Repk K H ds r
def Repn (K : PySem.W.Frag) (H : Hp) : List (D × D) → List NEnt → Prop
  | [], es => es = []
  | (k, d) :: ds, es => ∃ hs b v r nk, es = (hs, b, v) :: r ∧ nkD k = some nk ∧ (∀ w : World, nk.hash w = hs) ∧ Rep K H k (.ref b) ∧ Rep K H d v ∧ Repn K H ds r
def Repf (K : PySem.W.Frag) (H : Hp) : List (Str × D) → List (Str × V) → Prop
  | [], vs => vs = []
  | (k, d) :: ds, vs => ∃ v r, vs = (k, v) :: r ∧ Rep K H d v ∧ Repf K H ds r
end

section
variable {K : PySem.W.Frag} {H H' : Hp}
theorem Same.rd (e : Same H H') {a : Addr} {u : HO} (h : Rd H a u) : Rd H' a u := by
  rcases h with h | ⟨o, h⟩
  · exact .inl (e _ _ h)
  · exact .inr ⟨o, e _ _ h⟩
theorem Same.sqT (e : Same H H') {a : Addr} {xs : List V} (h : SqT K H a xs) : SqT K H' a xs := by
  rcases h with h | h
  · exact .inl (Same.rd e h)
  · exact .inr h
theorem Same.sqL (e : Same H H') {a : Addr} {xs : List V} (h : SqL K H a xs) : SqL K H' a xs := by
  rcases h with h | h
  · exact .inl (Same.rd e h)
  · exact .inr h
theorem Same.exT (e : Same H H') {a : Addr} {xs : List V} (h : ExT K H a xs) : ExT K H' a xs := by
  rcases h with ⟨o, h, ho⟩ | h
  · exact .inl ⟨o, e _ _ h, ho⟩
  · exact .inr h
mutual
theorem Rep.mono (e : Same H H') : ∀ {d : D} {v : V}, Rep K H d v → Rep K H' d v
  | .non, _, h => h
  | .bl _, _, h => h
  | .int _, _, h => h
  | .str _, _, h => h
  | .ref _, _, h => h
  | .ty _, _, h => h
  | .tup ds, v, h => by
    unfold Rep at h ⊢
    obtain ⟨a, vs, h1, h2, h3⟩ := h
    exact ⟨a, vs, h1, Same.exT e h2, Reps.mono e h3⟩
  | .prt ds, v, h => by
    unfold Rep at h ⊢
    obtain ⟨a, vs, h1, h2, h3⟩ := h
    exact ⟨a, vs, h1, Same.sqT e h2, Reps.mono e h3⟩
  | .lst ds, v, h => by
    unfold Rep at h ⊢
    obtain ⟨a, vs, h1, h2, h3⟩ := h
    exact ⟨a, vs, h1, e _ _ h2, Reps.mono e h3⟩
  | .dct ds, v, h => by
    unfold Rep at h ⊢
    obtain ⟨a, o, vs, h1, h2, h3⟩ := h
    exact ⟨a, o, vs, h1, e _ _ h2, Repk.mono e h3⟩
  | .dcn ds, v, h => by
    unfold Rep at h ⊢
    obtain ⟨a, vs, h1, h2, h3⟩ := h
    exact ⟨a, vs, h1, Same.rd e h2, Repn.mono e h3⟩
  | .ins C ds, v, h => by
    unfold Rep at h ⊢
    obtain ⟨a, dx, vs, h1, h2, h3⟩ := h
    exact ⟨a, dx, vs, h1, e _ _ h2, Repf.mono e h3⟩
  | .scr ns, v, h => by
    unfold Rep at h ⊢
    obtain ⟨a, h1, h2⟩ := h
    exact ⟨a, h1, Same.seq e h2⟩
theorem Reps.mono (e : Same H H') : ∀ {d : List D} {v : List V}, Reps K H d v → Reps K H' d v
  | [], _, h => h
  | d :: ds, v, h => by
    unfold Reps at h ⊢
    obtain ⟨a, vs, h1, h2, h3⟩ := h
    exact ⟨a, vs, h1, Rep.mono e h2, Reps.mono e h3⟩
theorem Repk.mono (e : Same H H') : ∀ {d : List (D × D)} {v : List (Key × V)}, Repk K H d v → Repk K H' d v
  | [], _, h => h
  | (k, d) :: ds, v, h => by
    unfold Repk at h ⊢
    obtain ⟨k', a, vs, h1, h2, h3, h4⟩ := h
    exact ⟨k', a, vs, h1, h2, Rep.mono e h3, Repk.mono e h4⟩
theorem Repn.mono (e : Same H H') : ∀ {d : List (D × D)} {v : List NEnt}, Repn K H d v → Repn K H' d v
  | [], _, h => h
  | (k, d) :: ds, v, h => by
    unfold Repn at h ⊢
    obtain ⟨hs, b, v, r, nk, h1, h2, h3, h4, h5, h6⟩ := h
    exact ⟨hs, b, v, r, nk, h1, h2, h3, Rep.mono e h4, Rep.mono e h5, Repn.mono e h6⟩
theorem Repf.mono (e : Same H H') : ∀ {d : List (Str × D)} {v : List (Str × V)}, Repf K H d v → Repf K H' d v
  | [], _, h => h
  | (k, d) :: ds, v, h => by
    unfold Repf at h ⊢
    obtain ⟨a, vs, h1, h2, h3⟩ := h
    exact ⟨a, vs, h1, Rep.mono e h2, Repf.mono e h3⟩
end
end

theorem rdSeq {K : PySem.W.Frag} {Hf H : Hp} {a : Addr} {vs : List V} (s : Same Hf H) (g : Rd Hf a (.lst vs)) : SqL K H a vs := .inl (Same.rd s g)

/-! ### slots -/
/-- u: no value; v: data that stays; o: a list or dict of this frame's own; p: one that a caller lent to be changed -/
inductive Sl where
  | u | v (d : D) | o (d : D) | p (d : D)
abbrev Ro := List Sl

/-- the owned object at a -/
def RepO (K : PySem.W.Frag) (Hf H : Hp) : D → Addr → Prop
  | .lst ds, a => ∃ vs, H a = some (.lst vs) ∧ Reps K Hf ds vs
  | .dct kvs, a => ∃ vs, H a = some (.dK vs) ∧ Repk K Hf kvs vs
  | .dcn kvs, a => ∃ es, H a = some (dnO a es) ∧ Repn K Hf kvs es
  | _, _ => False
theorem RepO.mono {K : PySem.W.Frag} {Hf Hf' H H' : Hp} {d : D} {a : Addr} (e : Same Hf Hf') (ea : H' a = H a) (h : RepO K Hf H d a) : RepO K Hf' H' d a := by
  cases d with
  | lst ds => obtain ⟨vs, h1, h2⟩ := h; exact ⟨vs, by rw [ea]; exact h1, Reps.mono e h2⟩
  | dct ds => obtain ⟨vs, h1, h2⟩ := h; exact ⟨vs, by rw [ea]; exact h1, Repk.mono e h2⟩
  | dcn ds => obtain ⟨vs, h1, h2⟩ := h; exact ⟨vs, by rw [ea]; exact h1, Repn.mono e h2⟩
  | _ => exact h.elim
theorem RepO.there {K : PySem.W.Frag} {Hf H : Hp} {d : D} {a : Addr} (h : RepO K Hf H d a) : H a ≠ none := by
  cases d with
  | lst ds => obtain ⟨vs, h1, h2⟩ := h; rw [h1]; simp
  | dct ds => obtain ⟨vs, h1, h2⟩ := h; rw [h1]; simp
  | dcn ds => obtain ⟨vs, h1, h2⟩ := h; rw [h1]; simp
  | _ => exact h.elim

/-- slot i of a state holds an owned object at a -/
def OwnAt (σ : L2.St) (ρ : Ro) (i : Nat) (a : Addr) : Prop := σ[i]? = some (some (V.ref a)) ∧ ∃ d, ρ[i]? = some (Sl.o d) ∨ ρ[i]? = some (Sl.p d)
def OA (σ : L2.St) (ρ : Ro) (a : Addr) : Prop := ∃ i, OwnAt σ ρ i a
def OO (σ : L2.St) (ρ : Ro) (a : Addr) : Prop := ∃ (i : Nat) (d : D), σ[i]? = some (some (V.ref a)) ∧ ρ[i]? = some (Sl.o d)
theorem OO.oa {σ : L2.St} {ρ : Ro} {a : Addr} (h : OO σ ρ a) : OA σ ρ a := let ⟨i, d, h1, h2⟩ := h; ⟨i, h1, d, .inl h2⟩

structure SR (K : PySem.W.Frag) (Hf : Hp) (σ : L2.St) (ρ : Ro) (H : Hp) : Prop where
  sub : Same Hf H
  len : σ.length = ρ.length
  val : ∀ (i : Nat) (d : D), ρ[i]? = some (Sl.v d) → ∃ v, σ[i]? = some (some v) ∧ Rep K Hf d v
  own : ∀ (i : Nat) (d : D), (ρ[i]? = some (Sl.o d) ∨ ρ[i]? = some (Sl.p d)) → ∃ a, σ[i]? = some (some (V.ref a)) ∧ Hf a = none ∧ RepO K Hf H d a
  inj : ∀ (i j : Nat) (a : Addr), OwnAt σ ρ i a → OwnAt σ ρ j a → i = j

theorem SR.oa {K : PySem.W.Frag} {Hf H : Hp} {σ : L2.St} {ρ : Ro} (S : SR K Hf σ ρ H) {a : Addr} (h : OA σ ρ a) : Hf a = none ∧ H a ≠ none := by
  obtain ⟨i, h1, d, h2⟩ := h
  obtain ⟨b, e, n, r⟩ := S.own i d h2
  rw [h1] at e
  cases e
  exact ⟨n, r.there⟩

/-- from one state to a later one -/
structure Stp (Hf : Hp) (σ : L2.St) (ρ : Ro) (H : Hp) (Hf' : Hp) (σ' : L2.St) (ρ' : Ro) (H' : Hp) : Prop where
  fz : Same Hf Hf'
  keep : ∀ b o, H b = some o → ¬ OA σ ρ b → H' b = some o
  there : ∀ b, H b ≠ none → H' b ≠ none
  out : ∀ b, H b ≠ none → Hf b = none → ¬ OO σ ρ b → Hf' b = none
  pin : ∀ (i : Nat) (d : D), ρ[i]? = some (Sl.p d) → (∃ d', ρ'[i]? = some (Sl.p d')) ∧ σ'[i]? = σ[i]?
  pin' : ∀ (i : Nat) (d : D), ρ'[i]? = some (Sl.p d) → ∃ d', ρ[i]? = some (Sl.p d')
  oo : ∀ b, OO σ' ρ' b → H b = none ∨ OO σ ρ b
  len : ρ'.length = ρ.length

theorem Stp.refl {Hf H : Hp} {σ : L2.St} {ρ : Ro} : Stp Hf σ ρ H Hf σ ρ H :=
  ⟨fun _ _ h => h, fun _ _ h _ => h, fun _ h => h, fun _ _ h _ => h, fun i d h => ⟨⟨d, h⟩, rfl⟩, fun i d h => ⟨d, h⟩, fun _ h => .inr h, rfl⟩
theorem Stp.oa {Hf H Hf' H' : Hp} {σ σ' : L2.St} {ρ ρ' : Ro} (a : Stp Hf σ ρ H Hf' σ' ρ' H') {b : Addr} (h : OA σ' ρ' b) : H b = none ∨ OA σ ρ b := by
  obtain ⟨i, h1, d, h2⟩ := h
  rcases h2 with h2 | h2
  · rcases a.oo b ⟨i, d, h1, h2⟩ with h | h
    · exact .inl h
    · exact .inr h.oa
  · obtain ⟨d', h3⟩ := a.pin' i d h2
    refine .inr ⟨i, ?_, d', .inr h3⟩
    rw [← (a.pin i d' h3).2]
    exact h1
theorem Stp.trans {Hf H Hf1 H1 Hf2 H2 : Hp} {σ σ1 σ2 : L2.St} {ρ ρ1 ρ2 : Ro} (a : Stp Hf σ ρ H Hf1 σ1 ρ1 H1) (b : Stp Hf1 σ1 ρ1 H1 Hf2 σ2 ρ2 H2) : Stp Hf σ ρ H Hf2 σ2 ρ2 H2 where
  fz := Same.trans a.fz b.fz
  keep := fun c o h n => b.keep c o (a.keep c o h n) fun q => by
    rcases a.oa q with q | q
    · rw [h] at q; cases q
    · exact n q
  there := fun c h => b.there c (a.there c h)
  out := fun c h h1 h2 => b.out c (a.there c h) (a.out c h h1 h2) fun q => by
    rcases a.oo c q with q | q
    · exact h q
    · exact h2 q
  pin := fun i d h => by
    obtain ⟨⟨d', h1⟩, h2⟩ := a.pin i d h
    obtain ⟨h3, h4⟩ := b.pin i d' h1
    exact ⟨h3, h4.trans h2⟩
  pin' := fun i d h => by
    obtain ⟨d', h1⟩ := b.pin' i d h
    exact a.pin' i d' h1
  oo := fun c h => by
    rcases b.oo c h with q | q
    · left
      cases e : H c with
      | none => rfl
      | some o => exact absurd q (a.there c (by rw [e]; simp))
    · exact a.oo c q
  len := b.len.trans a.len

/-! ### results -/
/-- an exception: its class's name, its field -/
structure Exc where
  cls : Str
  fld : Option (Str × D)
inductive Res (α : Type) where
  | bad | ok (a : α) (ρ : Ro) | err (x : Exc)
abbrev EM (α : Type) := Ro → Res α
def Res.bind {α β : Type} (r : Res α) (f : α → Ro → Res β) : Res β := match r with
  | .bad => .bad
  | .ok a ρ => f a ρ
  | .err x => .err x
@[reducible] def bindM {α β : Type} (m : EM α) (f : α → EM β) : EM β := fun ρ => (m ρ).bind f
def EX (K : PySem.W.Frag) (mg : Str → Option Value) (x : Exc) (c : Value) (d : Option Addr) (H : Hp) : Prop :=
  ∃ C, mg x.cls = some (.ref C) ∧ c = .ref C ∧ match x.fld with
    | none => d = none
    | some (f, y) => ∃ a v, d = some a ∧ H a = some (.xd [(f, v)]) ∧ Rep K H y v

/-- what is asked of a result -/
def Wp (K : PySem.W.Frag) (mg : Str → Option Value) (W : XK) {α : Type} (r : Res α) (k : α → Ro → Prop) : Prop :=
  match r with
  | .bad => False
  | .ok a ρ' => k a ρ'
  | .err x => ∀ c dd H', EX K mg x c dd H' → W c dd H'
section
variable {K : PySem.W.Frag} {mg : Str → Option Value} {W : XK} {α β : Type}
theorem Wp.mono {r : Res α} {k k' : α → Ro → Prop} (h : Wp K mg W r k) (q : ∀ a ρ', k a ρ' → k' a ρ') : Wp K mg W r k' := by
  cases r with
  | bad => exact h
  | ok a ρ' => exact q a ρ' h
  | err x => exact h
theorem Wp.bind {m : EM α} {f : α → EM β} {ρ : Ro} {k : β → Ro → Prop} (h : Wp K mg W (bindM m f ρ) k) : Wp K mg W (m ρ) fun a ρ1 => Wp K mg W (f a ρ1) k := by
  unfold bindM at h
  cases e : m ρ with
  | bad => rw [e] at h; exact h
  | ok a ρ' => rw [e] at h; exact h
  | err x => rw [e] at h; exact h
end

/-- an expression's reading computes data -/
def TD (K : PySem.W.Frag) (mg : Str → Option Value) (W : XK) (t : TE) (f : EM D) : Prop :=
  ∀ Hf σ ρ H, SR K Hf σ ρ H → ∀ Q : VK, Wp K mg W (f ρ) (fun d ρ' => ∀ v Hf' H', Stp Hf σ ρ H Hf' σ ρ' H' → SR K Hf' σ ρ' H' → Rep K Hf' d v → Q v H') → t σ H Q
/-- a new list or dict, of nobody's yet -/
def TF (K : PySem.W.Frag) (mg : Str → Option Value) (W : XK) (t : TE) (f : EM D) : Prop :=
  ∀ Hf σ ρ H, SR K Hf σ ρ H → ∀ Q : VK, Wp K mg W (f ρ) (fun d ρ' => ∀ a Hf' H', Stp Hf σ ρ H Hf' σ ρ' H' → SR K Hf' σ ρ' H' → H a = none → Hf' a = none → RepO K Hf' H' d a → ¬ OA σ ρ' a → Q (.ref a) H') → t σ H Q
/-- a test -/
def TB (K : PySem.W.Frag) (mg : Str → Option Value) (W : XK) (t : TT) (f : EM Bool) : Prop :=
  ∀ Hf σ ρ H, SR K Hf σ ρ H → ∀ Q : Bool → Hp → Prop, Wp K mg W (f ρ) (fun b ρ' => ∀ Hf' H', Stp Hf σ ρ H Hf' σ ρ' H' → SR K Hf' σ ρ' H' → Q b H') → t σ H Q
structure PD (X : Cx) (W : XK) (e : Expr) (f : EM D) : Prop where
  ex : ∃ t, PE X e t ∧ TD X.K X.mg W t f
structure PF (X : Cx) (W : XK) (e : Expr) (f : EM D) : Prop where
  ex : ∃ t, PE X e t ∧ TF X.K X.mg W t f
structure PB (X : Cx) (W : XK) (e : Expr) (f : EM Bool) : Prop where
  ex : ∃ t, PT X e t ∧ TB X.K X.mg W t f
end DL

/-! The D layer: new tuples are locked with their object (so it is known that they are plain tuples, without a namespace of their own). -/
namespace DL
open PySem L2 PySem.Spec PyProof.Rows HT

section
variable {X : Cx} {es : List Expr} {t : TA} {pos : Pos}
def tTupX (t : TA) : TE := fun σ H Q => t σ H fun xs H1 => xs.length ≤ sizeLine ∧ ∀ p o, H1 p = none → o.dict = none → Q (.ref p) (upd H1 p (.frz o (.tup xs)))
theorem pe_tupX {x1} (h : PA X es t) : PE X (.Tuple es x1 pos) (tTupX t) := by
  refine ⟨fun pins s σ H Q I hq => ?_⟩
  refine wpAny_Tuple_spliced (thn (h.run pos pins s σ H _ I hq) fun us s1 ⟨xs, H1, I1, r, z, q⟩ => ⟨by rw [← r.length]; exact z, ?_⟩)
  have hf : H1 s1.heap.objs.size = none := I1.hok.fresh (Nat.le_refl _)
  refine ⟨.ref s1.heap.objs.size, upd H1 s1.heap.objs.size (.frz _ (.tup xs)), I1.laid (t' := s1.toks) (fun b u e => Heap.get?_push_of_some _ e) (Nat.le_refl _) ⟨Heap.get?_push_size _ rfl, z, us, r, ⟨_, Heap.get?_push_size _ rfl, rfl, _, rfl⟩⟩, rfl, q _ _ hf rfl⟩
/-- t + u -/
def rCatX (K : PySem.W.Frag) : R2 := fun x y H Q => ∃ a b xs ys, x = .ref a ∧ y = .ref b ∧ SqT K H a xs ∧ SqT K H b ys ∧ xs.length + ys.length ≤ sizeLine ∧
  (xs = [] → Q (.ref b) H) ∧ (xs ≠ [] → ys = [] → Q (.ref a) H) ∧ (xs ≠ [] → ys ≠ [] → ∀ p o, H p = none → o.dict = none → Q (.ref p) (upd H p (.frz o (.tup (xs ++ ys)))))
theorem nil_iffV {xs : List V} {us : List Value} (r : Vals xs us) : xs = [] ↔ us = [] := by
  cases r with
  | nil => simp
  | cons _ _ => simp
theorem op_catX : OpR X (binaryOp .Add) (rCatX X.K) := by
  intro pins s σ H x y v u Q I rx ry h
  obtain ⟨a, b, xs, ys, rfl, rfl, ha, hb, hz, q0, q1, q2⟩ := h
  cases rx
  cases ry
  obtain ⟨its, r1, p1, _⟩ := I.tuple ha
  obtain ⟨its2, r2, p2, _⟩ := I.tuple hb
  by_cases hx : xs = []
  · subst hx
    cases r1
    exact cat_tup0 p1 p2 ⟨.ref b, H, I, rfl, q0 rfl⟩
  · refine HT.cat_tup p1 p2 (fun z => hx ((nil_iffV r1).mpr z)) (fun z => ⟨.ref a, H, I, rfl, q1 hx ((nil_iffV r2).mpr z)⟩) (fun z => ?_) (by rw [← r1.length, ← r2.length]; exact hz)
    refine ⟨.ref s.heap.objs.size, _, I.laid (t' := s.toks) (o := .frz _ (.tup (xs ++ ys))) (fun b ob q => Heap.get?_push_of_some _ q) (Nat.le_refl _) ⟨Heap.get?_push_size _ rfl, ?_⟩, rfl, q2 hx (fun w => z ((nil_iffV r2).mp w)) _ _ (I.hok.fresh (Nat.le_refl _)) rfl⟩
    exact ⟨by rw [List.length_append]; exact hz, _, r1.append r2, IsTup.new _ _⟩
/-- t[lo:hi] -/
def rSlTX (K : PySem.W.Frag) : V → Option Int → Option Int → Hp → VK → Prop := fun x lo hi H Q => ∃ a xs, x = .ref a ∧ SqT K H a xs ∧
  (HT.sIx xs.length 0 lo = 0 ∧ HT.sIx xs.length xs.length hi = xs.length → Q (.ref a) H) ∧ (¬ (HT.sIx xs.length 0 lo = 0 ∧ HT.sIx xs.length xs.length hi = xs.length) → ∀ p o, H p = none → o.dict = none → Q (.ref p) (upd H p (.frz o (.tup (cutV xs lo hi)))))
theorem sl_tupX : SlR X (rSlTX X.K) := by
  intro pins s σ H x v vl vu lo hi sl Q I rx hs pl pu h
  obtain ⟨a, xs, rfl, hx, q1, q2⟩ := h
  cases rx
  obtain ⟨its, r, ht, hz⟩ := I.tuple hx
  have hlen : its.toArray.size = xs.length := by rw [List.size_toArray]; exact r.length.symm
  by_cases hw : HT.sIx xs.length 0 lo = 0 ∧ HT.sIx xs.length xs.length hi = xs.length
  · refine ⟨"tuple", _, PyProof.Rows.slot_tuple_getitem.lookup, ht.typeIs, ?_⟩
    exact getItem_tuple_whole ht hs pl pu (by rw [hlen]; exact hw) ⟨.ref a, H, I, rfl, q1 hw⟩
  · refine ⟨"tuple", _, PyProof.Rows.slot_tuple_getitem.lookup, ht.typeIs, ?_⟩
    refine HT.getItem_tuple_cut ht hs pl pu (by rw [hlen]; exact hw) ?_ (by rw [hlen]; exact hz)
    rw [hlen]
    refine ⟨.ref s.heap.objs.size, _, I.laid (t' := s.toks) (o := .frz _ (.tup (cutV xs lo hi))) (fun b ob q => Heap.get?_push_of_some _ q) (Nat.le_refl _) ⟨Heap.get?_push_size _ rfl, ?_⟩, rfl, q2 hw _ _ (I.hok.fresh (Nat.le_refl _)) rfl⟩
    exact ⟨Nat.le_trans (cutV_length xs lo hi) hz, _, (r.drop (HT.sIx xs.length 0 lo)).take (HT.sIx xs.length xs.length hi - HT.sIx xs.length 0 lo), IsTup.new _ _⟩
/-- tuple(x) of a list or tuple -/
def rTupX (K : PySem.W.Frag) : List V → Hp → VK → Prop := fun xs H Q => ∃ p ys, xs = [.ref p] ∧ ((SqL K H p ys ∧ ∀ l o, H l = none → o.dict = none → Q (.ref l) (upd H l (.frz o (.tup ys)))) ∨ (SqT K H p ys ∧ Q (.ref p) H))
theorem call_tupX : CallR X (.type "tuple") (rTupX X.K) := by
  intro pins s σ H xs us Q I r h
  obtain ⟨p, ys, rfl, h⟩ := h
  obtain ⟨u, rfl, rx⟩ := vals1 r
  cases rx
  rcases h with ⟨hq, q⟩ | ⟨hq, q⟩
  · obtain ⟨its, r', pl, hz⟩ := I.list hq
    have hlen := r'.length
    refine call_tuple_list pl.isList (fun h' kp => ?_) (by simp only [List.size_toArray] <;> omega)
    have I1 : Inv X pins σ H { s with heap := h' } := I.kept (t' := s.toks) kp
    exact ⟨.ref h'.objs.size, _, I1.laid (t' := s.toks) (o := .frz _ (.tup ys)) (fun b o e => Heap.get?_push_of_some _ e) (Nat.le_refl _) ⟨Heap.get?_push_size _ rfl, hz, its, r', IsTup.new _ _⟩, rfl, q _ _ (I1.hok.fresh (Nat.le_refl _)) rfl⟩
  · obtain ⟨its, r', pl, hz⟩ := I.tuple hq
    exact call_tuple_same pl ⟨.ref p, H, I, rfl, q⟩
/-- tuple(range(..)) -/
def tTupRgX (te : L2.St → Hp → (Int → Int → Hp → Prop) → Prop) : TE := fun σ H Q => te σ H fun a b H1 => RgOk a b ∧ ∀ q o, H1 q = none → o.dict = none → Q (.ref q) (upd H1 q (.frz o (.tup (rgV a b))))
theorem pe_tupRgX {e : Expr} {te : L2.St → Hp → (Int → Int → Hp → Prop) → Prop} {p pos : Pos} (hc : X.calm = true) (hg : Gl X "tuple") (hm : X.mg "tuple" = none) (he : PRg X e te) (na : starEach [e] X.env = (false, eval e X.env) :: starEach [] X.env := by rfl) : PE X (.Call (.Name "tuple" p) [e] [] pos) (tTupRgX te) := by
  refine ⟨fun pins s σ H Q I h => ?_⟩
  refine Call_ (ld_blt I hg hm boot_tuple (PyProof.Rows.callWith_type1 (args_cons (thn (he pins s σ H _ I h) fun x s1 ⟨r, a, b, t, u, v, H1, ex, hr, I1, ok, q⟩ => args_nil ?_) na) na))
  subst ex
  obtain ⟨b1, b2, b3, b4, b5⟩ := ok
  refine call_tuple_range (n := (b - a).toNat) (I1.ok.hd hc) hr (small_one b1 b2 b3 b4) (rangeSize_nat a b) b5 fun h' tk acc hk hi => ?_
  have I2 : Inv X pins σ H1 { s1 with heap := h', toks := tk } := I1.kept hk
  refine ⟨.ref h'.objs.size, _, I2.laid (t' := tk) (o := .frz _ (.tup (rgV a b))) (fun c o e => Heap.get?_push_of_some _ e) (Nat.le_refl _) ⟨Heap.get?_push_size _ rfl, ?_, acc.toList, vals_rg hi, ?_⟩, rfl, q _ _ (I2.hok.fresh (Nat.le_refl _)) rfl⟩
  · rw [rgV_length, sizeLine_eq]; omega
  · rw [Array.toArray_toList]; exact IsTup.new _ _
/-- t * n, 2 ≤ n -/
def rRepX (K : PySem.W.Frag) : R2 := fun x y H Q => ∃ l k xs, x = .ref l ∧ y = .int k ∧ SqT K H l xs ∧ xs ≠ [] ∧ 2 ≤ k ∧ k ≤ 1000 ∧ xs.length ≤ 1000 ∧ ∀ p o, H p = none → o.dict = none → Q (.ref p) (upd H p (.frz o (.tup (List.replicate k.toNat xs).flatten)))
theorem op_repX : OpR X (binaryOp .Mult) (rRepX X.K) := by
  intro pins s σ H x y v u Q I rx ry h
  obtain ⟨l, k, xs, rfl, rfl, hT, hne, h1, h2, hz, q⟩ := h
  cases rx
  obtain ⟨t, rfl⟩ := ry
  obtain ⟨its, r, ⟨⟨cls, dd, data, sl⟩, ho, hc, n, hd⟩, hs⟩ := I.tuple hT
  simp only at hc hd
  subst hc hd
  have hle : its.length = xs.length := r.length.symm
  have hi : its.toArray.isEmpty = false := by
    cases its with
    | nil => exact absurd (List.eq_nil_of_length_eq_zero hle.symm) hne
    | cons a b => rfl
  have hm : ((its.toArray.size : Nat) : Int) * k ≤ 1000000 := by
    rw [List.size_toArray, hle]
    have a1 : ((xs.length : Nat) : Int) * k ≤ 1000 * k := Int.mul_le_mul_of_nonneg_right (by omega) (by omega)
    omega
  have fl : k.toNat * xs.length ≤ 1000 * 1000 := Nat.mul_le_mul (by omega) hz
  have c0 : (decide (k < -(2 ^ 63)) || decide (k ≥ 2 ^ 63)) = false := by rw [decide_eq_false (by omega), decide_eq_false (by omega)] <;> rfl
  have c1 : (its.toArray.isEmpty || k == 1) = false := by rw [hi, Bool.false_or]; exact beq_eq_false_iff_ne.mpr (by omega)
  have c2 : (decide (k ≤ 0) || its.toArray.isEmpty) = false := by rw [hi, Bool.or_false]; exact decide_eq_false (by omega)
  have c4 : Builtin.Tuple.tupleTooMany (((its.toArray.size : Nat) : Int) * k) = false := by
    unfold Builtin.Tuple.tupleTooMany
    rw [sizeLine_eq]
    exact decide_eq_false (by omega)
  refine wpAny_binaryOp_repeat_ref (T := "tuple") (U := "int") (by decide) ⟨_, ho, rfl⟩ (fun s' => PySem.typeIs_int s' k t) noFill_tuple_mul F.fills_int_mul F.slot_int_rmul repeat_tuple F.slot_int_index.lookup
    (call_meets F.slot_int_rmul (PySem.typeIs_int s k t) F.entry_int_rmul (F.args_int_rmul_2 _ _) (int_rmul_tuple k t l its.toArray n dd sl)
      ⟨ho, rfl, ⟨_, ho, rfl⟩, call_meets F.slot_tuple_mul ⟨_, ho, rfl⟩ F.entry_tuple_mul (F.args_tuple_mul_2 _ _) (tuple_mulW l its.toArray n dd sl k t c0 c1 c2 (by omega) c4 (by rw [size_rep, List.size_toArray, PyProof.Rows.lm_len_rep_flat, hle, sizeLine_eq]; omega)) ⟨ho, ?_⟩⟩)
  rw [size_rep]
  refine ⟨.ref s.heap.objs.size, _, I.laid (t' := s.toks) (o := .frz _ (.tup (List.replicate k.toNat xs).flatten)) (fun b ob q => Heap.get?_push_of_some _ q) (Nat.le_refl _) ⟨Heap.get?_push_size _ rfl, ?_⟩, rfl, q _ _ (I.hok.fresh (Nat.le_refl _)) rfl⟩
  exact ⟨by rw [PyProof.Rows.lm_len_rep_flat, sizeLine_eq]; omega, _, r.rep k.toNat, IsTup.new _ _⟩
end
end DL

/-! The D layer, 2: expressions. -/
namespace DL
open PySem L2

/-- a step that only lays new things -/
structure New (Hf H Hf' H' : Hp) : Prop where
  fz : Same Hf Hf'
  keep : Same H H'
  sub : Same Hf' H'
  out : ∀ b, H b ≠ none → Hf b = none → Hf' b = none
section
variable {K : PySem.W.Frag} {mg : Str → Option Value} {W : XK} {Hf H Hf' H' Hf1 H1 : Hp} {σ : L2.St} {ρ : Ro}
theorem New.refl (h : Same Hf H) : New Hf H Hf H := ⟨fun _ _ h => h, fun _ _ h => h, h, fun _ _ h => h⟩
theorem New.stp (n : New Hf H Hf' H') : Stp Hf σ ρ H Hf' σ ρ H' where
  fz := n.fz
  keep := fun b o h _ => n.keep b o h
  there := fun b h => by
    cases e : H b with
    | none => exact absurd e h
    | some o => rw [n.keep b o e]; simp
  out := fun b h h1 _ => n.out b h h1
  pin := fun i d h => ⟨⟨d, h⟩, rfl⟩
  pin' := fun i d h => ⟨d, h⟩
  oo := fun b h => .inr h
  len := rfl
theorem New.sr (n : New Hf H Hf' H') (S : SR K Hf σ ρ H) : SR K Hf' σ ρ H' where
  sub := n.sub
  len := S.len
  val := fun i d h => let ⟨v, h1, h2⟩ := S.val i d h; ⟨v, h1, Rep.mono n.fz h2⟩
  own := fun i d h => by
    obtain ⟨a, h1, h2, h3⟩ := S.own i d h
    have t := h3.there
    refine ⟨a, h1, n.out a t h2, RepO.mono n.fz ?_ h3⟩
    cases e : H a with
    | none => exact absurd e t
    | some o => exact n.keep a o e
  inj := S.inj
theorem same_upd {p : Addr} {o : HO} (h : H p = none) : Same H (upd H p o) := fun a u e => by
  rw [upd_ne (ne_of_none e h)]; exact e
/-- a new thing at p, known as data from then on -/
theorem New.lay {p : Addr} {o : HO} (s : Same Hf H) (h : H p = none) : New Hf H (upd Hf p o) (upd H p o) where
  fz := same_upd (by
    cases e : Hf p with
    | none => rfl
    | some u => rw [s p u e] at h; cases h)
  keep := same_upd h
  sub := fun a u e => by
    by_cases ha : a = p
    · subst ha; rw [upd_same] at e ⊢; exact e
    · rw [upd_ne ha] at e ⊢; exact s a u e
  out := fun b hb hf => by
    rw [upd_ne (fun e => hb (by rw [e]; exact h))]; exact hf
theorem New.trans (a : New Hf H Hf1 H1) (b : New Hf1 H1 Hf' H') : New Hf H Hf' H' where
  fz := Same.trans a.fz b.fz
  keep := Same.trans a.keep b.keep
  sub := b.sub
  out := fun c h h1 => b.out c (by
    cases e : H c with
    | none => exact absurd e h
    | some o => rw [a.keep c o e]; simp) (a.out c h h1)
theorem none_sub (s : Same Hf H) {p : Addr} (h : H p = none) : Hf p = none := by
  cases e : Hf p with
  | none => rfl
  | some u => rw [s p u e] at h; cases h

/-! ### values -/
/-- a two-place operation on data -/
def RD (K : PySem.W.Frag) (r : R2) (g : D → D → Option D) : Prop :=
  ∀ Hf H x y dx dy dz, Same Hf H → Rep K Hf dx x → Rep K Hf dy y → g dx dy = some dz → ∀ Q : VK, (∀ z H' Hf', New Hf H Hf' H' → Rep K Hf' dz z → Q z H') → r x y H Q
def RDU (K : PySem.W.Frag) (r : V → Hp → VK → Prop) (g : D → Option D) : Prop :=
  ∀ Hf H x dx dz, Same Hf H → Rep K Hf dx x → g dx = some dz → ∀ Q : VK, (∀ z H' Hf', New Hf H Hf' H' → Rep K Hf' dz z → Q z H') → r x H Q
/-- a call with data -/
def RDC (K : PySem.W.Frag) (r : List V → Hp → VK → Prop) (g : List D → Option D) : Prop :=
  ∀ Hf H xs ds dz, Same Hf H → Reps K Hf ds xs → g ds = some dz → ∀ Q : VK, (∀ z H' Hf', New Hf H Hf' H' → Rep K Hf' dz z → Q z H') → r xs H Q
/-- .. that gives a new list or dict -/
def RDCF (K : PySem.W.Frag) (r : List V → Hp → VK → Prop) (g : List D → Option D) : Prop :=
  ∀ Hf H xs ds dz, Same Hf H → Reps K Hf ds xs → g ds = some dz → ∀ Q : VK, (∀ a H' Hf', New Hf H Hf' H' → H a = none → Hf' a = none → RepO K Hf' H' dz a → Q (.ref a) H') → r xs H Q

/-! ### combinators -/
def liftO {α : Type} (o : Option α) : EM α := fun ρ => match o with
  | some a => .ok a ρ
  | none => .bad
def retE {α : Type} (a : α) : EM α := fun ρ => .ok a ρ
def varE (i : Nat) : EM D := fun ρ => match ρ[i]? with
  | some (.v d) => .ok d ρ
  | _ => .bad
def bin2 (g : D → D → Option D) (fa fb : EM D) : EM D := bindM fa fun x => bindM fb fun y => liftO (g x y)
def un1 (g : D → Option D) (fa : EM D) : EM D := bindM fa fun x => liftO (g x)
def toB (d : D) : Option Bool := match d with
  | .bl b => some b
  | _ => none
def testE (f : EM D) : EM Bool := bindM f fun d => liftO (toB d)


/-! ### readings -/
theorem TD.var {i : Nat} : TD K mg W (tVar i) (varE i) := by
  intro Hf σ ρ H S Q h
  unfold varE at h
  cases e : ρ[i]? with
  | none => rw [e] at h; exact h.elim
  | some x =>
    cases x with
    | v d =>
      rw [e] at h
      obtain ⟨v, h1, h2⟩ := S.val i d e
      exact ⟨v, h1, h v Hf H Stp.refl S h2⟩
    | _ => rw [e] at h; exact h.elim
theorem TD.con {d : D} {v : V} (r : ∀ Hf, Rep K Hf d v) : TD K mg W (tC v) (retE d) := fun Hf σ ρ H S Q h => h v Hf H Stp.refl S (r Hf)
theorem TD.op {r : R2} {g : D → D → Option D} {ta tb : TE} {fa fb : EM D} (hr : RD K r g) (ha : TD K mg W ta fa) (hb : TD K mg W tb fb) : TD K mg W (tOp r ta tb) (bin2 g fa fb) := by
  intro Hf σ ρ H S Q h
  refine ha Hf σ ρ H S _ ((Wp.bind h).mono fun dx ρ1 h1 v Hf1 H1 s1 S1 r1 => ?_)
  refine hb Hf1 σ ρ1 H1 S1 _ ((Wp.bind h1).mono fun dy ρ2 h2 u Hf2 H2 s2 S2 r2 => ?_)
  unfold liftO at h2
  cases e : g dx dy with
  | none => rw [e] at h2; exact h2.elim
  | some dz =>
    rw [e] at h2
    exact hr Hf2 H2 v u dx dy dz S2.sub (Rep.mono s2.fz r1) r2 e Q fun z H3 Hf3 n rz => h2 z Hf3 H3 ((s1.trans s2).trans n.stp) (n.sr S2) rz
theorem TD.un {r : V → Hp → VK → Prop} {g : D → Option D} {ta : TE} {fa : EM D} (hr : RDU K r g) (ha : TD K mg W ta fa) : TD K mg W (tUn r ta) (un1 g fa) := by
  intro Hf σ ρ H S Q h
  refine ha Hf σ ρ H S _ ((Wp.bind h).mono fun dx ρ1 h1 v Hf1 H1 s1 S1 r1 => ?_)
  unfold liftO at h1
  cases e : g dx with
  | none => rw [e] at h1; exact h1.elim
  | some dz =>
    rw [e] at h1
    exact hr Hf1 H1 v dx dz S1.sub r1 e Q fun z H3 Hf3 n rz => h1 z Hf3 H3 (s1.trans n.stp) (n.sr S1) rz
theorem rep_bl {Hf : Hp} {d : D} {b : Bool} {v : V} (h : toB d = some b) (r : Rep K Hf d v) : v = .bl b := by
  cases d <;> simp [toB] at h
  subst h
  exact r
theorem TB.test {t : TE} {f : EM D} (h : TD K mg W t f) : TB K mg W (tTest t) (testE f) := by
  intro Hf σ ρ H S Q q
  refine h Hf σ ρ H S _ ((Wp.bind q).mono fun d ρ1 h1 v Hf1 H1 s1 S1 r1 => ?_)
  unfold liftO at h1
  cases e : toB d with
  | none => rw [e] at h1; exact h1.elim
  | some b =>
    rw [e] at h1
    exact ⟨b, rep_bl e r1, h1 Hf1 H1 s1 S1⟩
theorem TB.tB {t : TE} {f : EM D} (h : TD K mg W t f) : TB K mg W (L2.tB t) (testE f) := TB.test h
/-- a op b op' c -/
def chainE (g g' : D → D → Option D) (fa fb fc : EM D) : EM D := bindM fa fun x => bindM fb fun y => bindM (liftO (g x y)) fun z => bindM (liftO (toB z)) fun k =>
  if k then bindM fc fun u => liftO (g' y u) else retE (.bl false)
theorem TD.chain {r r' : R2} {g g' : D → D → Option D} {ta tb tc : TE} {fa fb fc : EM D} (hr : RD K r g) (hr' : RD K r' g') (ha : TD K mg W ta fa) (hb : TD K mg W tb fb) (hc : TD K mg W tc fc) :
    TD K mg W (tChain r r' ta tb tc) (chainE g g' fa fb fc) := by
  intro Hf σ ρ H S Q h
  refine ha Hf σ ρ H S _ ((Wp.bind h).mono fun dx ρ1 h1 v Hf1 H1 s1 S1 r1 => ?_)
  refine hb Hf1 σ ρ1 H1 S1 _ ((Wp.bind h1).mono fun dy ρ2 h2 u Hf2 H2 s2 S2 r2 => ?_)
  have h2 := Wp.bind h2
  unfold liftO at h2
  cases e : g dx dy with
  | none => rw [e] at h2; exact h2.elim
  | some dz =>
    rw [e] at h2
    have h3 := Wp.bind (show Wp K mg W (bindM (liftO (toB dz)) _ ρ2) _ from h2)
    unfold liftO at h3
    cases e1 : toB dz with
    | none => rw [e1] at h3; exact h3.elim
    | some k =>
      rw [e1] at h3
      refine hr Hf2 H2 v u dx dy dz S2.sub (Rep.mono s2.fz r1) r2 e _ fun z H3 Hf3 n rz => ⟨k, rep_bl e1 rz, ?_⟩
      cases k with
      | false =>
        rw [if_neg (by decide)]
        exact h3 _ Hf3 H3 ((s1.trans s2).trans n.stp) (n.sr S2) rfl
      | true =>
        rw [if_pos rfl]
        have h3 : Wp K mg W (bindM fc (fun u => liftO (g' dy u)) ρ2) _ := h3
        refine hc Hf3 σ ρ2 H3 (n.sr S2) _ ((Wp.bind h3).mono fun dw ρ4 h4 w Hf4 H4 s4 S4 r4 => ?_)
        unfold liftO at h4
        cases e4 : g' dy dw with
        | none => rw [e4] at h4; exact h4.elim
        | some dq =>
          rw [e4] at h4
          exact hr' Hf4 H4 u w dy dw dq S4.sub (Rep.mono (Same.trans n.fz s4.fz) r2) r4 e4 Q fun q H5 Hf5 n5 rq =>
            h4 q Hf5 H5 ((((s1.trans s2).trans n.stp).trans s4).trans n5.stp) (n5.sr S4) rq
/-! ### and, or, not, if -/
def andE (fa fb : EM D) : EM D := bindM fa fun x => bindM (liftO (toB x)) fun k => if k then fb else retE (.bl false)
def orE (fa fb : EM D) : EM D := bindM fa fun x => bindM (liftO (toB x)) fun k => if k then retE (.bl true) else fb
def notE (fa : EM D) : EM D := bindM fa fun x => bindM (liftO (toB x)) fun k => retE (.bl (!k))
def andT (fa fb : EM Bool) : EM Bool := bindM fa fun k => if k then fb else retE false
def orT (fa fb : EM Bool) : EM Bool := bindM fa fun k => if k then retE true else fb
def notT (fa : EM Bool) : EM Bool := bindM fa fun k => retE (!k)
def ifE (c : EM Bool) (fa fb : EM D) : EM D := bindM c fun k => if k then fa else fb
theorem Wp.toB {d : D} {ρ : Ro} {α : Type} {f : Bool → EM α} {k : α → Ro → Prop} (h : Wp K mg W (bindM (liftO (toB d)) f ρ) k) : ∃ b, toB d = some b ∧ Wp K mg W (f b ρ) k := by
  have h := Wp.bind h
  unfold liftO at h
  cases e : DL.toB d with
  | none => rw [e] at h; exact h.elim
  | some b => rw [e] at h; exact ⟨b, rfl, h⟩
theorem TD.andV {ta tb : TE} {fa fb : EM D} (ha : TD K mg W ta fa) (hb : TD K mg W tb fb) : TD K mg W (tAndV ta tb) (andE fa fb) := by
  intro Hf σ ρ H S Q h
  refine ha Hf σ ρ H S _ ((Wp.bind h).mono fun dx ρ1 h1 v Hf1 H1 s1 S1 r1 => ?_)
  obtain ⟨k, e, h2⟩ := Wp.toB h1
  refine ⟨k, rep_bl e r1, ?_⟩
  cases k with
  | true =>
    rw [if_pos rfl]
    exact hb Hf1 σ ρ1 H1 S1 _ (h2.mono fun d ρ2 h3 w Hf2 H2 s2 S2 r2 => h3 w Hf2 H2 (s1.trans s2) S2 r2)
  | false => exact h2 _ Hf1 H1 s1 S1 rfl
theorem TD.orV {ta tb : TE} {fa fb : EM D} (ha : TD K mg W ta fa) (hb : TD K mg W tb fb) : TD K mg W (tOrV ta tb) (orE fa fb) := by
  intro Hf σ ρ H S Q h
  refine ha Hf σ ρ H S _ ((Wp.bind h).mono fun dx ρ1 h1 v Hf1 H1 s1 S1 r1 => ?_)
  obtain ⟨k, e, h2⟩ := Wp.toB h1
  refine ⟨k, rep_bl e r1, ?_⟩
  cases k with
  | false =>
    rw [if_neg (by decide)]
    exact hb Hf1 σ ρ1 H1 S1 _ (h2.mono fun d ρ2 h3 w Hf2 H2 s2 S2 r2 => h3 w Hf2 H2 (s1.trans s2) S2 r2)
  | true => exact h2 _ Hf1 H1 s1 S1 rfl
theorem TD.notV {ta : TE} {fa : EM D} (ha : TD K mg W ta fa) : TD K mg W (tNotV ta) (notE fa) := by
  intro Hf σ ρ H S Q h
  refine ha Hf σ ρ H S _ ((Wp.bind h).mono fun dx ρ1 h1 v Hf1 H1 s1 S1 r1 => ?_)
  obtain ⟨k, e, h2⟩ := Wp.toB h1
  exact ⟨k, rep_bl e r1, h2 _ Hf1 H1 s1 S1 rfl⟩
theorem TB.and {ta tb : TT} {fa fb : EM Bool} (ha : TB K mg W ta fa) (hb : TB K mg W tb fb) : TB K mg W (tAnd ta tb) (andT fa fb) := by
  intro Hf σ ρ H S Q h
  refine ha Hf σ ρ H S _ ((Wp.bind h).mono fun k ρ1 h1 Hf1 H1 s1 S1 => ?_)
  cases k with
  | true =>
    rw [if_pos rfl]
    exact hb Hf1 σ ρ1 H1 S1 _ (h1.mono fun d ρ2 h3 Hf2 H2 s2 S2 => h3 Hf2 H2 (s1.trans s2) S2)
  | false => exact h1 Hf1 H1 s1 S1
theorem TB.or {ta tb : TT} {fa fb : EM Bool} (ha : TB K mg W ta fa) (hb : TB K mg W tb fb) : TB K mg W (tOr ta tb) (orT fa fb) := by
  intro Hf σ ρ H S Q h
  refine ha Hf σ ρ H S _ ((Wp.bind h).mono fun k ρ1 h1 Hf1 H1 s1 S1 => ?_)
  cases k with
  | false =>
    rw [if_neg (by decide)]
    exact hb Hf1 σ ρ1 H1 S1 _ (h1.mono fun d ρ2 h3 Hf2 H2 s2 S2 => h3 Hf2 H2 (s1.trans s2) S2)
  | true => exact h1 Hf1 H1 s1 S1
theorem TB.not {ta : TT} {fa : EM Bool} (ha : TB K mg W ta fa) : TB K mg W (tNot ta) (notT fa) := by
  intro Hf σ ρ H S Q h
  refine ha Hf σ ρ H S _ ((Wp.bind h).mono fun k ρ1 h1 Hf1 H1 s1 S1 => h1 Hf1 H1 s1 S1)
theorem TD.ifE {c : TT} {ta tb : TE} {fc : EM Bool} {fa fb : EM D} (hc : TB K mg W c fc) (ha : TD K mg W ta fa) (hb : TD K mg W tb fb) : TD K mg W (tIf c ta tb) (DL.ifE fc fa fb) := by
  intro Hf σ ρ H S Q h
  refine hc Hf σ ρ H S _ ((Wp.bind h).mono fun k ρ1 h1 Hf1 H1 s1 S1 => ?_)
  cases k with
  | true =>
    rw [if_pos rfl]
    exact ha Hf1 σ ρ1 H1 S1 _ (h1.mono fun d ρ2 h3 w Hf2 H2 s2 S2 r2 => h3 w Hf2 H2 (s1.trans s2) S2 r2)
  | false =>
    rw [if_neg (by decide)]
    exact hb Hf1 σ ρ1 H1 S1 _ (h1.mono fun d ρ2 h3 w Hf2 H2 s2 S2 r2 => h3 w Hf2 H2 (s1.trans s2) S2 r2)
/-- a new dict is locked at once: it is data, and may be walked -/
def tLk (t : TE) : TE := fun σ H Q => t σ H fun x H1 => (∃ a kvs, x = .ref a ∧ H1 a = some (.dK kvs) ∧ ∀ o, Q x (upd H1 a (.frz o (.dK kvs)))) ∨ Q x H1
theorem pe_lk {X : Cx} {e : Expr} {t : TE} (h : PE X e t) : PE X e (tLk t) := by
  refine ⟨fun pins s σ H Q I q => thn (h.run pins s σ H _ I q) fun v s1 ⟨x, H1, I1, r1, q1⟩ => ?_⟩
  rcases q1 with ⟨a, kvs, e, ha, q1⟩ | q1
  · obtain ⟨od, I2⟩ := I1.lock ha trivial
    exact ⟨x, upd H1 a (.frz od (.dK kvs)), I2, r1, q1 od⟩
  · exact ⟨x, H1, I1, r1, q1⟩
/-- what a new thing has become -/
def Froz (o o' : HO) : Prop := o' = o ∨ ∃ ob kvs, o = .dK kvs ∧ o' = .frz ob (.dK kvs)
theorem rep_froz {d : D} {a : Addr} {o o' : HO} {Hg : Hp} (e : H a = some o) (ro : RepO K Hf H d a) (f : Froz o o') (hd : (∃ kvs, o = .dK kvs) → o' ≠ o) (sm : Same Hf Hg) (hg : Hg a = some o') : Rep K Hg d (.ref a) := by
  cases d with
  | lst ds =>
    obtain ⟨vs, g1, g2⟩ := ro
    rw [e] at g1; cases g1
    rcases f with rfl | ⟨_, _, h, _⟩
    · unfold Rep
      exact ⟨a, vs, rfl, hg, Reps.mono sm g2⟩
    · cases h
  | dct ds =>
    obtain ⟨vs, g1, g2⟩ := ro
    rw [e] at g1; cases g1
    rcases f with rfl | ⟨ob, kvs, h, rfl⟩
    · exact absurd rfl (hd ⟨_, rfl⟩)
    · cases h
      unfold Rep
      exact ⟨a, ob, vs, rfl, hg, Repk.mono sm g2⟩
  | dcn ds =>
    obtain ⟨vs, g1, g2⟩ := ro
    rw [e] at g1; cases g1
    rcases f with rfl | ⟨_, _, h, _⟩
    · unfold Rep
      exact ⟨a, vs, rfl, .inl hg, Repn.mono sm g2⟩
    · cases h
  | _ => exact ro.elim
theorem TF.key {Q : VK} {a : Addr} {o o' : HO} {d : D} {ρ1 : Ro} (s1 : Stp Hf σ ρ H Hf1 σ ρ1 H1) (S1 : SR K Hf1 σ ρ1 H1) (ha : H a = none) (hf : Hf1 a = none) (ro : RepO K Hf1 H1 d a) (no : ¬ OA σ ρ1 a) (e : H1 a = some o) (f : Froz o o') (hd : (∃ kvs, o = .dK kvs) → o' ≠ o)
    (q1 : ∀ v Hf' H', Stp Hf σ ρ H Hf' σ ρ1 H' → SR K Hf' σ ρ1 H' → Rep K Hf' d v → Q v H') : Q (.ref a) (upd H1 a o') := by
  have sm : Same Hf1 (upd Hf1 a o') := same_upd hf
  refine q1 (.ref a) (upd Hf1 a o') (upd H1 a o') ⟨Same.trans s1.fz sm, fun b u h1 h2 => ?_, fun b h1 => ?_, fun b hb hb1 hb2 => ?_, s1.pin, s1.pin', s1.oo, s1.len⟩ ⟨fun b u e1 => ?_, S1.len, fun i d e1 => ?_, fun i d e1 => ?_, S1.inj⟩ (rep_froz e ro f hd sm upd_same)
  · rw [upd_ne (fun e => by rw [e, ha] at h1; cases h1)]
    exact s1.keep b u h1 h2
  · by_cases hb : b = a
    · subst hb; rw [upd_same]; simp
    · rw [upd_ne hb]; exact s1.there b h1
  · rw [upd_ne (fun e => hb (by rw [e]; exact ha))]
    exact s1.out b hb hb1 hb2
  · by_cases hb : b = a
    · subst hb; rw [upd_same] at e1 ⊢; exact e1
    · rw [upd_ne hb] at e1 ⊢; exact S1.sub b u e1
  · obtain ⟨v, g1, g2⟩ := S1.val i d e1
    exact ⟨v, g1, Rep.mono sm g2⟩
  · obtain ⟨b, g1, g2, g3⟩ := S1.own i d e1
    have nb : b ≠ a := fun e2 => no ⟨i, by rw [← e2]; exact g1, d, e1⟩
    exact ⟨b, g1, by rw [upd_ne nb]; exact g2, RepO.mono sm (upd_ne nb) g3⟩
theorem upd_self {a : Addr} {o : HO} (e : H a = some o) : upd H a o = H := by
  funext b
  by_cases h : b = a
  · subst h; rw [upd_same, e]
  · rw [upd_ne h]
/-- a new thing, known as data at once -/
theorem TF.td {t : TE} {f : EM D} (h : TF K mg W t f) : TD K mg W (tLk t) f := by
  intro Hf σ ρ H S Q q
  refine h Hf σ ρ H S _ (q.mono fun d ρ1 q1 a Hf1 H1 s1 S1 ha hf ro no => ?_)
  obtain ⟨o, e⟩ : ∃ o, H1 a = some o := by
    cases e : H1 a with
    | none => exact absurd e ro.there
    | some o => exact ⟨o, rfl⟩
  by_cases hk : ∃ kvs, o = .dK kvs
  · obtain ⟨kvs, rfl⟩ := hk
    exact .inl ⟨a, kvs, rfl, e, fun ob => TF.key s1 S1 ha hf ro no e (.inr ⟨ob, kvs, rfl, rfl⟩) (fun _ h => by cases h) q1⟩
  · refine .inr ?_
    have := TF.key (o' := o) s1 S1 ha hf ro no e (.inl rfl) (fun h => absurd h hk) q1
    rw [upd_self e] at this
    exact this
/-- .. that is a list -/
theorem TF.tdl {t : TE} {f : EM D} (h : TF K mg W t f) (hl : ∀ ρ d ρ', f ρ = .ok d ρ' → ∃ ds, d = .lst ds) : TD K mg W t f := by
  intro Hf σ ρ H S Q q
  refine h Hf σ ρ H S _ ?_
  cases ef : f ρ with
  | bad => rw [ef] at q; exact q
  | err x => rw [ef] at q; exact q
  | ok d ρ1 =>
    rw [ef] at q
    obtain ⟨ds, rfl⟩ := hl _ _ _ ef
    intro a Hf1 H1 s1 S1 ha hf ro no
    obtain ⟨vs, e, _⟩ := id ro
    have := TF.key (o' := .lst vs) s1 S1 ha hf ro no e (.inl rfl) (fun ⟨_, h⟩ => by cases h) q
    rw [upd_self e] at this
    exact this
end

/-! ### rules -/
section
variable {X : Cx} {W : XK} {a b c : Expr} {fa fb fc : EM D} {ba bb : EM Bool} {pos : Pos} {es : List Expr}
theorem PF.pd {e : Expr} {f : EM D} (h : PF X W e f) : PD X W e f := let ⟨t, h1, h2⟩ := h.ex; ⟨_, pe_lk h1, TF.td h2⟩
theorem d_var (i : Nat) {x : Str} (hN : X.N[i]? = some x) (hv : Vis X.env.scope x) (hd : (x == ("__debug__" : Str)) = false := by decide) (hcd : (x == ("__classdict__" : Str)) = false := by decide) : PD X W (.Name x pos) (varE i) :=
  ⟨_, pe_var hN hv hd hcd, TD.var⟩
theorem d_int {i j} : PD X W (.Constant (.int i) j pos) (retE (.int i)) := ⟨_, pe_int, TD.con fun _ => rfl⟩
theorem d_bl {i j} : PD X W (.Constant (.bool i) j pos) (retE (.bl i)) := ⟨_, pe_bl, TD.con fun _ => rfl⟩
theorem d_non {j} : PD X W (.Constant .none j pos) (retE .non) := ⟨_, pe_non, TD.con fun _ => rfl⟩
theorem d_str {i j} : PD X W (.Constant (.str i) j pos) (retE (.str i)) := ⟨_, pe_str, TD.con fun _ => rfl⟩
theorem d_op {op : Operator} {r : R2} {g : D → D → Option D} (ho : OpR X (binaryOp op) r) (hr : RD X.K r g) (ha : PD X W a fa) (hb : PD X W b fb) : PD X W (.BinOp a op b pos) (bin2 g fa fb) :=
  let ⟨_, a1, a2⟩ := ha.ex; let ⟨_, b1, b2⟩ := hb.ex; ⟨_, pe_op ho a1 b1, TD.op hr a2 b2⟩
theorem d_un {op : UnaryOp} {r : V → Hp → VK → Prop} {g : D → Option D} (ho : UnR X (unaryOp op) r) (hr : RDU X.K r g) (ha : PD X W a fa) : PD X W (.UnaryOp op a pos) (un1 g fa) :=
  let ⟨_, a1, a2⟩ := ha.ex; ⟨_, pe_un ho a1, TD.un hr a2⟩
theorem d_cmp {op : CmpOp} {r : R2} {g : D → D → Option D} (ho : OpR X (compareOp op) r) (hr : RD X.K r g) (ha : PD X W a fa) (hb : PD X W b fb) (hm : behindInMarks op b = false) : PD X W (.Compare a [op] [b] pos) (bin2 g fa fb) :=
  let ⟨_, a1, a2⟩ := ha.ex; let ⟨_, b1, b2⟩ := hb.ex; ⟨_, pe_cmpR ho a1 b1 hm, TD.op hr a2 b2⟩
theorem d_chain {op op' : CmpOp} {r r' : R2} {g g' : D → D → Option D} (ho : OpR X (compareOp op) r) (hr : RD X.K r g) (ho' : OpR X (compareOp op') r') (hr' : RD X.K r' g') (ha : PD X W a fa) (hb : PD X W b fb) (hc : PD X W c fc)
    (hm : lastMarks [op, op'] [b, c] = false) : PD X W (.Compare a [op, op'] [b, c] pos) (chainE g g' fa fb fc) :=
  let ⟨_, a1, a2⟩ := ha.ex; let ⟨_, b1, b2⟩ := hb.ex; let ⟨_, c1, c2⟩ := hc.ex; ⟨_, pe_chain ho ho' a1 b1 c1 hm, TD.chain hr hr' a2 b2 c2⟩
theorem b_cmp {op : CmpOp} {r : R2} {g : D → D → Option D} (ho : OpR X (compareOp op) r) (hr : RD X.K r g) (ha : PD X W a fa) (hb : PD X W b fb) (hm : behindInMarks op b = false) : PB X W (.Compare a [op] [b] pos) (testE (bin2 g fa fb)) :=
  let ⟨_, a1, a2⟩ := ha.ex; let ⟨_, b1, b2⟩ := hb.ex; ⟨_, pt_cmpR ho a1 b1 hm, TB.test (TD.op hr a2 b2)⟩
theorem b_chain {op op' : CmpOp} {r r' : R2} {g g' : D → D → Option D} (ho : OpR X (compareOp op) r) (hr : RD X.K r g) (ho' : OpR X (compareOp op') r') (hr' : RD X.K r' g') (ha : PD X W a fa) (hb : PD X W b fb) (hc : PD X W c fc)
    (hm : lastMarks [op, op'] [b, c] = false) : PB X W (.Compare a [op, op'] [b, c] pos) (testE (chainE g g' fa fb fc)) :=
  let ⟨_, a1, a2⟩ := ha.ex; let ⟨_, b1, b2⟩ := hb.ex; let ⟨_, c1, c2⟩ := hc.ex; ⟨_, pt_chain ho ho' a1 b1 c1 hm, TB.test (TD.chain hr hr' a2 b2 c2)⟩
theorem d_one {op} (ha : PD X W a fa) : PD X W (.BoolOp op [a] pos) fa := let ⟨_, a1, a2⟩ := ha.ex; ⟨_, pe_one a1, a2⟩
theorem d_and (ha : PD X W a fa) (hb : PD X W (.BoolOp .And (b :: es) pos) fb) : PD X W (.BoolOp .And (a :: b :: es) pos) (andE fa fb) :=
  let ⟨_, a1, a2⟩ := ha.ex; let ⟨_, b1, b2⟩ := hb.ex; ⟨_, pe_and a1 b1, TD.andV a2 b2⟩
theorem d_or (ha : PD X W a fa) (hb : PD X W (.BoolOp .Or (b :: es) pos) fb) : PD X W (.BoolOp .Or (a :: b :: es) pos) (orE fa fb) :=
  let ⟨_, a1, a2⟩ := ha.ex; let ⟨_, b1, b2⟩ := hb.ex; ⟨_, pe_or a1 b1, TD.orV a2 b2⟩
theorem d_not (ha : PD X W a fa) : PD X W (.UnaryOp .Not a pos) (notE fa) := let ⟨_, a1, a2⟩ := ha.ex; ⟨_, pe_not a1, TD.notV a2⟩
/-- and, or as a test: the whole stands aside -/
structure PBW (X : Cx) (W : XK) (e : Expr) (f : EM Bool) : Prop where
  ex : ∃ t, PW X e t ∧ TB X.K X.mg W t f
theorem PBW.pb {e : Expr} {f : EM Bool} (h : PBW X W e f) : PB X W e f := let ⟨t, h1, h2⟩ := h.ex; ⟨t, h1.pt, h2⟩
theorem b_and1 (ha : PB X W a ba) : PBW X W (.BoolOp .And [a] pos) ba := let ⟨_, a1, a2⟩ := ha.ex; ⟨_, pw_and1 a1, a2⟩
theorem b_or1 (ha : PB X W a ba) : PBW X W (.BoolOp .Or [a] pos) ba := let ⟨_, a1, a2⟩ := ha.ex; ⟨_, pw_or1 a1, a2⟩
theorem b_and (ha : PB X W a ba) (hb : PBW X W (.BoolOp .And (b :: es) pos) bb) : PBW X W (.BoolOp .And (a :: b :: es) pos) (andT ba bb) :=
  let ⟨_, a1, a2⟩ := ha.ex; let ⟨_, b1, b2⟩ := hb.ex; ⟨_, pw_and a1 b1, TB.and a2 b2⟩
theorem b_or (ha : PB X W a ba) (hb : PBW X W (.BoolOp .Or (b :: es) pos) bb) : PBW X W (.BoolOp .Or (a :: b :: es) pos) (orT ba bb) :=
  let ⟨_, a1, a2⟩ := ha.ex; let ⟨_, b1, b2⟩ := hb.ex; ⟨_, pw_or a1 b1, TB.or a2 b2⟩
theorem b_not (ha : PB X W a ba) : PB X W (.UnaryOp .Not a pos) (notT ba) := let ⟨_, a1, a2⟩ := ha.ex; ⟨_, pt_not a1, TB.not a2⟩
/-- an expression that gives a truth value -/
theorem b_val (ha : PD X W a fa) (he : ∀ whole, isTrue a X.env whole = (do let v ← whole; standAt a.pos; holding [v] (truthy v))) : PB X W a (testE fa) := let ⟨_, a1, a2⟩ := ha.ex; ⟨_, pt_val a1 he, TB.tB a2⟩
theorem d_if (hc : PB X W c ba) (ha : PD X W a fa) (hb : PD X W b fb) : PD X W (.IfExp c a b pos) (ifE ba fa fb) :=
  let ⟨_, c1, c2⟩ := hc.ex; let ⟨_, a1, a2⟩ := ha.ex; let ⟨_, b1, b2⟩ := hb.ex; ⟨_, pe_ifExp c1 a1 b1, TD.ifE c2 a2 b2⟩
end
end DL

/-! The D layer, 3: arguments, targets, statements, loops, comprehensions, defs. -/
namespace DL
open PySem L2

section
variable {K : PySem.W.Frag} {mg : Str → Option Value} {W : XK} {Hf H Hf' H' Hf1 H1 : Hp} {σ σ' : L2.St} {ρ ρ' : Ro}

/-! ### arguments that are data -/
def TAD (K : PySem.W.Frag) (mg : Str → Option Value) (W : XK) (t : TA) (f : EM (List D)) : Prop :=
  ∀ Hf σ ρ H, SR K Hf σ ρ H → ∀ Q : List V → Hp → Prop, Wp K mg W (f ρ) (fun ds ρ' => ∀ vs Hf' H', Stp Hf σ ρ H Hf' σ ρ' H' → SR K Hf' σ ρ' H' → Reps K Hf' ds vs → Q vs H') → t σ H Q
def consE (fa : EM D) (fr : EM (List D)) : EM (List D) := bindM fa fun x => bindM fr fun xs => retE (x :: xs)
theorem TAD.nil : TAD K mg W tNil (retE []) := fun Hf σ ρ H S Q h => h [] Hf H Stp.refl S rfl
theorem reps_cons {d : D} {ds : List D} {v : V} {vs : List V} (h : Rep K Hf d v) (h2 : Reps K Hf ds vs) : Reps K Hf (d :: ds) (v :: vs) := by
  unfold Reps
  exact ⟨v, vs, rfl, h, h2⟩
theorem TAD.cons {ta : TE} {tr : TA} {fa : EM D} {fr : EM (List D)} (ha : TD K mg W ta fa) (hr : TAD K mg W tr fr) : TAD K mg W (tCons ta tr) (consE fa fr) := by
  intro Hf σ ρ H S Q h
  refine ha Hf σ ρ H S _ ((Wp.bind h).mono fun dx ρ1 h1 v Hf1 H1 s1 S1 r1 => ?_)
  refine hr Hf1 σ ρ1 H1 S1 _ ((Wp.bind h1).mono fun ds ρ2 h2 vs Hf2 H2 s2 S2 r2 => ?_)
  exact h2 (v :: vs) Hf2 H2 (s1.trans s2) S2 (reps_cons (Rep.mono s2.fz r1) r2)

/-! ### arguments of which some are owned things that are lent -/
inductive Arg where
  | v (d : D) | s (i : Nat)
def ArgsRep (K : PySem.W.Frag) (Hf : Hp) (σ : L2.St) : List Arg → List V → Prop
  | [], vs => vs = []
  | a :: as, vs => ∃ v r, vs = v :: r ∧ (match a with | .v d => Rep K Hf d v | .s i => σ[i]? = some (some v)) ∧ ArgsRep K Hf σ as r
theorem ArgsRep.mono (e : Same Hf Hf') : ∀ {as : List Arg} {vs : List V}, ArgsRep K Hf σ as vs → ArgsRep K Hf' σ as vs
  | [], _, h => h
  | a :: as, vs, h => by
    unfold ArgsRep at h ⊢
    obtain ⟨v, r, h1, h2, h3⟩ := h
    refine ⟨v, r, h1, ?_, ArgsRep.mono e h3⟩
    cases a with
    | v d => exact Rep.mono e h2
    | s i => exact h2
def TAR (K : PySem.W.Frag) (mg : Str → Option Value) (W : XK) (t : TA) (f : EM (List Arg)) : Prop :=
  ∀ Hf σ ρ H, SR K Hf σ ρ H → ∀ Q : List V → Hp → Prop, Wp K mg W (f ρ) (fun as ρ' => ∀ vs Hf' H', Stp Hf σ ρ H Hf' σ ρ' H' → SR K Hf' σ ρ' H' → ArgsRep K Hf' σ as vs → Q vs H') → t σ H Q
def argV (fa : EM D) (fr : EM (List Arg)) : EM (List Arg) := bindM fa fun x => bindM fr fun xs => retE (.v x :: xs)
def ownS (i : Nat) : EM Unit := fun ρ => match ρ[i]? with
  | some (.o _) => .ok () ρ
  | some (.p _) => .ok () ρ
  | _ => .bad
def argS (i : Nat) (fr : EM (List Arg)) : EM (List Arg) := bindM (ownS i) fun _ => bindM fr fun xs => retE (.s i :: xs)
theorem TAR.nil : TAR K mg W tNil (retE []) := fun Hf σ ρ H S Q h => h [] Hf H Stp.refl S rfl
theorem TAR.v {ta : TE} {tr : TA} {fa : EM D} {fr : EM (List Arg)} (ha : TD K mg W ta fa) (hr : TAR K mg W tr fr) : TAR K mg W (tCons ta tr) (argV fa fr) := by
  intro Hf σ ρ H S Q h
  refine ha Hf σ ρ H S _ ((Wp.bind h).mono fun dx ρ1 h1 v Hf1 H1 s1 S1 r1 => ?_)
  refine hr Hf1 σ ρ1 H1 S1 _ ((Wp.bind h1).mono fun ds ρ2 h2 vs Hf2 H2 s2 S2 r2 => ?_)
  refine h2 (v :: vs) Hf2 H2 (s1.trans s2) S2 ?_
  unfold ArgsRep
  exact ⟨v, vs, rfl, Rep.mono s2.fz r1, r2⟩
theorem ownS_inv {i : Nat} {α : Type} {f : Unit → EM α} {k : α → Ro → Prop} (S : SR K Hf σ ρ H) (h : Wp K mg W (bindM (ownS i) f ρ) k) : (∃ a d, σ[i]? = some (some (V.ref a)) ∧ (ρ[i]? = some (Sl.o d) ∨ ρ[i]? = some (Sl.p d)) ∧ Hf a = none ∧ RepO K Hf H d a) ∧ Wp K mg W (f () ρ) k := by
  have h := Wp.bind h
  unfold ownS at h
  cases e : ρ[i]? with
  | none => rw [e] at h; exact h.elim
  | some x =>
    cases x with
    | o d =>
      obtain ⟨a, h1, h2, h3⟩ := S.own i d (.inl e)
      rw [e] at h
      exact ⟨⟨a, d, h1, .inl rfl, h2, h3⟩, h⟩
    | p d =>
      obtain ⟨a, h1, h2, h3⟩ := S.own i d (.inr e)
      rw [e] at h
      exact ⟨⟨a, d, h1, .inr rfl, h2, h3⟩, h⟩
    | _ => rw [e] at h; exact h.elim
theorem TAR.s {i : Nat} {tr : TA} {fr : EM (List Arg)} (hr : TAR K mg W tr fr) : TAR K mg W (tCons (tVar i) tr) (argS i fr) := by
  intro Hf σ ρ H S Q h
  obtain ⟨⟨a, d, h1, _⟩, h2⟩ := ownS_inv S h
  refine ⟨.ref a, h1, ?_⟩
  refine hr Hf σ ρ H S _ ((Wp.bind h2).mono fun ds ρ2 h2 vs Hf2 H2 s2 S2 r2 => ?_)
  refine h2 (.ref a :: vs) Hf2 H2 s2 S2 ?_
  unfold ArgsRep
  exact ⟨_, vs, rfl, h1, r2⟩

/-! ### a def's promise -/
def spM (K : PySem.W.Frag) (mg : Str → Option Value) (n : Nat) (m : EM D) : Sp := fun vs H Q E => vs.length = n ∧ ∃ Hf ρ0, SR K Hf (vs.map some) ρ0 H ∧ (∀ (i : Nat) (d : D), ρ0[i]? ≠ some (Sl.o d)) ∧
  Wp K mg E (m ρ0) (fun d ρ' => ∀ v Hf' H', Stp Hf (vs.map some) ρ0 H Hf' (vs.map some) ρ' H' → SR K Hf' (vs.map some) ρ' H' → Rep K Hf' d v → Q v H')
/-- .. that gives a new list or dict -/
def spF (K : PySem.W.Frag) (mg : Str → Option Value) (n : Nat) (m : EM D) : Sp := fun vs H Q E => vs.length = n ∧ ∃ Hf ρ0, SR K Hf (vs.map some) ρ0 H ∧ (∀ (i : Nat) (d : D), ρ0[i]? ≠ some (Sl.o d)) ∧
  Wp K mg E (m ρ0) (fun d ρ' => ∀ a Hf' H', Stp Hf (vs.map some) ρ0 H Hf' (vs.map some) ρ' H' → SR K Hf' (vs.map some) ρ' H' → H a = none → Hf' a = none → RepO K Hf' H' d a → ¬ OA (vs.map some) ρ' a → Q (.ref a) H')

/-- the argument as the callee's slot -/
def slOf (ρ : Ro) : Arg → Sl
  | .v d => .v d
  | .s i => match ρ[i]? with
    | some (.o d) => .p d
    | some (.p d) => .p d
    | _ => .u
def isS (i : Nat) : Arg → Bool
  | .s j => i == j
  | .v _ => false
/-- no owned thing is lent twice -/
def apart : List Arg → Bool
  | [] => true
  | .v _ :: r => apart r
  | .s i :: r => !r.any (isS i) && apart r
/-- what a lent thing has become -/
def back1 (x y : Sl) : Sl := match x, y with
  | .o _, .p d => .o d
  | .p _, .p d => .p d
  | x, _ => x
def putBack : List Arg → Ro → Ro → Ro
  | .s i :: r, y :: ys, ρ => putBack r ys (match ρ[i]? with | some x => ρ.set i (back1 x y) | none => ρ)
  | .v _ :: r, _ :: ys, ρ => putBack r ys ρ
  | _, _, ρ => ρ
def callR (m : EM D) (as : List Arg) : EM D := fun ρ => if apart as then match m (as.map (slOf ρ)) with
  | .ok d ρ' => .ok d (putBack as ρ' ρ)
  | .bad => .bad
  | .err x => .err x
  else .bad
def callE (m : EM D) (fa : EM (List Arg)) : EM D := bindM fa fun as => callR m as

theorem any_isS {i : Nat} {r : List Arg} (h : r.any (isS i) = false) (j : Nat) : r[j]? ≠ some (.s i) := fun e => by
  have m : Arg.s i ∈ r := List.mem_of_getElem? e
  have := List.any_eq_false.mp h _ m
  simp [isS] at this
theorem putBack_out {i : Nat} : ∀ {as : List Arg} {ys ρ : Ro}, (∀ j : Nat, as[j]? ≠ some (.s i)) → (putBack as ys ρ)[i]? = ρ[i]?
  | [], _, _, _ => rfl
  | .v d :: r, [], _, _ => rfl
  | .s k :: r, [], _, _ => rfl
  | .v d :: r, y :: ys, ρ, h => putBack_out (as := r) (ys := ys) (ρ := ρ) fun j => by simpa using h (j + 1)
  | .s k :: r, y :: ys, ρ, h => by
    have ne : k ≠ i := fun e => h 0 (by simp [e])
    unfold putBack
    rw [putBack_out (as := r) (ys := ys) fun j => by simpa using h (j + 1)]
    cases e : ρ[k]? with
    | none => rfl
    | some x => exact List.getElem?_set_ne ne
theorem putBack_in {i : Nat} {y0 : Sl} : ∀ {as : List Arg} {ys ρ : Ro} {j : Nat}, apart as = true → as[j]? = some (.s i) → ys[j]? = some y0 → (putBack as ys ρ)[i]? = (ρ[i]?).map fun x => back1 x y0
  | [], _, _, _, _, h, _ => by simp at h
  | .v d :: r, [], _, _, _, _, h => by simp at h
  | .s k :: r, [], _, _, _, _, h => by simp at h
  | .v d :: r, y :: ys, ρ, 0, _, h, _ => by simp at h
  | .v d :: r, y :: ys, ρ, j + 1, ap, h, hy => by
    unfold putBack
    exact putBack_in (j := j) (by simpa [apart] using ap) (by simpa using h) (by simpa using hy)
  | .s k :: r, y :: ys, ρ, 0, ap, h, hy => by
    simp at h hy
    subst h; subst hy
    simp only [apart, Bool.and_eq_true, Bool.not_eq_true'] at ap
    unfold putBack
    rw [putBack_out (any_isS ap.1)]
    cases e : ρ[k]? with
    | none => rw [e]; rfl
    | some x => exact List.getElem?_set_self (List.getElem?_eq_some_iff.mp e).1
  | .s k :: r, y :: ys, ρ, j + 1, ap, h, hy => by
    simp only [apart, Bool.and_eq_true, Bool.not_eq_true'] at ap
    have h' : r[j]? = some (.s i) := by simpa using h
    have ne : k ≠ i := fun e => any_isS ap.1 j (by rw [e]; exact h')
    unfold putBack
    rw [putBack_in (j := j) ap.2 h' (by simpa using hy)]
    cases e : ρ[k]? with
    | none => rfl
    | some x => simp only; rw [List.getElem?_set_ne ne]
theorem apart_inj {i : Nat} : ∀ {as : List Arg} {j l : Nat}, apart as = true → as[j]? = some (.s i) → as[l]? = some (.s i) → j = l
  | [], _, _, _, h, _ => by simp at h
  | a :: r, 0, 0, _, _, _ => rfl
  | a :: r, j + 1, l + 1, ap, h, h' => by
    have ap' : apart r = true := by cases a <;> simp_all [apart]
    rw [apart_inj (j := j) (l := l) ap' (by simpa using h) (by simpa using h')]
  | a :: r, 0, l + 1, ap, h, h' => by
    simp at h; subst h
    simp only [apart, Bool.and_eq_true, Bool.not_eq_true'] at ap
    exact absurd (by simpa using h') (any_isS ap.1 l)
  | a :: r, j + 1, 0, ap, h, h' => by
    simp at h'; subst h'
    simp only [apart, Bool.and_eq_true, Bool.not_eq_true'] at ap
    exact absurd (by simpa using h) (any_isS ap.1 j)
theorem putBack_len : ∀ {as : List Arg} {ys ρ : Ro}, (putBack as ys ρ).length = ρ.length
  | [], _, _ => rfl
  | .v d :: r, [], _ => rfl
  | .s k :: r, [], _ => rfl
  | .v d :: r, y :: ys, ρ => by unfold putBack; exact putBack_len
  | .s k :: r, y :: ys, ρ => by
    unfold putBack
    rw [putBack_len]
    cases e : ρ[k]? <;> simp
theorem args_at : ∀ {as : List Arg} {vs : List V} {j : Nat} {a : Arg}, ArgsRep K Hf σ as vs → as[j]? = some a → ∃ v, vs[j]? = some v ∧ (match a with | .v d => Rep K Hf d v | .s i => σ[i]? = some (some v))
  | [], _, _, _, _, h => by simp at h
  | b :: r, vs, 0, a, h, e => by
    unfold ArgsRep at h
    obtain ⟨v, r', rfl, h2, _⟩ := h
    simp at e; subst e
    exact ⟨v, rfl, h2⟩
  | b :: r, vs, j + 1, a, h, e => by
    unfold ArgsRep at h
    obtain ⟨v, r', rfl, _, h3⟩ := h
    obtain ⟨w, h4, h5⟩ := args_at (j := j) (a := a) h3 (by simpa using e)
    exact ⟨w, by simpa using h4, h5⟩
theorem args_len : ∀ {as : List Arg} {vs : List V}, ArgsRep K Hf σ as vs → as.length = vs.length
  | [], _, h => by unfold ArgsRep at h; rw [h]; rfl
  | b :: r, vs, h => by
    unfold ArgsRep at h
    obtain ⟨v, r', rfl, _, h3⟩ := h
    simp [args_len h3]
/-- a lent slot of the callee is an owned one of ours -/
theorem lent_own {as : List Arg} {vs : List V} (S : SR K Hf σ ρ H) (A : ArgsRep K Hf σ as vs) {j : Nat} {d : D} (h : (as.map (slOf ρ))[j]? = some (Sl.o d) ∨ (as.map (slOf ρ))[j]? = some (Sl.p d)) :
    ∃ i a, as[j]? = some (.s i) ∧ (ρ[i]? = some (Sl.o d) ∨ ρ[i]? = some (Sl.p d)) ∧ σ[i]? = some (some (V.ref a)) ∧ (vs.map some)[j]? = some (some (V.ref a)) ∧ Hf a = none ∧ RepO K Hf H d a := by
  rw [List.getElem?_map] at h
  cases e : as[j]? with
  | none => rw [e] at h; simp at h
  | some a =>
    rw [e] at h
    cases a with
    | v d' => simp [slOf] at h
    | s i =>
      simp only [Option.map_some, Option.some.injEq, slOf] at h
      have ho : ρ[i]? = some (Sl.o d) ∨ ρ[i]? = some (Sl.p d) := by
        cases er : ρ[i]? with
        | none => rw [er] at h; simp at h
        | some x =>
          rw [er] at h
          cases x <;> simp at h
          · subst h; exact .inl rfl
          · subst h; exact .inr rfl
      obtain ⟨b, g1, g2, g3⟩ := S.own i d ho
      obtain ⟨v, k1, k2⟩ := args_at A e
      have k3 : σ[i]? = some (some v) := k2
      rw [g1] at k3
      injection k3 with k3
      injection k3 with k3
      subst k3
      exact ⟨i, b, rfl, ho, g1, by rw [List.getElem?_map, k1]; rfl, g2, g3⟩
theorem call_sr {as : List Arg} {vs : List V} (S : SR K Hf σ ρ H) (A : ArgsRep K Hf σ as vs) (ap : apart as = true) : SR K Hf (vs.map some) (as.map (slOf ρ)) H where
  sub := S.sub
  len := by rw [List.length_map, List.length_map, args_len A]
  val := fun j d h => by
    rw [List.getElem?_map] at h
    cases e : as[j]? with
    | none => rw [e] at h; simp at h
    | some a =>
      rw [e] at h
      cases a with
      | v d' =>
        simp [slOf] at h
        subst h
        obtain ⟨v, k1, k2⟩ := args_at A e
        exact ⟨v, by rw [List.getElem?_map, k1]; rfl, k2⟩
      | s i =>
        simp only [Option.map_some, Option.some.injEq, slOf] at h
        cases er : ρ[i]? with
        | none => rw [er] at h; simp at h
        | some x => rw [er] at h; cases x <;> simp at h
  own := fun j d h => by
    obtain ⟨i, a, _, _, _, k4, k5, k6⟩ := lent_own S A h
    exact ⟨a, k4, k5, k6⟩
  inj := fun j l a h h' => by
    obtain ⟨h1, d, h2⟩ := h
    obtain ⟨h3, d', h4⟩ := h'
    obtain ⟨i, b, k1, k2, k3, k4, _, _⟩ := lent_own S A h2
    obtain ⟨i', b', k1', k2', k3', k4', _, _⟩ := lent_own S A h4
    rw [k4] at h1; cases h1
    rw [k4'] at h3; cases h3
    have ei : i = i' := S.inj i i' a ⟨k3, d, k2⟩ ⟨k3', d', k2'⟩
    subst ei
    exact apart_inj ap k1 k1'
/-- behind the call: our own state -/
theorem call_after {as : List Arg} {vs : List V} {ys : Ro} (S : SR K Hf σ ρ H) (A : ArgsRep K Hf σ as vs) (ap : apart as = true)
    (s1 : Stp Hf (vs.map some) (as.map (slOf ρ)) H Hf' (vs.map some) ys H') (S1 : SR K Hf' (vs.map some) ys H') : Stp Hf σ ρ H Hf' σ (putBack as ys ρ) H' ∧ SR K Hf' σ (putBack as ys ρ) H' := by
  have noo : ∀ b, ¬ OO (vs.map some) (as.map (slOf ρ)) b := fun b ⟨j, d, _, h⟩ => by
    rw [List.getElem?_map] at h
    cases e : as[j]? with
    | none => rw [e] at h; simp at h
    | some a =>
      rw [e] at h
      cases a with
      | v d' => simp [slOf] at h
      | s i =>
        simp only [Option.map_some, Option.some.injEq, slOf] at h
        cases er : ρ[i]? with
        | none => rw [er] at h; simp at h
        | some x => rw [er] at h; cases x <;> simp at h
  have loa : ∀ b, OA (vs.map some) (as.map (slOf ρ)) b → OA σ ρ b := fun b ⟨j, h1, d, h2⟩ => by
    obtain ⟨i, a, k1, k2, k3, k4, _, _⟩ := lent_own S A h2
    rw [k4] at h1; cases h1
    exact ⟨i, k3, d, k2⟩
  -- what stands at a slot
  have at_ : ∀ i : Nat, ((putBack as ys ρ)[i]? = ρ[i]? ∧ ∀ j : Nat, as[j]? ≠ some (.s i)) ∨ ∃ (j : Nat) (y : Sl), as[j]? = some (.s i) ∧ ys[j]? = some y ∧ (putBack as ys ρ)[i]? = (ρ[i]?).map fun x => back1 x y := fun i => by
    by_cases h : ∃ j : Nat, as[j]? = some (.s i)
    · obtain ⟨j, h⟩ := h
      have hj : j < ys.length := by
        have e1 : ys.length = vs.length := by have := S1.len; simpa using this.symm
        rw [e1, ← args_len A]
        exact (List.getElem?_eq_some_iff.mp h).1
      exact .inr ⟨j, ys[j], h, List.getElem?_eq_getElem hj, putBack_in ap h (List.getElem?_eq_getElem hj)⟩
    · exact .inl ⟨putBack_out fun j e => h ⟨j, e⟩, fun j e => h ⟨j, e⟩⟩
  -- an owned slot of ours, before and behind
  have own_ : ∀ (i : Nat) (d : D), ((putBack as ys ρ)[i]? = some (Sl.o d) → ∃ d0, ρ[i]? = some (Sl.o d0)) ∧ ((putBack as ys ρ)[i]? = some (Sl.p d) → ∃ d0, ρ[i]? = some (Sl.p d0)) := fun i d => by
    rcases at_ i with ⟨h, _⟩ | ⟨j, y, _, _, h⟩
    · exact ⟨fun e => ⟨d, h ▸ e⟩, fun e => ⟨d, h ▸ e⟩⟩
    · rw [h]
      cases e : ρ[i]? with
      | none => simp
      | some x => cases x <;> cases y <;> simp [back1]
  have own' : ∀ (i : Nat) (d : D), (ρ[i]? = some (Sl.o d) → ∃ d', (putBack as ys ρ)[i]? = some (Sl.o d')) ∧ (ρ[i]? = some (Sl.p d) → ∃ d', (putBack as ys ρ)[i]? = some (Sl.p d')) := fun i d => by
    rcases at_ i with ⟨h, _⟩ | ⟨j, y, _, _, h⟩
    · exact ⟨fun e => ⟨d, h.trans e⟩, fun e => ⟨d, h.trans e⟩⟩
    · constructor
      · intro e; rw [h, e]; cases y <;> simp [back1]
      · intro e; rw [h, e]; cases y <;> simp [back1]
  refine ⟨⟨s1.fz, fun b o h n => s1.keep b o h fun q => n (loa b q), s1.there, fun b h h1 _ => s1.out b h h1 (noo b), fun i d h => ⟨(own' i d).2 h, rfl⟩, fun i d h => (own_ i d).2 h, fun b ⟨i, d, h1, h2⟩ => ?_, putBack_len⟩, ⟨S1.sub, by rw [putBack_len]; exact S.len, fun i d h => ?_, fun i d h => ?_, fun i j a h h' => ?_⟩⟩
  · obtain ⟨d0, h3⟩ := (own_ i d).1 h2
    exact .inr ⟨i, d0, h1, h3⟩
  · have e : ρ[i]? = some (Sl.v d) := by
      rcases at_ i with ⟨g, _⟩ | ⟨j, y, _, _, g⟩
      · exact g ▸ h
      · rw [g] at h
        cases e : ρ[i]? with
        | none => rw [e] at h; simp at h
        | some x => rw [e] at h; cases x <;> cases y <;> simp [back1] at h <;> rw [h]
    obtain ⟨v, g1, g2⟩ := S.val i d e
    exact ⟨v, g1, Rep.mono s1.fz g2⟩
  · -- the owned slot's content
    have h0 : ∃ d0, ρ[i]? = some (Sl.o d0) ∨ ρ[i]? = some (Sl.p d0) := by
      rcases h with h | h
      · obtain ⟨d0, e⟩ := (own_ i d).1 h; exact ⟨d0, .inl e⟩
      · obtain ⟨d0, e⟩ := (own_ i d).2 h; exact ⟨d0, .inr e⟩
    obtain ⟨d0, h0⟩ := h0
    obtain ⟨a, g1, g2, g3⟩ := S.own i d0 h0
    rcases at_ i with ⟨e, hn⟩ | ⟨j, y, k1, k2, e⟩
    · -- not lent
      have hd : d0 = d := by
        rw [e] at h
        rcases h with h | h <;> rcases h0 with h0 | h0 <;> rw [h] at h0 <;> cases h0 <;> rfl
      subst hd
      refine ⟨a, g1, s1.out a g3.there g2 (noo a), RepO.mono s1.fz ?_ g3⟩
      cases q : H a with
      | none => exact absurd q g3.there
      | some o =>
        refine s1.keep a o q fun ⟨j, z1, d1, z2⟩ => ?_
        obtain ⟨i', a', w1, w2, w3, w4, _, _⟩ := lent_own S A z2
        rw [w4] at z1; cases z1
        exact hn j (by rw [S.inj i i' a ⟨g1, d0, h0⟩ ⟨w3, d1, w2⟩]; exact w1)
    · -- lent
      have hl : (as.map (slOf ρ))[j]? = some (Sl.p d0) := by
        rw [List.getElem?_map, k1]
        rcases h0 with h0 | h0 <;> simp [slOf, h0]
      obtain ⟨⟨d2, p1⟩, _⟩ := s1.pin j d0 hl
      rw [k2] at p1; cases p1
      have hd : d2 = d := by
        rw [e] at h
        rcases h0 with h0 | h0 <;> rw [h0] at h <;> rcases h with h | h <;> simp [back1] at h <;> exact h
      subst hd
      obtain ⟨a', q1, q2, q3⟩ := S1.own j d2 (.inr k2)
      obtain ⟨i', a2, w1, w2, w3, w4, _, _⟩ := lent_own S A (.inr hl)
      rw [w4] at q1; cases q1
      have ei : i = i' := by rw [k1] at w1; cases w1; rfl
      subst ei
      rw [g1] at w3; cases w3
      exact ⟨a, g1, q2, q3⟩
  · obtain ⟨h1, d, h2⟩ := h
    obtain ⟨h3, d', h4⟩ := h'
    have z1 : ∃ d0, ρ[i]? = some (Sl.o d0) ∨ ρ[i]? = some (Sl.p d0) := by
      rcases h2 with h | h
      · obtain ⟨d0, e⟩ := (own_ i d).1 h; exact ⟨d0, .inl e⟩
      · obtain ⟨d0, e⟩ := (own_ i d).2 h; exact ⟨d0, .inr e⟩
    have z2 : ∃ d0, ρ[j]? = some (Sl.o d0) ∨ ρ[j]? = some (Sl.p d0) := by
      rcases h4 with h | h
      · obtain ⟨d0, e⟩ := (own_ j d').1 h; exact ⟨d0, .inl e⟩
      · obtain ⟨d0, e⟩ := (own_ j d').2 h; exact ⟨d0, .inr e⟩
    exact S.inj i j a ⟨h1, z1⟩ ⟨h3, z2⟩

theorem callR_inv {m : EM D} {as : List Arg} {k : D → Ro → Prop} (h : Wp K mg W (callR m as ρ) k) : apart as = true ∧ Wp K mg W (m (as.map (slOf ρ))) fun d ys => k d (putBack as ys ρ) := by
  unfold callR at h
  by_cases ap : apart as = true
  · rw [if_pos ap] at h
    refine ⟨ap, ?_⟩
    cases e : m (as.map (slOf ρ)) with
    | bad => rw [e] at h; exact h
    | ok d ys => rw [e] at h; exact h
    | err x => rw [e] at h; exact h
  · rw [if_neg ap] at h; exact h.elim
theorem slOf_no {as : List Arg} (j : Nat) (d : D) : (as.map (slOf ρ))[j]? ≠ some (Sl.o d) := fun h => by
  rw [List.getElem?_map] at h
  cases e : as[j]? with
  | none => rw [e] at h; simp at h
  | some a =>
    rw [e] at h
    cases a with
    | v d' => simp [slOf] at h
    | s i =>
      simp only [Option.map_some, Option.some.injEq, slOf] at h
      cases er : ρ[i]? with
      | none => rw [er] at h; simp at h
      | some x => rw [er] at h; cases x <;> simp at h
theorem putBack_own {i : Nat} : ∀ {as : List Arg} {ys ρ : Ro}, (∃ d, (putBack as ys ρ)[i]? = some (Sl.o d) ∨ (putBack as ys ρ)[i]? = some (Sl.p d)) → ∃ d, ρ[i]? = some (Sl.o d) ∨ ρ[i]? = some (Sl.p d)
  | [], _, _, h => h
  | .v d :: r, [], _, h => h
  | .s k :: r, [], _, h => h
  | .v d :: r, y :: ys, ρ, h => putBack_own (as := r) (ys := ys) h
  | .s k :: r, y :: ys, ρ, h => by
    unfold putBack at h
    have h := putBack_own (as := r) (ys := ys) h
    cases e : ρ[k]? with
    | none => rw [e] at h; exact h
    | some x =>
      rw [e] at h
      simp only at h
      by_cases hk : k = i
      · subst hk
        rw [List.getElem?_set_self (List.getElem?_eq_some_iff.mp e).1] at h
        rw [e]
        obtain ⟨d, h | h⟩ := h <;> cases x <;> cases y <;> simp [back1] at h <;> simp
      · rw [List.getElem?_set_ne hk] at h
        exact h
theorem putBack_oa {as : List Arg} {ys : Ro} {a : Addr} (h : OA σ (putBack as ys ρ) a) : OA σ ρ a := let ⟨i, h1, h2⟩ := h; ⟨i, h1, putBack_own h2⟩
theorem TD.call {t : TA} {n : Nat} {m : EM D} {fa : EM (List Arg)} (ha : TAR K mg W t fa) (hn : ∀ ρ as ρ', fa ρ = .ok as ρ' → as.length = n) : TD K mg W (tCall (spM K mg n m) [] W t) (callE m fa) := by
  intro Hf σ ρ H S Q h
  have h := Wp.bind h
  refine ha Hf σ ρ H S _ ?_
  cases e : fa ρ with
  | bad => rw [e] at h; exact h
  | err x => rw [e] at h; exact h
  | ok as ρ1 =>
    rw [e] at h
    intro vs Hf1 H1 s1 S1 A
    obtain ⟨ap, h1⟩ := callR_inv (show Wp K mg W (callR m as ρ1) _ from h)
    rw [List.append_nil]
    refine ⟨by rw [← args_len A]; exact hn _ _ _ e, Hf1, as.map (slOf ρ1), call_sr S1 A ap, slOf_no, h1.mono fun d ys h2 v Hf2 H2 s2 S2 r2 => ?_⟩
    obtain ⟨s3, S3⟩ := call_after S1 A ap s2 S2
    exact h2 v Hf2 H2 (s1.trans s3) S3 r2
theorem TF.call {t : TA} {n : Nat} {m : EM D} {fa : EM (List Arg)} (ha : TAR K mg W t fa) (hn : ∀ ρ as ρ', fa ρ = .ok as ρ' → as.length = n) : TF K mg W (tCall (spF K mg n m) [] W t) (callE m fa) := by
  intro Hf σ ρ H S Q h
  have h := Wp.bind h
  refine ha Hf σ ρ H S _ ?_
  cases e : fa ρ with
  | bad => rw [e] at h; exact h
  | err x => rw [e] at h; exact h
  | ok as ρ1 =>
    rw [e] at h
    intro vs Hf1 H1 s1 S1 A
    obtain ⟨ap, h1⟩ := callR_inv (show Wp K mg W (callR m as ρ1) _ from h)
    rw [List.append_nil]
    refine ⟨by rw [← args_len A]; exact hn _ _ _ e, Hf1, as.map (slOf ρ1), call_sr S1 A ap, slOf_no, h1.mono fun d ys h2 a Hf2 H2 s2 S2 n1 n2 r2 no => ?_⟩
    obtain ⟨s3, S3⟩ := call_after S1 A ap s2 S2
    refine h2 a Hf2 H2 (s1.trans s3) S3 ?_ n2 r2 fun q => ?_
    · cases q : H a with
      | none => rfl
      | some o => exact absurd n1 (s1.there a (by rw [q]; simp))
    · exact (S1.oa (putBack_oa q)).2 n1
end
end DL

/-! The D layer, 4: targets, statements, loops, defs. -/
namespace DL
open PySem L2

section
variable {K : PySem.W.Frag} {mg : Str → Option Value} {W : XK} {Hf H Hf' H' Hf1 H1 : Hp} {σ σ' : L2.St} {ρ ρ' : Ro}

/-! ### storing data into a slot -/
def setT (i : Nat) (d : D) (ρ : Ro) : Option Ro := match ρ[i]? with
  | none => none
  | some (.p _) => none
  | some _ => some (ρ.set i (.v d))
theorem get_set {α : Type} {l : List α} {i j : Nat} {x : α} : (l.set i x)[j]? = if i = j then (if i < l.length then some x else none) else l[j]? := by
  by_cases h : i = j
  · subst h
    rw [if_pos rfl]
    by_cases hl : i < l.length
    · rw [if_pos hl, List.getElem?_set_self hl]
    · rw [if_neg hl, List.getElem?_eq_none (by simpa using hl)]
  · rw [if_neg h, List.getElem?_set_ne h]
/-- slot i gets data -/
theorem set_v {i : Nat} {d : D} {v : V} (S : SR K Hf σ ρ H) (r : Rep K Hf d v) (hl : i < ρ.length) (np : ∀ d : D, ρ[i]? ≠ some (Sl.p d)) : Stp Hf σ ρ H Hf (σ.set i (some v)) (ρ.set i (.v d)) H ∧ SR K Hf (σ.set i (some v)) (ρ.set i (.v d)) H := by
  have hls : i < σ.length := by rw [S.len]; exact hl
  have old : ∀ (j : Nat) (d' : D), ((ρ.set i (.v d))[j]? = some (Sl.o d') → i ≠ j ∧ ρ[j]? = some (Sl.o d')) ∧ ((ρ.set i (.v d))[j]? = some (Sl.p d') → i ≠ j ∧ ρ[j]? = some (Sl.p d')) := fun j d' => by
    rw [get_set]
    by_cases h : i = j
    · rw [if_pos h, if_pos hl]; simp
    · rw [if_neg h]; exact ⟨fun e => ⟨h, e⟩, fun e => ⟨h, e⟩⟩
  refine ⟨⟨fun _ _ h => h, fun _ _ h _ => h, fun _ h => h, fun _ _ h _ => h, fun j d' h => ?_, fun j d' h => ⟨d', ((old j d').2 h).2⟩, fun b ⟨j, d', h1, h2⟩ => ?_, by simp⟩, ⟨S.sub, by simp [S.len], fun j d' h => ?_, fun j d' h => ?_, fun j l a ⟨h1, d1, h2⟩ ⟨h3, d2, h4⟩ => ?_⟩⟩
  · have ne : i ≠ j := fun e => np d' (e ▸ h)
    exact ⟨⟨d', by rw [get_set, if_neg ne]; exact h⟩, by rw [get_set, if_neg ne]⟩
  · obtain ⟨ne, h3⟩ := (old j d').1 h2
    rw [get_set, if_neg ne] at h1
    exact .inr ⟨j, d', h1, h3⟩
  · rw [get_set] at h
    by_cases e : i = j
    · subst e
      rw [if_pos rfl, if_pos hl] at h
      cases h
      exact ⟨v, by rw [get_set, if_pos rfl, if_pos hls], r⟩
    · rw [if_neg e] at h
      obtain ⟨w, g1, g2⟩ := S.val j d' h
      exact ⟨w, by rw [get_set, if_neg e]; exact g1, g2⟩
  · have h' : i ≠ j ∧ (ρ[j]? = some (Sl.o d') ∨ ρ[j]? = some (Sl.p d')) := by
      rcases h with h | h
      · exact ⟨((old j d').1 h).1, .inl ((old j d').1 h).2⟩
      · exact ⟨((old j d').2 h).1, .inr ((old j d').2 h).2⟩
    obtain ⟨b, g1, g2, g3⟩ := S.own j d' h'.2
    exact ⟨b, by rw [get_set, if_neg h'.1]; exact g1, g2, g3⟩
  · have n1 : i ≠ j ∧ (ρ[j]? = some (Sl.o d1) ∨ ρ[j]? = some (Sl.p d1)) := by
      rcases h2 with h | h
      · exact ⟨((old j d1).1 h).1, .inl ((old j d1).1 h).2⟩
      · exact ⟨((old j d1).2 h).1, .inr ((old j d1).2 h).2⟩
    have n2 : i ≠ l ∧ (ρ[l]? = some (Sl.o d2) ∨ ρ[l]? = some (Sl.p d2)) := by
      rcases h4 with h | h
      · exact ⟨((old l d2).1 h).1, .inl ((old l d2).1 h).2⟩
      · exact ⟨((old l d2).2 h).1, .inr ((old l d2).2 h).2⟩
    rw [get_set, if_neg n1.1] at h1
    rw [get_set, if_neg n2.1] at h3
    exact S.inj j l a ⟨h1, d1, n1.2⟩ ⟨h3, d2, n2.2⟩
/-- slot i gets a thing of its own -/
theorem set_o {i : Nat} {d : D} {a : Addr} (S : SR K Hf σ ρ H) (hf : Hf a = none) (r : RepO K Hf H d a) (no : ¬ OA σ ρ a) (hl : i < ρ.length) (np : ∀ d : D, ρ[i]? ≠ some (Sl.p d)) {H0 Hf0 : Hp} {ρ0 : Ro} (s : Stp Hf0 σ ρ0 H0 Hf σ ρ H) (ha : H0 a = none) :
    Stp Hf0 σ ρ0 H0 Hf (σ.set i (some (.ref a))) (ρ.set i (.o d)) H ∧ SR K Hf (σ.set i (some (.ref a))) (ρ.set i (.o d)) H := by
  have hls : i < σ.length := by rw [S.len]; exact hl
  have old : ∀ (j : Nat) (d' : D), ((ρ.set i (.o d))[j]? = some (Sl.o d') → (i = j ∧ d' = d) ∨ (i ≠ j ∧ ρ[j]? = some (Sl.o d'))) ∧ ((ρ.set i (.o d))[j]? = some (Sl.p d') → i ≠ j ∧ ρ[j]? = some (Sl.p d')) := fun j d' => by
    rw [get_set]
    by_cases h : i = j
    · rw [if_pos h, if_pos hl]; simp [h, eq_comm]
    · rw [if_neg h]; exact ⟨fun e => .inr ⟨h, e⟩, fun e => ⟨h, e⟩⟩
  have own2 : ∀ (j : Nat) (b : Addr), OwnAt (σ.set i (some (.ref a))) (ρ.set i (.o d)) j b → (i = j ∧ b = a) ∨ (i ≠ j ∧ OwnAt σ ρ j b) := fun j b ⟨h1, d1, h2⟩ => by
    by_cases e : i = j
    · subst e
      rw [get_set, if_pos rfl, if_pos hls] at h1
      cases h1
      exact .inl ⟨rfl, rfl⟩
    · rw [get_set, if_neg e] at h1
      rw [get_set, if_neg e] at h2
      exact .inr ⟨e, h1, d1, h2⟩
  refine ⟨⟨s.fz, s.keep, s.there, s.out, fun j d' h => ?_, fun j d' h => s.pin' j d' ((old j d').2 h).2, fun b ⟨j, d', h1, h2⟩ => ?_, by simp [s.len]⟩, ⟨S.sub, by simp [S.len], fun j d' h => ?_, fun j d' h => ?_, fun j l b h1 h2 => ?_⟩⟩
  · obtain ⟨⟨d2, p1⟩, p2⟩ := s.pin j d' h
    have ne : i ≠ j := fun e => np d2 (e ▸ p1)
    exact ⟨⟨d2, by rw [get_set, if_neg ne]; exact p1⟩, by rw [get_set, if_neg ne]⟩
  · by_cases e : i = j
    · subst e
      rw [get_set, if_pos rfl, if_pos hls] at h1
      cases h1
      exact .inl ha
    · rw [get_set, if_neg e] at h1
      rw [get_set, if_neg e] at h2
      exact s.oo b ⟨j, d', h1, h2⟩
  · rw [get_set] at h
    by_cases e : i = j
    · rw [if_pos e, if_pos hl] at h; cases h
    · rw [if_neg e] at h
      obtain ⟨w, g1, g2⟩ := S.val j d' h
      exact ⟨w, by rw [get_set, if_neg e]; exact g1, g2⟩
  · by_cases e : i = j
    · subst e
      have : d' = d := by
        rw [get_set, if_pos rfl, if_pos hl] at h
        rcases h with h | h <;> cases h <;> rfl
      subst this
      exact ⟨a, by rw [get_set, if_pos rfl, if_pos hls], hf, r⟩
    · rw [get_set, if_neg e] at h
      obtain ⟨b, g1, g2, g3⟩ := S.own j d' h
      exact ⟨b, by rw [get_set, if_neg e]; exact g1, g2, g3⟩
  · rcases own2 j b h1 with ⟨e1, e2⟩ | ⟨e1, k1⟩ <;> rcases own2 l b h2 with ⟨f1, f2⟩ | ⟨f1, k2⟩
    · rw [← e1, ← f1]
    · subst e2; exact absurd ⟨l, k2⟩ no
    · subst f2; exact absurd ⟨j, k1⟩ no
    · exact S.inj j l b k1 k2
/-- an owned thing is data from now on; a dict is locked -/
theorem freezeG {i : Nat} {d : D} {a : Addr} {o o' : HO} (S : SR K Hf σ ρ H) (h : ρ[i]? = some (Sl.o d)) (h1 : σ[i]? = some (some (V.ref a))) (h2 : Hf a = none) (h3 : RepO K Hf H d a) (e : H a = some o) (f : Froz o o') (hd : (∃ kvs, o = .dK kvs) → o' ≠ o) :
    Stp Hf σ ρ H (upd Hf a o') σ (ρ.set i (.v d)) (upd H a o') ∧ SR K (upd Hf a o') σ (ρ.set i (.v d)) (upd H a o') := by
  have hl : i < ρ.length := (List.getElem?_eq_some_iff.mp h).1
  have sm : Same Hf (upd Hf a o') := same_upd h2
  have rp : Rep K (upd Hf a o') d (.ref a) := rep_froz e h3 f hd sm upd_same
  have own : OA σ ρ a := ⟨i, h1, d, .inl h⟩
  have old : ∀ (j : Nat) (d' : D), ((ρ.set i (.v d))[j]? = some (Sl.o d') → i ≠ j ∧ ρ[j]? = some (Sl.o d')) ∧ ((ρ.set i (.v d))[j]? = some (Sl.p d') → i ≠ j ∧ ρ[j]? = some (Sl.p d')) := fun j d' => by
    rw [get_set]
    by_cases h : i = j
    · rw [if_pos h, if_pos hl]; simp
    · rw [if_neg h]; exact ⟨fun e => ⟨h, e⟩, fun e => ⟨h, e⟩⟩
  refine ⟨⟨sm, fun b u hb n => ?_, fun b hb => ?_, fun b hb hf n => ?_, fun j d' hp => ?_, fun j d' hp => ⟨d', ((old j d').2 hp).2⟩, fun b ⟨j, d', g1, g2⟩ => .inr ⟨j, d', g1, ((old j d').1 g2).2⟩, by simp⟩, ⟨fun b u e1 => ?_, by simp [S.len], fun j d' hv => ?_, fun j d' ho => ?_, fun j l b ⟨g1, d1, g2⟩ ⟨g3, d2, g4⟩ => ?_⟩⟩
  · rw [upd_ne (fun eb => n (by rw [eb]; exact own))]; exact hb
  · by_cases eb : b = a
    · subst eb; rw [upd_same]; simp
    · rw [upd_ne eb]; exact hb
  · by_cases eb : b = a
    · subst eb; exact absurd ⟨i, d, h1, h⟩ n
    · rw [upd_ne eb]; exact hf
  · have ne : i ≠ j := fun e => by rw [e, hp] at h; cases h
    exact ⟨⟨d', by rw [get_set, if_neg ne]; exact hp⟩, rfl⟩
  · by_cases hb : b = a
    · subst hb; rw [upd_same] at e1 ⊢; exact e1
    · rw [upd_ne hb] at e1 ⊢; exact S.sub b u e1
  · rw [get_set] at hv
    by_cases ej : i = j
    · subst ej
      rw [if_pos rfl, if_pos hl] at hv
      cases hv
      exact ⟨.ref a, h1, rp⟩
    · rw [if_neg ej] at hv
      obtain ⟨w, k1, k2⟩ := S.val j d' hv
      exact ⟨w, k1, Rep.mono sm k2⟩
  · have ho' : i ≠ j ∧ (ρ[j]? = some (Sl.o d') ∨ ρ[j]? = some (Sl.p d')) := by
      rcases ho with g | g
      · exact ⟨((old j d').1 g).1, .inl ((old j d').1 g).2⟩
      · exact ⟨((old j d').2 g).1, .inr ((old j d').2 g).2⟩
    obtain ⟨b, k1, k2, k3⟩ := S.own j d' ho'.2
    have nb : b ≠ a := fun eb => by
      subst eb
      exact ho'.1 (S.inj i j b ⟨h1, d, .inl h⟩ ⟨k1, d', ho'.2⟩)
    exact ⟨b, k1, by rw [upd_ne nb]; exact k2, RepO.mono sm (upd_ne nb) k3⟩
  · have n1 : ρ[j]? = some (Sl.o d1) ∨ ρ[j]? = some (Sl.p d1) := by
      rcases g2 with g | g
      · exact .inl ((old j d1).1 g).2
      · exact .inr ((old j d1).2 g).2
    have n2 : ρ[l]? = some (Sl.o d2) ∨ ρ[l]? = some (Sl.p d2) := by
      rcases g4 with g | g
      · exact .inl ((old l d2).1 g).2
      · exact .inr ((old l d2).2 g).2
    exact S.inj j l b ⟨g1, d1, n1⟩ ⟨g3, d2, n2⟩

/-! ### targets -/
/-- is: the slots that it stores to -/
def TGD (K : PySem.W.Frag) (g : TG) (is : List Nat) (f : D → Ro → Option Ro) : Prop :=
  ∀ Hf σ ρ H d v ρ', SR K Hf σ ρ H → Rep K Hf d v → f d ρ = some ρ' → ∀ Q : L2.St → Hp → Prop, (∀ σ', Stp Hf σ ρ H Hf σ' ρ' H → SR K Hf σ' ρ' H → (∀ j : Nat, j ∉ is → σ'[j]? = σ[j]?) → Q σ' H) → g v σ H Q
def TGDs (K : PySem.W.Frag) (g : TGs) (is : List Nat) (f : List D → Ro → Option Ro) : Prop :=
  ∀ Hf σ ρ H ds vs ρ', SR K Hf σ ρ H → Reps K Hf ds vs → f ds ρ = some ρ' → ∀ Q : L2.St → Hp → Prop, (∀ σ', Stp Hf σ ρ H Hf σ' ρ' H → SR K Hf σ' ρ' H → (∀ j : Nat, j ∉ is → σ'[j]? = σ[j]?) → Q σ' H) → g vs σ H Q
theorem setT_inv {i : Nat} {d : D} (h : setT i d ρ = some ρ') : i < ρ.length ∧ (∀ d : D, ρ[i]? ≠ some (Sl.p d)) ∧ ρ' = ρ.set i (.v d) := by
  unfold setT at h
  cases e : ρ[i]? with
  | none => rw [e] at h; cases h
  | some x =>
    have hl := (List.getElem?_eq_some_iff.mp e).1
    cases x <;> rw [e] at h <;> simp at h <;> exact ⟨hl, (fun d h2 => by simp at h2), h.symm⟩
theorem TGD.name {i : Nat} : TGD K (gName i) [i] (setT i) := by
  intro Hf σ ρ H d v ρ' S r e Q h
  obtain ⟨hl, np, rfl⟩ := setT_inv e
  obtain ⟨s1, S1⟩ := set_v S r hl np
  exact h _ s1 S1 fun j hj => List.getElem?_set_ne (fun e => hj (by simp [e]))
def nilT : List D → Ro → Option Ro
  | [], ρ => some ρ
  | _, _ => none
def consT (f : D → Ro → Option Ro) (g : List D → Ro → Option Ro) : List D → Ro → Option Ro
  | d :: ds, ρ => (f d ρ).bind (g ds)
  | [], _ => none
def tupT (n : Nat) (g : List D → Ro → Option Ro) (d : D) (ρ : Ro) : Option Ro := match d with
  | .tup ds => if ds.length = n then g ds ρ else none
  | .prt ds => if ds.length = n then g ds ρ else none
  | _ => none
theorem TGDs.nil : TGDs K gNil [] nilT := by
  intro Hf σ ρ H ds vs ρ' S r e Q h
  cases ds with
  | nil =>
    unfold nilT at e; cases e
    unfold Reps at r
    exact ⟨r, h σ Stp.refl S fun _ _ => rfl⟩
  | cons => cases e
theorem TGDs.cons {g : TG} {gs : TGs} {is js : List Nat} {f : D → Ro → Option Ro} {fs : List D → Ro → Option Ro} (h1 : TGD K g is f) (h2 : TGDs K gs js fs) : TGDs K (gCons g gs) (is ++ js) (consT f fs) := by
  intro Hf σ ρ H ds vs ρ' S r e Q h
  cases ds with
  | nil => cases e
  | cons d ds =>
    have e : (f d ρ).bind (fs ds) = some ρ' := e
    cases e1 : f d ρ with
    | none => rw [e1] at e; cases e
    | some ρ1 =>
      rw [e1] at e
      unfold Reps at r
      obtain ⟨v, r', rfl, r1, r2⟩ := r
      refine ⟨v, r', rfl, h1 Hf σ ρ H d v ρ1 S r1 e1 _ fun σ1 s1 S1 k1 => ?_⟩
      exact h2 Hf σ1 ρ1 H ds r' ρ' S1 r2 e Q fun σ2 s2 S2 k2 => h σ2 (s1.trans s2) S2 fun j hj => (k2 j fun q => hj (List.mem_append_right _ q)).trans (k1 j fun q => hj (List.mem_append_left _ q))
theorem reps_len : ∀ {ds : List D} {vs : List V}, Reps K Hf ds vs → ds.length = vs.length
  | [], _, h => by unfold Reps at h; rw [h]; rfl
  | d :: ds, _, h => by
    unfold Reps at h
    obtain ⟨v, r, rfl, _, h3⟩ := h
    simp [reps_len h3]
theorem TGD.tup {n : Nat} {gs : TGs} {is : List Nat} {fs : List D → Ro → Option Ro} (h : TGDs K gs is fs) : TGD K (gTup K n gs) is (tupT n fs) := by
  intro Hf σ ρ H d v ρ' S r e Q k
  cases d with
  | tup ds =>
    unfold tupT at e
    simp only at e
    by_cases hn : ds.length = n
    · rw [if_pos hn] at e
      unfold Rep at r
      obtain ⟨a, vs, rfl, r1, r2⟩ := r
      exact ⟨a, vs, rfl, Same.sqT S.sub r1.sqT, by rw [← reps_len r2]; exact hn, h Hf σ ρ H ds vs ρ' S r2 e Q k⟩
    · rw [if_neg hn] at e; cases e
  | prt ds =>
    unfold tupT at e
    simp only at e
    by_cases hn : ds.length = n
    · rw [if_pos hn] at e
      unfold Rep at r
      obtain ⟨a, vs, rfl, r1, r2⟩ := r
      exact ⟨a, vs, rfl, Same.sqT S.sub r1, by rw [← reps_len r2]; exact hn, h Hf σ ρ H ds vs ρ' S r2 e Q k⟩
    · rw [if_neg hn] at e; cases e
  | _ => cases e

/-! ### statements -/
inductive Fl where
  | nx | ret (d : D) | brk | cnt
abbrev SM := Ro → Res Fl
def EndOk (K : PySem.W.Frag) (E : Ends) (fl : Fl) (Hf : Hp) (σ : L2.St) (H : Hp) : Prop := match fl with
  | .nx => E.nx σ H
  | .ret d => ∀ v, Rep K Hf d v → E.rt v H
  | .brk => E.bk σ H
  | .cnt => E.ct σ H
/-- what follows, from a state -/
def Cont (K : PySem.W.Frag) (E : Ends) (Hf : Hp) (σ : L2.St) (ρ : Ro) (H : Hp) (fl : Fl) (ρ' : Ro) : Prop := ∀ Hf' σ' H', Stp Hf σ ρ H Hf' σ' ρ' H' → SR K Hf' σ' ρ' H' → EndOk K E fl Hf' σ' H'
theorem Cont.step {E : Ends} {fl : Fl} {ρ2 : Ro} (c : Cont K E Hf σ ρ H fl ρ2) (s : Stp Hf σ ρ H Hf' σ' ρ' H') : Cont K E Hf' σ' ρ' H' fl ρ2 := fun Hf2 σ2 H2 s2 S2 => c Hf2 σ2 H2 (s.trans s2) S2
def TSD (K : PySem.W.Frag) (mg : Str → Option Value) (W : XK) (t : TS) (f : SM) : Prop :=
  ∀ Hf σ ρ H, SR K Hf σ ρ H → ∀ E : Ends, Wp K mg W (f ρ) (Cont K E Hf σ ρ H) → t E σ H
def seqS (f g : SM) : SM := fun ρ => match f ρ with
  | .ok .nx ρ1 => g ρ1
  | r => r
def nextS : SM := fun ρ => .ok .nx ρ
theorem TSD.next : TSD K mg W tNext nextS := fun Hf σ ρ H S E h => h Hf σ H Stp.refl S
theorem TSD.seq {t u : TS} {f g : SM} (h1 : TSD K mg W t f) (h2 : TSD K mg W u g) : TSD K mg W (tSeq t u) (seqS f g) := by
  intro Hf σ ρ H S E h
  refine h1 Hf σ ρ H S _ ?_
  unfold seqS at h
  cases e : f ρ with
  | bad => rw [e] at h; exact h
  | err x => rw [e] at h; exact h
  | ok fl ρ1 =>
    rw [e] at h
    cases fl with
    | nx =>
      intro Hf1 σ1 H1 s1 S1
      exact h2 Hf1 σ1 ρ1 H1 S1 E (Wp.mono h fun a ρ2 c => c.step s1)
    | ret d => exact fun Hf1 σ1 H1 s1 S1 => h Hf1 σ1 H1 s1 S1
    | brk => exact fun Hf1 σ1 H1 s1 S1 => h Hf1 σ1 H1 s1 S1
    | cnt => exact fun Hf1 σ1 H1 s1 S1 => h Hf1 σ1 H1 s1 S1
def asgS (fe : EM D) (g : D → Ro → Option Ro) : SM := fun ρ => (fe ρ).bind fun d ρ1 => match g d ρ1 with
  | some ρ2 => .ok .nx ρ2
  | none => .bad
theorem Wp.rbind {α β : Type} {r : Res α} {f : α → Ro → Res β} {k : β → Ro → Prop} (h : Wp K mg W (r.bind f) k) : Wp K mg W r fun a ρ1 => Wp K mg W (f a ρ1) k := by
  cases r with
  | bad => exact h
  | ok a ρ' => exact h
  | err x => exact h
theorem TSD.asg {te : TE} {g : TG} {is : List Nat} {fe : EM D} {f : D → Ro → Option Ro} (he : TD K mg W te fe) (hg : TGD K g is f) : TSD K mg W (tAsg te g) (asgS fe f) := by
  intro Hf σ ρ H S E h
  refine he Hf σ ρ H S _ ((Wp.rbind h).mono fun d ρ1 h1 v Hf1 H1 s1 S1 r1 => ?_)
  cases e : f d ρ1 with
  | none => rw [e] at h1; exact h1.elim
  | some ρ2 =>
    rw [e] at h1
    exact hg Hf1 σ ρ1 H1 d v ρ2 S1 r1 e _ fun σ2 s2 S2 _ => h1 Hf1 σ2 H1 (s1.trans s2) S2
/-- name = a new list or dict, the name's own -/
def newS (i : Nat) (fe : EM D) : SM := fun ρ => (fe ρ).bind fun d ρ1 => match ρ1[i]? with
  | none => .bad
  | some (.p _) => .bad
  | some _ => .ok .nx (ρ1.set i (.o d))
theorem TSD.new {te : TE} {i : Nat} {fe : EM D} (he : TF K mg W te fe) : TSD K mg W (tAsg te (gName i)) (newS i fe) := by
  intro Hf σ ρ H S E h
  refine he Hf σ ρ H S _ ((Wp.rbind h).mono fun d ρ1 h1 a Hf1 H1 s1 S1 ha hf ro no => ?_)
  cases e : ρ1[i]? with
  | none => rw [e] at h1; exact h1.elim
  | some x =>
    have hl := (List.getElem?_eq_some_iff.mp e).1
    have fin : (∀ d, ρ1[i]? ≠ some (Sl.p d)) → Wp K mg W (.ok .nx (ρ1.set i (.o d)) : Res Fl) (Cont K E Hf σ ρ H) → (tAsg te (gName i) = tAsg te (gName i)) ∧ E.nx (σ.set i (some (.ref a))) H1 := fun np q => by
      obtain ⟨s2, S2⟩ := set_o S1 hf ro no hl np s1 ha
      exact ⟨rfl, q Hf1 _ H1 s2 S2⟩
    rw [e] at h1
    cases x with
    | p d => exact h1.elim
    | u => exact (fin (fun d q => by rw [e] at q; cases q) h1).2
    | v d => exact (fin (fun d q => by rw [e] at q; cases q) h1).2
    | o d => exact (fin (fun d q => by rw [e] at q; cases q) h1).2
/-- .. only if it is owned still -/
def thawS (i : Nat) : SM := fun ρ => match ρ[i]? with
  | some (.o d) => .ok .nx (ρ.set i (.v d))
  | _ => .ok .nx ρ
/-- the dict in slot i is locked ahead of the statements -/
def tLkS (i : Nat) (t : TS) : TS := fun D σ H => (∃ a kvs, σ[i]? = some (some (V.ref a)) ∧ H a = some (.dK kvs) ∧ ∀ o, t D σ (upd H a (.frz o (.dK kvs)))) ∨ t D σ H
theorem pss_lk {X : Cx} {sts : List Stmt} {t : TS} (i : Nat) (h : PSs X sts t) : PSs X sts (tLkS i t) := by
  refine ⟨fun pins s σ H D I q => ?_⟩
  rcases q with ⟨a, kvs, _, ha, q⟩ | q
  · obtain ⟨od, I2⟩ := I.lock ha trivial
    exact h.run pins s σ _ D I2 (q od)
  · exact h.run pins s σ H D I q
theorem TSD.thaw {t : TS} {f : SM} (i : Nat) (h : TSD K mg W t f) : TSD K mg W (tLkS i t) (seqS (thawS i) f) := by
  intro Hf σ ρ H S E q
  unfold seqS thawS at q
  cases e : ρ[i]? with
  | none => rw [e] at q; exact .inr (h Hf σ ρ H S E q)
  | some x =>
    rw [e] at q
    cases x with
    | o d =>
      obtain ⟨a, h1, h2, h3⟩ := S.own i d (.inl e)
      obtain ⟨o, ea⟩ : ∃ o, H a = some o := by
        cases e : H a with
        | none => exact absurd e h3.there
        | some o => exact ⟨o, rfl⟩
      by_cases hk : ∃ kvs, o = .dK kvs
      · obtain ⟨kvs, rfl⟩ := hk
        refine .inl ⟨a, kvs, h1, ea, fun ob => ?_⟩
        obtain ⟨s1, S1⟩ := freezeG (o' := .frz ob (.dK kvs)) S e h1 h2 h3 ea (.inr ⟨ob, kvs, rfl, rfl⟩) (fun _ h => by cases h)
        exact h _ σ _ _ S1 E (Wp.mono q fun a ρ2 c => c.step s1)
      · obtain ⟨s1, S1⟩ := freezeG (o' := o) S e h1 h2 h3 ea (.inl rfl) (fun h => absurd h hk)
        rw [upd_self ea] at s1 S1
        exact .inr (h _ σ _ H S1 E (Wp.mono q fun a ρ2 c => c.step s1))
    | _ => exact .inr (h Hf σ ρ H S E q)
def retS (fe : EM D) : SM := fun ρ => (fe ρ).bind fun d ρ1 => .ok (.ret d) ρ1
theorem TSD.ret {te : TE} {fe : EM D} (he : TD K mg W te fe) : TSD K mg W (tRet te) (retS fe) := by
  intro Hf σ ρ H S E h
  refine he Hf σ ρ H S _ ((Wp.rbind h).mono fun d ρ1 h1 v Hf1 H1 s1 S1 r1 => ?_)
  exact h1 Hf1 σ H1 s1 S1 v r1
def retNS : SM := fun ρ => .ok (.ret .non) ρ
theorem TSD.retN : TSD K mg W tRetN retNS := fun Hf σ ρ H S E h => h Hf σ H Stp.refl S .non (by unfold Rep; rfl)
def dropS (fe : EM D) : SM := fun ρ => (fe ρ).bind fun _ ρ1 => .ok .nx ρ1
theorem TSD.drop {te : TE} {fe : EM D} (he : TD K mg W te fe) : TSD K mg W (tDrop te) (dropS fe) := by
  intro Hf σ ρ H S E h
  refine he Hf σ ρ H S _ ((Wp.rbind h).mono fun d ρ1 h1 v Hf1 H1 s1 S1 r1 => ?_)
  exact h1 Hf1 σ H1 s1 S1
def ifS (c : EM Bool) (f g : SM) : SM := fun ρ => (c ρ).bind fun b ρ1 => if b then f ρ1 else g ρ1
theorem TSD.ifS {c : TT} {t u : TS} {fc : EM Bool} {f g : SM} (hc : TB K mg W c fc) (h1 : TSD K mg W t f) (h2 : TSD K mg W u g) : TSD K mg W (tIfS c t u) (DL.ifS fc f g) := by
  intro Hf σ ρ H S E h
  refine hc Hf σ ρ H S _ ((Wp.rbind h).mono fun b ρ1 q Hf1 H1 s1 S1 => ?_)
  cases b with
  | true =>
    rw [if_pos rfl]
    exact h1 Hf1 σ ρ1 H1 S1 E (Wp.mono q fun a ρ2 c => c.step s1)
  | false =>
    rw [if_neg (by decide)]
    exact h2 Hf1 σ ρ1 H1 S1 E (Wp.mono q fun a ρ2 c => c.step s1)
def brkS : SM := fun ρ => .ok .brk ρ
def cntS : SM := fun ρ => .ok .cnt ρ
theorem TSD.brk : TSD K mg W tBreak brkS := fun Hf σ ρ H S E h => h Hf σ H Stp.refl S
theorem TSD.cnt : TSD K mg W tCont cntS := fun Hf σ ρ H S E h => h Hf σ H Stp.refl S

/-! ### for -/
/-- an iterator over the data ds, told at Hf -/
structure Itd (K : PySem.W.Frag) (J : It) (Hf : Hp) (ds : List D) : Prop where
  go : ∀ (i : Nat) (d : D) Hf1 H1, Same Hf Hf1 → Same Hf1 H1 → ds[i]? = some d → J.go i H1 ∧ ∀ x H2, J.yld i H1 x H2 → ∃ Hf2, New Hf1 H1 Hf2 H2 ∧ Rep K Hf2 d x
  stop : ∀ Hf1 H1, Same Hf Hf1 → Same Hf1 H1 → J.stop ds.length H1
def TID (K : PySem.W.Frag) (mg : Str → Option Value) (W : XK) (t : TI) (f : EM (List D)) : Prop :=
  ∀ Hf σ ρ H, SR K Hf σ ρ H → ∀ R : It → Hp → Prop, Wp K mg W (f ρ) (fun ds ρ' => ∀ J Hf' H', Stp Hf σ ρ H Hf' σ ρ' H' → SR K Hf' σ ρ' H' → Itd K J Hf' ds → R J H') → t σ H R
def loopS (g : D → Ro → Option Ro) (f : SM) : List D → SM
  | [], ρ => .ok .nx ρ
  | d :: ds, ρ => match g d ρ with
    | none => .bad
    | some ρ1 => match f ρ1 with
      | .ok .nx ρ2 => loopS g f ds ρ2
      | .ok .cnt ρ2 => loopS g f ds ρ2
      | .ok .brk ρ2 => .ok .nx ρ2
      | r => r
def forS (fi : EM (List D)) (g : D → Ro → Option Ro) (f : SM) : SM := fun ρ => (fi ρ).bind fun ds ρ1 => loopS g f ds ρ1
theorem TSD.forS {wi : TI} {g : TG} {tb : TS} {is : List Nat} {fi : EM (List D)} {fg : D → Ro → Option Ro} {fb : SM} (hi : TID K mg W wi fi) (hg : TGD K g is fg) (hb : TSD K mg W tb fb) : TSD K mg W (tFor wi g tb) (DL.forS fi fg fb) := by
  intro Hf σ ρ H S E h
  refine hi Hf σ ρ H S _ ((Wp.rbind h).mono fun ds ρ1 h1 J Hf1 H1 s1 S1 it => ?_)
  refine ⟨fun i m σ' H' => ∃ Hf' ρ', SR K Hf' σ' ρ' H' ∧ i ≤ ds.length ∧ m = ds.length - i ∧ Same Hf1 Hf' ∧ Wp K mg W (loopS fg fb (ds.drop i) ρ') (Cont K E Hf' σ' ρ' H'), ⟨ds.length, Hf1, ρ1, S1, Nat.zero_le _, rfl, fun _ _ h => h, ?_⟩, fun i m σ' H' ⟨Hf', ρ', S', hi', hm, sm, q⟩ => ?_⟩
  · exact Wp.mono h1 fun a ρ2 c => Cont.step c s1
  · by_cases e : i = ds.length
    · subst e
      left
      rw [List.drop_length] at q
      exact ⟨it.stop Hf' H' sm S'.sub, q Hf' σ' H' Stp.refl S'⟩
    · right
      have lt : i < ds.length := by omega
      have ei : ds[i]? = some ds[i] := List.getElem?_eq_getElem lt
      obtain ⟨g1, g2⟩ := it.go i ds[i] Hf' H' sm S'.sub ei
      refine ⟨g1, _, fun σ2 H2 (z : ∃ m', m' < m ∧ _) => z, fun x H2 y => ?_⟩
      obtain ⟨Hf2, n, r⟩ := g2 x H2 y
      rw [List.drop_eq_getElem_cons lt] at q
      unfold loopS at q
      cases e1 : fg ds[i] ρ' with
      | none => rw [e1] at q; exact q.elim
      | some ρ2 =>
        rw [e1] at q
        have q : Wp K mg W (match fb ρ2 with
          | .ok .nx ρ2 => loopS fg fb (ds.drop (i + 1)) ρ2
          | .ok .cnt ρ2 => loopS fg fb (ds.drop (i + 1)) ρ2
          | .ok .brk ρ2 => .ok .nx ρ2
          | r => r) (Cont K E Hf' σ' ρ' H') := q
        refine hg Hf2 σ' ρ' H2 ds[i] x ρ2 (n.sr S') r e1 _ fun σ3 s3 S3 _ => ?_
        have st : Stp Hf' σ' ρ' H' Hf2 σ3 ρ2 H2 := (n.stp).trans s3
        refine hb Hf2 σ3 ρ2 H2 S3 _ ?_
        have next : ∀ ρ4, Wp K mg W (loopS fg fb (ds.drop (i + 1)) ρ4) (Cont K E Hf' σ' ρ' H') → ∀ Hf4 σ4 H4, Stp Hf2 σ3 ρ2 H2 Hf4 σ4 ρ4 H4 → SR K Hf4 σ4 ρ4 H4 → ∃ m', m' < m ∧ ∃ Hf' ρ', SR K Hf' σ4 ρ' H4 ∧ i + 1 ≤ ds.length ∧ m' = ds.length - (i + 1) ∧ Same Hf1 Hf' ∧ Wp K mg W (loopS fg fb (ds.drop (i + 1)) ρ') (Cont K E Hf' σ4 ρ' H4) :=
          fun ρ4 w Hf4 σ4 H4 s4 S4 => ⟨ds.length - (i + 1), by omega, Hf4, ρ4, S4, lt, rfl, Same.trans sm (Same.trans st.fz s4.fz), Wp.mono w fun a ρ5 c => Cont.step c (st.trans s4)⟩
        cases e2 : fb ρ2 with
        | bad => rw [e2] at q; exact q
        | err x => rw [e2] at q; exact q
        | ok fl ρ4 =>
          rw [e2] at q
          cases fl with
          | nx => exact fun Hf4 σ4 H4 s4 S4 => next ρ4 q Hf4 σ4 H4 s4 S4
          | cnt => exact fun Hf4 σ4 H4 s4 S4 => next ρ4 q Hf4 σ4 H4 s4 S4
          | brk => exact fun Hf4 σ4 H4 s4 S4 => q Hf4 σ4 H4 (st.trans s4) S4
          | ret d => exact fun Hf4 σ4 H4 s4 S4 => q Hf4 σ4 H4 (st.trans s4) S4
/-! ### while -/
def iterS (c : EM Bool) (f : SM) : Nat → SM
  | 0, _ => .bad
  | n + 1, ρ => match c ρ with
    | .bad => .bad
    | .err x => .err x
    | .ok false ρ1 => .ok .nx ρ1
    | .ok true ρ1 => match f ρ1 with
      | .ok .nx ρ2 => iterS c f n ρ2
      | .ok .cnt ρ2 => iterS c f n ρ2
      | .ok .brk ρ2 => .ok .nx ρ2
      | r => r
theorem TSD.whileS {c : TT} {tb : TS} {fc : EM Bool} {fb : SM} (n : Nat) (hc : TB K mg W c fc) (hb : TSD K mg W tb fb) : TSD K mg W (tWhile c tb) (iterS fc fb n) := by
  intro Hf σ ρ H S E h
  refine ⟨fun m σ' H' => ∃ Hf' ρ', SR K Hf' σ' ρ' H' ∧ Wp K mg W (iterS fc fb m ρ') (Cont K E Hf' σ' ρ' H'), ⟨n, Hf, ρ, S, h⟩, fun m σ' H' ⟨Hf', ρ', S', q⟩ => ?_⟩
  refine hc Hf' σ' ρ' H' S' _ ?_
  cases m with
  | zero => exact q.elim
  | succ m =>
    unfold iterS at q
    cases e : fc ρ' with
    | bad => rw [e] at q; exact q
    | err x => rw [e] at q; exact q
    | ok b ρ1 =>
      rw [e] at q
      intro Hf1 H1 s1 S1
      cases b with
      | false =>
        rw [if_neg (by decide)]
        exact q Hf1 σ' H1 s1 S1
      | true =>
        rw [if_pos rfl]
        refine ⟨_, fun σ2 H2 (z : ∃ m', m' < m + 1 ∧ _) => z, ?_⟩
        refine hb Hf1 σ' ρ1 H1 S1 _ ?_
        have q : Wp K mg W (match fb ρ1 with
          | .ok .nx ρ2 => iterS fc fb m ρ2
          | .ok .cnt ρ2 => iterS fc fb m ρ2
          | .ok .brk ρ2 => .ok .nx ρ2
          | r => r) (Cont K E Hf' σ' ρ' H') := q
        have next : ∀ ρ4, Wp K mg W (iterS fc fb m ρ4) (Cont K E Hf' σ' ρ' H') → ∀ Hf4 σ4 H4, Stp Hf1 σ' ρ1 H1 Hf4 σ4 ρ4 H4 → SR K Hf4 σ4 ρ4 H4 → ∃ m', m' < m + 1 ∧ ∃ Hf' ρ', SR K Hf' σ4 ρ' H4 ∧ Wp K mg W (iterS fc fb m' ρ') (Cont K E Hf' σ4 ρ' H4) :=
          fun ρ4 w Hf4 σ4 H4 s4 S4 => ⟨m, Nat.lt_succ_self _, Hf4, ρ4, S4, Wp.mono w fun a ρ5 c => Cont.step c (s1.trans s4)⟩
        cases e2 : fb ρ1 with
        | bad => rw [e2] at q; exact q
        | err x => rw [e2] at q; exact q
        | ok fl ρ4 =>
          rw [e2] at q
          cases fl with
          | nx => exact fun Hf4 σ4 H4 s4 S4 => next ρ4 q Hf4 σ4 H4 s4 S4
          | cnt => exact fun Hf4 σ4 H4 s4 S4 => next ρ4 q Hf4 σ4 H4 s4 S4
          | brk => exact fun Hf4 σ4 H4 s4 S4 => q Hf4 σ4 H4 (s1.trans s4) S4
          | ret d => exact fun Hf4 σ4 H4 s4 S4 => q Hf4 σ4 H4 (s1.trans s4) S4
end
end DL

/-! The D layer, 5: comprehensions, defs. -/
namespace DL
open PySem L2

section
variable {K : PySem.W.Frag} {mg : Str → Option Value} {W : XK} {Hf H Hf' H' Hf1 H1 : Hp} {σ σ' : L2.St} {ρ ρ' : Ro}

/-! ### comprehensions -/
def wipeR (ρ : Ro) : List Nat → Ro
  | [] => ρ
  | v :: vs => (wipeR ρ vs).set v .u
/-- the block's own slots as they stood ahead of it -/
def unwipe (ρ ρ' : Ro) : List Nat → Ro
  | [] => ρ'
  | v :: vs => match ρ[v]? with
    | some x => (unwipe ρ ρ' vs).set v x
    | none => unwipe ρ ρ' vs
def plainAt (ρ : Ro) (i : Nat) : Bool := match ρ[i]? with
  | some (.o _) => false
  | some (.p _) => false
  | _ => true
def noErr {α : Type} (r : Res α) : Res α := match r with
  | .err _ => .bad
  | r => r
def lcLoop (vs : List Nat) (g : D → Ro → Option Ro) (ft : EM Bool) (fe : EM D) : List D → List D → Ro → Res D
  | [], acc, ρ => .ok (.lst acc) ρ
  | d :: ds, acc, ρ => match g d (wipeR ρ vs) with
    | none => .bad
    | some ρ1 => match ft ρ1 with
      | .ok false ρ2 => lcLoop vs g ft fe ds acc (unwipe ρ ρ2 vs)
      | .ok true ρ2 => match fe ρ2 with
        | .ok y ρ3 => lcLoop vs g ft fe ds (acc ++ [y]) (unwipe ρ ρ3 vs)
        | _ => .bad
      | _ => .bad
def lcE (vs : List Nat) (fi : EM (List D)) (g : D → Ro → Option Ro) (ft : EM Bool) (fe : EM D) : EM D := fun ρ => (fi ρ).bind fun ds ρ1 =>
  if vs.all (plainAt ρ1) && decide (ds.length ≤ 1000000) then lcLoop vs g ft fe ds [] ρ1 else .bad

theorem wipeR_len : ∀ {vs : List Nat}, (wipeR ρ vs).length = ρ.length
  | [] => rfl
  | v :: vs => by unfold wipeR; rw [List.length_set, wipeR_len]
theorem unwipe_len : ∀ {vs : List Nat}, (unwipe ρ ρ' vs).length = ρ'.length
  | [] => rfl
  | v :: vs => by
    unfold unwipe
    cases ρ[v]? <;> simp [unwipe_len (vs := vs)]
theorem wipeR_out {i : Nat} : ∀ {vs : List Nat}, i ∉ vs → (wipeR ρ vs)[i]? = ρ[i]?
  | [], _ => rfl
  | v :: vs, h => by
    unfold wipeR
    rw [List.getElem?_set_ne (fun e => h (by simp [e])), wipeR_out fun q => h (List.mem_cons_of_mem _ q)]
theorem wipeR_in {i : Nat} : ∀ {vs : List Nat}, i ∈ vs → (wipeR ρ vs)[i]? = none ∨ (wipeR ρ vs)[i]? = some Sl.u
  | v :: vs, h => by
    unfold wipeR
    rw [get_set]
    by_cases e : v = i
    · rw [if_pos e]
      by_cases l : v < (wipeR ρ vs).length
      · rw [if_pos l]; exact .inr rfl
      · rw [if_neg l]; exact .inl rfl
    · rw [if_neg e]
      rcases List.mem_cons.mp h with q | q
      · exact absurd q.symm e
      · exact wipeR_in q
theorem unwipe_out {i : Nat} : ∀ {vs : List Nat}, i ∉ vs → (unwipe ρ ρ' vs)[i]? = ρ'[i]?
  | [], _ => rfl
  | v :: vs, h => by
    unfold unwipe
    have ih := unwipe_out (vs := vs) fun q => h (List.mem_cons_of_mem _ q)
    cases e : ρ[v]? with
    | none => exact ih
    | some x =>
      simp only
      rw [List.getElem?_set_ne (fun e => h (by simp [e]))]; exact ih
theorem unwipe_in {i : Nat} (hl : ρ'.length = ρ.length) : ∀ {vs : List Nat}, i ∈ vs → (unwipe ρ ρ' vs)[i]? = ρ[i]?
  | v :: vs, h => by
    unfold unwipe
    by_cases e : v = i
    · subst e
      cases er : ρ[v]? with
      | none =>
        simp only
        rw [List.getElem?_eq_none]
        rw [unwipe_len, hl]
        exact List.getElem?_eq_none_iff.mp er
      | some x =>
        simp only
        rw [List.getElem?_set_self]
        rw [unwipe_len, hl]
        exact (List.getElem?_eq_some_iff.mp er).1
    · have ih : (unwipe ρ ρ' vs)[i]? = ρ[i]? := by
        rcases List.mem_cons.mp h with q | q
        · exact absurd q.symm e
        · exact unwipe_in hl q
      cases er : ρ[v]? with
      | none => exact ih
      | some x => simp only; rw [List.getElem?_set_ne e]; exact ih
theorem wipe_in {i : Nat} : ∀ {vs : List Nat}, i ∈ vs → (wipe σ vs)[i]? = none ∨ (wipe σ vs)[i]? = some none
  | v :: vs, h => by
    unfold wipe
    rw [get_set]
    by_cases e : v = i
    · rw [if_pos e]
      by_cases l : v < (wipe σ vs).length
      · rw [if_pos l]; exact .inr rfl
      · rw [if_neg l]; exact .inl rfl
    · rw [if_neg e]
      rcases List.mem_cons.mp h with q | q
      · exact absurd q.symm e
      · exact wipe_in q
theorem wipe_eq {σ2 : L2.St} {vs : List Nat} (hl : σ2.length = σ.length) (h : ∀ j : Nat, j ∉ vs → σ2[j]? = (wipe σ vs)[j]?) : wipe σ2 vs = wipe σ vs := by
  apply List.ext_getElem?
  intro j
  by_cases hj : j ∈ vs
  · have l1 : (wipe σ2 vs).length = (wipe σ vs).length := by rw [wipe_length, wipe_length, hl]
    rcases wipe_in (σ := σ2) hj with a | a <;> rcases wipe_in (σ := σ) hj with b | b
    · rw [a, b]
    · have := List.getElem?_eq_none_iff.mp a
      have := (List.getElem?_eq_some_iff.mp b).1
      omega
    · have := List.getElem?_eq_none_iff.mp b
      have := (List.getElem?_eq_some_iff.mp a).1
      omega
    · rw [a, b]
  · rw [wipe_out hj]; exact h j hj

/-- into the block -/
theorem wipe_step {vs : List Nat} (S : SR K Hf σ ρ H) (hp : vs.all (plainAt ρ) = true) : Stp Hf σ ρ H Hf (wipe σ vs) (wipeR ρ vs) H ∧ SR K Hf (wipe σ vs) (wipeR ρ vs) H := by
  have own : ∀ (i : Nat) (d : D), ((wipeR ρ vs)[i]? = some (Sl.o d) ∨ (wipeR ρ vs)[i]? = some (Sl.p d) ∨ (wipeR ρ vs)[i]? = some (Sl.v d)) → i ∉ vs := fun i d h hi => by
    rcases wipeR_in (ρ := ρ) hi with q | q <;> rw [q] at h <;> simp at h
  have np : ∀ (i : Nat) (d : D), (ρ[i]? = some (Sl.p d) ∨ ρ[i]? = some (Sl.o d)) → i ∉ vs := fun i d h hi => by
    have := List.all_eq_true.mp hp i hi
    unfold plainAt at this
    rcases h with h | h <;> rw [h] at this <;> simp at this
  refine ⟨⟨fun _ _ h => h, fun _ _ h _ => h, fun _ h => h, fun _ _ h _ => h, fun i d h => ?_, fun i d h => ?_, fun b ⟨i, d, h1, h2⟩ => ?_, wipeR_len⟩, ⟨S.sub, by rw [wipe_length, wipeR_len]; exact S.len, fun i d h => ?_, fun i d h => ?_, fun i j a ⟨h1, d1, h2⟩ ⟨h3, d2, h4⟩ => ?_⟩⟩
  · have ni := np i d (.inl h)
    exact ⟨⟨d, by rw [wipeR_out ni]; exact h⟩, wipe_out ni⟩
  · have ni := own i d (.inr (.inl h))
    rw [wipeR_out ni] at h
    exact ⟨d, h⟩
  · have ni := own i d (.inl h2)
    rw [wipeR_out ni] at h2
    rw [wipe_out ni] at h1
    exact .inr ⟨i, d, h1, h2⟩
  · have ni := own i d (.inr (.inr h))
    rw [wipeR_out ni] at h
    rw [wipe_out ni]
    exact S.val i d h
  · have ni : i ∉ vs := by
      rcases h with h | h
      · exact own i d (.inl h)
      · exact own i d (.inr (.inl h))
    rw [wipeR_out ni] at h
    rw [wipe_out ni]
    exact S.own i d h
  · have ni : i ∉ vs := by
      rcases h2 with h | h
      · exact own i d1 (.inl h)
      · exact own i d1 (.inr (.inl h))
    have nj : j ∉ vs := by
      rcases h4 with h | h
      · exact own j d2 (.inl h)
      · exact own j d2 (.inr (.inl h))
    rw [wipeR_out ni] at h2
    rw [wipeR_out nj] at h4
    rw [wipe_out ni] at h1
    rw [wipe_out nj] at h3
    exact S.inj i j a ⟨h1, d1, h2⟩ ⟨h3, d2, h4⟩
/-- out of the block -/
theorem unwipe_step {vs : List Nat} {σ2 : L2.St} (S : SR K Hf σ ρ H) (hp : vs.all (plainAt ρ) = true) (h2 : ∀ j : Nat, j ∉ vs → σ2[j]? = σ[j]?) (s : Stp Hf σ ρ H Hf' σ2 ρ' H') (S' : SR K Hf' σ2 ρ' H') :
    Stp Hf σ ρ H Hf' σ (unwipe ρ ρ' vs) H' ∧ SR K Hf' σ (unwipe ρ ρ' vs) H' := by
  have np : ∀ (i : Nat) (d : D), (ρ[i]? = some (Sl.p d) ∨ ρ[i]? = some (Sl.o d)) → i ∉ vs := fun i d h hi => by
    have := List.all_eq_true.mp hp i hi
    unfold plainAt at this
    rcases h with h | h <;> rw [h] at this <;> simp at this
  have own : ∀ (i : Nat) (d : D), ((unwipe ρ ρ' vs)[i]? = some (Sl.o d) ∨ (unwipe ρ ρ' vs)[i]? = some (Sl.p d)) → i ∉ vs := fun i d h hi => by
    rw [unwipe_in s.len hi] at h
    exact np i d (h.symm) hi
  refine ⟨⟨s.fz, s.keep, s.there, s.out, fun i d h => ?_, fun i d h => ?_, fun b ⟨i, d, h1, h3⟩ => ?_, by rw [unwipe_len]; exact s.len⟩, ⟨S'.sub, by rw [unwipe_len, s.len]; exact S.len, fun i d h => ?_, fun i d h => ?_, fun i j a ⟨h1, d1, h3⟩ ⟨h4, d2, h5⟩ => ?_⟩⟩
  · have ni := np i d (.inl h)
    rw [unwipe_out ni]
    exact ⟨(s.pin i d h).1, rfl⟩
  · have ni := own i d (.inr h)
    rw [unwipe_out ni] at h
    exact s.pin' i d h
  · have ni := own i d (.inl h3)
    rw [unwipe_out ni] at h3
    exact s.oo b ⟨i, d, by rw [h2 i ni]; exact h1, h3⟩
  · by_cases hi : i ∈ vs
    · rw [unwipe_in s.len hi] at h
      obtain ⟨v, g1, g2⟩ := S.val i d h
      exact ⟨v, g1, Rep.mono s.fz g2⟩
    · rw [unwipe_out hi] at h
      rw [← h2 i hi]
      exact S'.val i d h
  · have ni := own i d h
    rw [unwipe_out ni] at h
    rw [← h2 i ni]
    exact S'.own i d h
  · have ni := own i d1 h3
    have nj := own j d2 h5
    rw [unwipe_out ni] at h3
    rw [unwipe_out nj] at h5
    rw [← h2 i ni] at h1
    rw [← h2 j nj] at h4
    exact S'.inj i j a ⟨h1, d1, h3⟩ ⟨h4, d2, h5⟩
theorem reps_snoc : ∀ {ds : List D} {vs : List V} {d : D} {v : V}, Reps K Hf ds vs → Rep K Hf d v → Reps K Hf (ds ++ [d]) (vs ++ [v])
  | [], _, _, _, h, r => by
    unfold Reps at h
    subst h
    exact reps_cons r (by unfold Reps; rfl)
  | d :: ds, _, _, _, h, r => by
    unfold Reps at h
    obtain ⟨v, r', rfl, h1, h2⟩ := h
    exact reps_cons h1 (reps_snoc h2 r)
abbrev E00 : XK := fun _ _ _ => False
theorem big_line {n : Nat} (h : n ≤ 1000000) : n < sizeLine := Nat.lt_of_le_of_lt h (by decide)

theorem TF.lc {wi : TI} {g : TG} {tt : TT} {te : TE} {vs : List Nat} {is : List Nat} {fi : EM (List D)} {fg : D → Ro → Option Ro} {ft : EM Bool} {fe : EM D} (hi : TID K mg W wi fi) (hg : TGD K g is fg) (hs : ∀ i ∈ is, i ∈ vs)
    (ht : TB K mg E00 tt ft) (he : TD K mg E00 te fe) : TF K mg W (tLc wi g tt te vs) (lcE vs fi fg ft fe) := by
  intro Hf σ ρ H S Q h
  refine hi Hf σ ρ H S _ ((Wp.rbind h).mono fun ds ρ1 h1 J Hf1 H1 s1 S1 it => ?_)
  by_cases hc : (vs.all (plainAt ρ1) && decide (ds.length ≤ 1000000)) = true
  rotate_left
  · rw [if_neg hc] at h1; exact h1.elim
  rw [if_pos hc] at h1
  rw [Bool.and_eq_true] at hc
  have hlen : ds.length ≤ 1000000 := of_decide_eq_true hc.2
  intro Da hD
  have hfD : Hf1 Da = none := none_sub S1.sub hD
  have sm0 : Same H1 (upd H1 Da (.lst [])) := same_upd hD
  -- the state with the new list, which is nobody's
  have S1' : SR K Hf1 σ ρ1 (upd H1 Da (.lst [])) := ⟨Same.trans S1.sub sm0, S1.len, S1.val, fun i d q => by
    obtain ⟨a, g1, g2, g3⟩ := S1.own i d q
    have ne : a ≠ Da := fun e => g3.there (by rw [e]; exact hD)
    exact ⟨a, g1, g2, RepO.mono (fun _ _ h => h) (upd_ne ne) g3⟩, S1.inj⟩
  have s1' : Stp Hf σ ρ H Hf1 σ ρ1 (upd H1 Da (.lst [])) := s1.trans ⟨fun _ _ h => h, fun b o q _ => sm0 b o q, fun b q => by
    cases e : H1 b with
    | none => exact absurd e q
    | some o => rw [sm0 b o e]; simp, fun _ _ q _ => q, fun i d q => ⟨⟨d, q⟩, rfl⟩, fun i d q => ⟨d, q⟩, fun _ q => .inr q, rfl⟩
  refine ⟨fun i m H' => ∃ Hf' ρ' acc av, SR K Hf' σ ρ' H' ∧ i ≤ ds.length ∧ m = ds.length - i ∧ acc.length ≤ i ∧ Same Hf1 Hf' ∧ H' Da = some (.lst av) ∧ Hf' Da = none ∧ Reps K Hf' acc av ∧ ¬ OA σ ρ' Da ∧ Stp Hf σ ρ H Hf' σ ρ' H' ∧ vs.all (plainAt ρ') = true ∧
      Wp K mg W (lcLoop vs fg ft fe (ds.drop i) acc ρ') (fun d ρ' => ∀ a Hf' H', Stp Hf σ ρ H Hf' σ ρ' H' → SR K Hf' σ ρ' H' → H a = none → Hf' a = none → RepO K Hf' H' d a → ¬ OA σ ρ' a → Q (.ref a) H'),
    ⟨ds.length, Hf1, ρ1, [], [], S1', Nat.zero_le _, rfl, Nat.le_refl _, fun _ _ h => h, upd_same, hfD, by unfold Reps; rfl, fun q => (S1.oa q).2 hD, s1', hc.1, h1⟩, fun i m H' ⟨Hf', ρ', acc, av, S', hi', hm, hacc, sm, hDl, hDf, rA, hDo, st, hpl, q⟩ => ?_⟩
  by_cases e : i = ds.length
  · subst e
    left
    rw [List.drop_length] at q
    refine ⟨it.stop Hf' H' sm S'.sub, q Da Hf' H' st S' ?_ hDf ⟨av, hDl, rA⟩ hDo⟩
    cases z : H Da with
    | none => rfl
    | some o => exact absurd hD (s1.there Da (by rw [z]; simp))
  · right
    have lt : i < ds.length := by omega
    have ei : ds[i]? = some ds[i] := List.getElem?_eq_getElem lt
    obtain ⟨g1, g2⟩ := it.go i ds[i] Hf' H' sm S'.sub ei
    refine ⟨g1, _, fun H2 (z : ∃ m', m' < m ∧ _) => z, fun x H2 y => ?_⟩
    obtain ⟨Hf2, n, r⟩ := g2 x H2 y
    rw [List.drop_eq_getElem_cons lt] at q
    unfold lcLoop at q
    obtain ⟨w1, W1⟩ := wipe_step (n.sr S') hpl
    cases e1 : fg ds[i] (wipeR ρ' vs) with
    | none => rw [e1] at q; exact q.elim
    | some ρ2 =>
      rw [e1] at q
      simp only at q
      refine hg Hf2 (wipe σ vs) (wipeR ρ' vs) H2 ds[i] x ρ2 W1 r e1 _ fun σ3 s3 S3 k3 => ?_
      have l3 : σ3.length = σ.length := by rw [S3.len, s3.len, wipeR_len]; exact S'.len.symm
      have out3 : ∀ j : Nat, j ∉ vs → σ3[j]? = (wipe σ vs)[j]? := fun j hj => k3 j fun hz => hj (hs j hz)
      have out4 : ∀ j : Nat, j ∉ vs → σ3[j]? = σ[j]? := fun j hj => by rw [out3 j hj, wipe_out hj]
      refine ⟨wipe_eq l3 out3, ?_⟩
      have st3 : Stp Hf' σ ρ' H' Hf2 σ3 ρ2 H2 := (n.stp.trans w1).trans s3
      -- the new list through the block
      have keepD : ∀ {Hf4 : Hp} {ρ4 : Ro} {H4 : Hp}, Stp Hf' σ ρ' H' Hf4 σ3 ρ4 H4 → H4 Da = some (.lst av) ∧ Hf4 Da = none := fun s4 =>
        ⟨s4.keep Da _ hDl hDo, s4.out Da (by rw [hDl]; simp) hDf fun z => hDo z.oa⟩
      have next : ∀ {Hf4 : Hp} {ρ4 : Ro} {H4 : Hp} (acc' : List D) (av' : List V), Stp Hf' σ ρ' H' Hf4 σ3 ρ4 H4 → SR K Hf4 σ3 ρ4 H4 → acc'.length ≤ i + 1 → Reps K Hf4 acc' av' →
          Wp K mg W (lcLoop vs fg ft fe (ds.drop (i + 1)) acc' (unwipe ρ' ρ4 vs)) (fun d ρ' => ∀ a Hf' H', Stp Hf σ ρ H Hf' σ ρ' H' → SR K Hf' σ ρ' H' → H a = none → Hf' a = none → RepO K Hf' H' d a → ¬ OA σ ρ' a → Q (.ref a) H') →
          ∃ m', m' < m ∧ ∃ Hf' ρ' acc av, SR K Hf' σ ρ' (upd H4 Da (.lst av')) ∧ i + 1 ≤ ds.length ∧ m' = ds.length - (i + 1) ∧ acc.length ≤ i + 1 ∧ Same Hf1 Hf' ∧ upd H4 Da (.lst av') Da = some (.lst av) ∧ Hf' Da = none ∧ Reps K Hf' acc av ∧ ¬ OA σ ρ' Da ∧ Stp Hf σ ρ H Hf' σ ρ' (upd H4 Da (.lst av')) ∧ vs.all (plainAt ρ') = true ∧
            Wp K mg W (lcLoop vs fg ft fe (ds.drop (i + 1)) acc ρ') (fun d ρ' => ∀ a Hf' H', Stp Hf σ ρ H Hf' σ ρ' H' → SR K Hf' σ ρ' H' → H a = none → Hf' a = none → RepO K Hf' H' d a → ¬ OA σ ρ' a → Q (.ref a) H') := by
        intro Hf4 ρ4 H4 acc' av' s4 S4 hl ra w
        obtain ⟨u1, U1⟩ := unwipe_step S' hpl out4 s4 S4
        obtain ⟨k1, k2⟩ := keepD s4
        have no4 : ¬ OA σ (unwipe ρ' ρ4 vs) Da := fun z => by
          rcases u1.oa z with z | z
          · rw [hDl] at z; cases z
          · exact hDo z
        have nH : H Da = none := by
          cases z : H Da with
          | none => rfl
          | some o => exact absurd hD (s1.there Da (by rw [z]; simp))
        have st4 := st.trans u1
        refine ⟨ds.length - (i + 1), by omega, Hf4, unwipe ρ' ρ4 vs, acc', av', ⟨fun b o z => ?_, U1.len, U1.val, fun j d z => ?_, U1.inj⟩, lt, rfl, hl, Same.trans sm s4.fz, upd_same, k2, ra, no4, ⟨st4.fz, fun b o z1 z2 => ?_, fun b z => ?_, st4.out, st4.pin, st4.pin', st4.oo, st4.len⟩, ?_, w⟩
        · have nb : b ≠ Da := fun eb => by rw [eb, k2] at z; cases z
          rw [upd_ne nb]; exact U1.sub b o z
        · obtain ⟨a, g1, g2, g3⟩ := U1.own j d z
          have na : a ≠ Da := fun ea => no4 ⟨j, by rw [← ea]; exact g1, d, z⟩
          exact ⟨a, g1, g2, RepO.mono (fun _ _ h => h) (upd_ne na) g3⟩
        · have nb : b ≠ Da := fun eb => by rw [eb, nH] at z1; cases z1
          rw [upd_ne nb]; exact st4.keep b o z1 z2
        · by_cases eb : b = Da
          · rw [eb, upd_same]; simp
          · rw [upd_ne eb]; exact st4.there b z
        · refine List.all_eq_true.mpr fun j hj => ?_
          have z := List.all_eq_true.mp hpl j hj
          unfold plainAt at z ⊢
          rw [unwipe_in (by have := st3.len; have := s4.len; omega) hj]
          exact z
      refine ht Hf2 σ3 ρ2 H2 S3 _ ?_
      cases e2 : ft ρ2 with
      | bad => rw [e2] at q; exact q
      | err x => rw [e2] at q; exact q.elim
      | ok b ρ3 =>
        rw [e2] at q
        intro Hf3 H3 s4 S4
        have st4 := st3.trans s4
        cases b with
        | false =>
          rw [if_neg (by decide)]
          have k := keepD st4
          obtain ⟨m', q1, Hf5, ρ5, acc5, av5, q2, q3, q4, q5, q6, q7, q8, q9, q10, q11, q12, q13⟩ := next acc av st4 S4 (by omega) (Reps.mono st4.fz rA) q
          have eH : upd H3 Da (.lst av) = H3 := by
            funext b
            by_cases eb : b = Da
            · rw [eb, upd_same]; exact k.1.symm
            · rw [upd_ne eb]
          rw [eH] at q2 q7 q11
          exact ⟨m', q1, Hf5, ρ5, acc5, av5, q2, q3, q4, q5, q6, q7, q8, q9, q10, q11, q12, q13⟩
        | true =>
          rw [if_pos rfl]
          simp only at q
          refine he Hf3 σ3 ρ3 H3 S4 _ ?_
          cases e3 : fe ρ3 with
          | bad => rw [e3] at q; exact q
          | err x => rw [e3] at q; exact q.elim
          | ok y ρ5 =>
            rw [e3] at q
            intro v Hf5 H5 s5 S5 r5
            have st5 := st4.trans s5
            have k := keepD st5
            refine ⟨av, k.1, big_line ?_, ?_⟩
            · rw [← reps_len rA]; omega
            · refine next (acc ++ [y]) (av ++ [v]) st5 S5 (by rw [List.length_append, List.length_singleton]; omega) (reps_snoc (Reps.mono st5.fz rA) r5) q
theorem lcLoop_lst {vs : List Nat} {g : D → Ro → Option Ro} {ft : EM Bool} {fe : EM D} : ∀ (ds acc : List D) (ρ : Ro) (d : D) (ρ' : Ro), lcLoop vs g ft fe ds acc ρ = .ok d ρ' → ∃ es, d = .lst es
  | [], acc, ρ, d, ρ', h => by unfold lcLoop at h; cases h; exact ⟨_, rfl⟩
  | x :: ds, acc, ρ, d, ρ', h => by
    unfold lcLoop at h
    cases e1 : g x (wipeR ρ vs) with
    | none => rw [e1] at h; cases h
    | some ρ1 =>
      rw [e1] at h
      simp only at h
      cases e2 : ft ρ1 with
      | bad => rw [e2] at h; cases h
      | err x => rw [e2] at h; cases h
      | ok b ρ2 =>
        rw [e2] at h
        cases b with
        | false => exact lcLoop_lst ds acc _ d ρ' h
        | true =>
          simp only at h
          cases e3 : fe ρ2 with
          | bad => rw [e3] at h; cases h
          | err x => rw [e3] at h; cases h
          | ok y ρ3 =>
            rw [e3] at h
            exact lcLoop_lst ds _ _ d ρ' h
theorem lcE_lst {vs : List Nat} {fi : EM (List D)} {g : D → Ro → Option Ro} {ft : EM Bool} {fe : EM D} (ρ : Ro) (d : D) (ρ' : Ro) (h : lcE vs fi g ft fe ρ = .ok d ρ') : ∃ es, d = .lst es := by
  unfold lcE at h
  cases e : fi ρ with
  | bad => rw [e] at h; cases h
  | err x => rw [e] at h; cases h
  | ok ds ρ1 =>
    rw [e] at h
    simp only [Res.bind] at h
    split at h
    · exact lcLoop_lst _ _ _ _ _ h
    · cases h
end
end DL

/-! The D layer, 6: rules of statements, the rule of a def. -/
namespace DL
open PySem L2

structure PSD (X : Cx) (W : XK) (st : Stmt) (f : SM) : Prop where
  ex : ∃ t, PS X st t ∧ TSD X.K X.mg W t f
structure PSsD (X : Cx) (W : XK) (sts : List Stmt) (f : SM) : Prop where
  ex : ∃ t, PSs X sts t ∧ TSD X.K X.mg W t f
structure PGD (X : Cx) (tg : Expr) (is : List Nat) (f : D → Ro → Option Ro) : Prop where
  ex : ∃ g, PG X tg g ∧ TGD X.K g is f
structure PGsD (X : Cx) (tgs : List Expr) (is : List Nat) (f : List D → Ro → Option Ro) : Prop where
  ex : ∃ g, PGs X tgs g ∧ TGDs X.K g is f
structure PID (X : Cx) (W : XK) (tg it : Expr) (f : EM (List D)) : Prop where
  ex : ∃ t, PI X tg it t ∧ TID X.K X.mg W t f
structure PAD (X : Cx) (W : XK) (es : List Expr) (f : EM (List D)) : Prop where
  ex : ∃ t, PA X es t ∧ TAD X.K X.mg W t f
structure PAR (X : Cx) (W : XK) (es : List Expr) (f : EM (List Arg)) : Prop where
  ex : ∃ t, PA X es t ∧ TAR X.K X.mg W t f
  len : ∀ ρ as ρ', f ρ = .ok as ρ' → as.length = es.length

section
variable {X : Cx} {W : XK} {a b c e : Expr} {fa fb fc fe : EM D} {ba bb : EM Bool} {pos pos' : Pos} {es : List Expr} {st : Stmt} {sts : List Stmt} {f g : SM} {i j : Nat} {x y : Str}

/-! ### arguments -/
theorem ad_nil : PAD X W [] (retE []) := ⟨_, pa_nil, TAD.nil⟩
theorem ad_cons {fr : EM (List D)} (ha : PD X W e fe) (hr : PAD X W es fr) (hs : starEach (e :: es) X.env = (false, eval e X.env) :: starEach es X.env) : PAD X W (e :: es) (consE fe fr) :=
  let ⟨_, a1, a2⟩ := ha.ex; let ⟨_, r1, r2⟩ := hr.ex; ⟨_, pa_cons a1 r1 hs, TAD.cons a2 r2⟩
theorem ar_nil : PAR X W [] (retE []) := ⟨⟨_, pa_nil, TAR.nil⟩, fun ρ as ρ' h => by cases h; rfl⟩
theorem bindM_ok {α β : Type} {m : EM α} {f : α → EM β} {ρ ρ' : Ro} {b : β} (h : bindM m f ρ = .ok b ρ') : ∃ a ρ1, m ρ = .ok a ρ1 ∧ f a ρ1 = .ok b ρ' := by
  unfold bindM Res.bind at h
  cases e : m ρ with
  | bad => rw [e] at h; cases h
  | ok a ρ1 => rw [e] at h; exact ⟨a, ρ1, rfl, h⟩
  | err x => rw [e] at h; cases h
theorem ar_v {fr : EM (List Arg)} (ha : PD X W e fe) (hr : PAR X W es fr) (hs : starEach (e :: es) X.env = (false, eval e X.env) :: starEach es X.env) : PAR X W (e :: es) (argV fe fr) :=
  ⟨let ⟨_, a1, a2⟩ := ha.ex; let ⟨_, r1, r2⟩ := hr.ex; ⟨_, pa_cons a1 r1 hs, TAR.v a2 r2⟩, fun ρ as ρ' h => by
    obtain ⟨d, ρ1, _, h2⟩ := bindM_ok h
    obtain ⟨xs, ρ2, h3, h4⟩ := bindM_ok h2
    cases h4
    simp [hr.len _ _ _ h3]⟩
theorem ar_s (i : Nat) {fr : EM (List Arg)} (hN : X.N[i]? = some x) (hv : Vis X.env.scope x) (hr : PAR X W es fr) (hs : starEach (.Name x pos :: es) X.env = (false, eval (.Name x pos) X.env) :: starEach es X.env)
    (hd : (x == ("__debug__" : Str)) = false := by decide) (hcd : (x == ("__classdict__" : Str)) = false := by decide) : PAR X W (.Name x pos :: es) (argS i fr) :=
  ⟨let ⟨_, r1, r2⟩ := hr.ex; ⟨_, pa_cons (pe_var hN hv hd hcd) r1 hs, TAR.s r2⟩, fun ρ as ρ' h => by
    obtain ⟨d, ρ1, _, h2⟩ := bindM_ok h
    obtain ⟨xs, ρ2, h3, h4⟩ := bindM_ok h2
    cases h4
    simp [hr.len _ _ _ h3]⟩

/-! ### a def of the text, as it may be called -/
structure FnD (P : Program) (w : World) (K : PySem.W.Frag) (mg : Str → Option Value) (base : Heap) (k : Nat) (x : Str) (n : Nat) (m : EM D) : Prop where
  ex : ∃ f fd ps, FnOk P w K mg base (L2.CX P w) k f fd ps (spM K mg n m) ∧ mg x = some (.ref f) ∧ PySem.W.keepIn K (.ref f) = true ∧ Binds K fd ps []
theorem d_call {p : Pos} {k n : Nat} {m : EM D} {fr : EM (List Arg)} (F : FnD X.prog X.w X.K X.mg X.base k x n m) (hr : Room k X.A) (hg : Gl X x) (hx : Passes (L2.CX X.prog X.w) X W) (ha : PAR X W (e :: es) fr) (hn : (e :: es).length = n)
    (he : starEach (e :: es) X.env = (false, eval e X.env) :: starEach es X.env) (hpl : (backTo pos (starEach es X.env)).any (·.1) = false) (hdb : (x == ("__debug__" : Str)) = false := by decide) :
    PD X W (.Call (.Name x p) (e :: es) [] pos) (callE m fr) := by
  obtain ⟨f, fd, ps, F1, F2, F3, F4⟩ := F.ex
  obtain ⟨t, t1, t2⟩ := ha.ex
  exact ⟨_, pe_call F1 hr hg F2 F3 F4 .nil hx t1 hdb he hpl, TD.call t2 fun ρ as ρ' h => (ha.len ρ as ρ' h).trans hn⟩

/-! ### targets -/
theorem g_name (i : Nat) (hN : X.N.Nodup) (hi : X.N[i]? = some x) (hx : Loc X.env.scope x) (hf : X.fn x = true ∨ X.env.scope.names.lookup x = some .local) : PGD X (.Name x pos) [i] (setT i) := ⟨_, pg_name hN hi hx hf, TGD.name⟩
theorem gs_nil : PGsD X [] [] nilT := ⟨_, pgs_nil, TGDs.nil⟩
theorem gs_cons {is js : List Nat} {fg : D → Ro → Option Ro} {fgs : List D → Ro → Option Ro} (h1 : PGD X e is fg) (h2 : PGsD X es js fgs) (hs : (assignEach (e :: es) X.env).map (·.2) = assign e X.env :: (assignEach es X.env).map (·.2)) :
    PGsD X (e :: es) (is ++ js) (consT fg fgs) := let ⟨_, a1, a2⟩ := h1.ex; let ⟨_, b1, b2⟩ := h2.ex; ⟨_, pgs_cons a1 b1 hs, TGDs.cons a2 b2⟩
theorem g_tup {is : List Nat} {fgs : List D → Ro → Option Ro} {k n : Nat} (hc : X.calm = true) (h : PGsD X es is fgs) (hn : (assignEach es X.env).length = n) (hst : (assignEach es X.env).findIdx? (·.1) = none) : PGD X (.Tuple es k pos) is (tupT n fgs) :=
  let ⟨_, a1, a2⟩ := h.ex; ⟨_, pg_tup hc a1 hn hst, TGD.tup a2⟩

/-! ### blocks -/
theorem ss_nil : PSsD X W [] nextS := ⟨_, pss_nil, TSD.next⟩
theorem ss_cons (h1 : PSD X W st f) (h2 : PSsD X W sts g) : PSsD X W (st :: sts) (seqS f g) := let ⟨_, a1, a2⟩ := h1.ex; let ⟨_, b1, b2⟩ := h2.ex; ⟨_, pss_cons a1 b1, TSD.seq a2 b2⟩
theorem ss_one (h1 : PSD X W st f) : PSsD X W [st] f := let ⟨_, a1, a2⟩ := h1.ex; ⟨_, pss_one a1, a2⟩
theorem ss_thaw (i : Nat) (h : PSsD X W sts f) : PSsD X W sts (seqS (thawS i) f) := let ⟨_, a1, a2⟩ := h.ex; ⟨_, pss_lk i a1, TSD.thaw i a2⟩
theorem s_set (i : Nat) (hN : X.N.Nodup) (hi : X.N[i]? = some x) (hx : Loc X.env.scope x) (hf : X.fn x = true ∨ X.env.scope.names.lookup x = some .local) (he : PD X W e fe) (hs : swapsWith e (some (.Name x pos')) pos.line X.env = pure false) :
    PSD X W (.Assign [.Name x pos'] e pos) (asgS fe (setT i)) := let ⟨_, a1, a2⟩ := he.ex; ⟨_, ps_set hN hi hx a1 hs hf, TSD.asg a2 TGD.name⟩
theorem s_new (i : Nat) (hN : X.N.Nodup) (hi : X.N[i]? = some x) (hx : Loc X.env.scope x) (hf : X.fn x = true ∨ X.env.scope.names.lookup x = some .local) (he : PF X W e fe) (hs : swapsWith e (some (.Name x pos')) pos.line X.env = pure false) :
    PSD X W (.Assign [.Name x pos'] e pos) (newS i fe) := let ⟨_, a1, a2⟩ := he.ex; ⟨_, ps_set hN hi hx a1 hs hf, TSD.new a2⟩
theorem s_asg {tg : Expr} {is : List Nat} {fg : D → Ro → Option Ro} (he : PD X W e fe) (hg : PGD X tg is fg) (hs : swapsWithSole [tg] e pos.line X.env = pure false) (hw : swappedStores [tg] e X.env = pure none) (h1 : (assignEach [tg] X.env).map (·.2) = [assign tg X.env]) :
    PSD X W (.Assign [tg] e pos) (asgS fe fg) := let ⟨_, a1, a2⟩ := he.ex; let ⟨_, b1, b2⟩ := hg.ex; ⟨_, ps_asg a1 b1 hs hw h1, TSD.asg a2 b2⟩
theorem s_expr (he : PD X W e fe) (hs : swapsWith e none pos.line X.env = pure false) : PSD X W (.Expr e pos) (dropS fe) := let ⟨_, a1, a2⟩ := he.ex; ⟨_, ps_expr a1 hs, TSD.drop a2⟩
theorem s_ret (he : PD X W e fe) : PSD X W (.Return (some e) pos) (retS fe) := let ⟨_, a1, a2⟩ := he.ex; ⟨_, ps_ret a1, TSD.ret a2⟩
theorem s_if {aa bb' : List Stmt} (hc : PB X W c ba) (ha : PSsD X W aa f) (hb : PSsD X W bb' g) : PSD X W (.If c aa bb' pos) (ifS ba f g) :=
  let ⟨_, c1, c2⟩ := hc.ex; let ⟨_, a1, a2⟩ := ha.ex; let ⟨_, b1, b2⟩ := hb.ex; ⟨_, ps_if c1 a1 b1, TSD.ifS c2 a2 b2⟩
theorem s_for {tg it : Expr} {body : List Stmt} {is : List Nat} {fi : EM (List D)} {fg : D → Ro → Option Ro} (hp : PassesOwn (model X.prog X.w) X.A X.env X.xe) (hc : X.calm = true) (hi : PID X W tg it fi) (hg : PGD X tg is fg) (hb : PSsD X W body f)
    (hs : ∀ x, foldedSetIterable it X.env x = pure x) : PSD X W (.For tg it body [] pos) (forS fi fg f) :=
  let ⟨_, a1, a2⟩ := hi.ex; let ⟨_, b1, b2⟩ := hg.ex; let ⟨_, c1, c2⟩ := hb.ex; ⟨_, ps_for hp hc a1 b1 c1 hs, TSD.forS a2 b2 c2⟩
theorem s_while {body : List Stmt} (n : Nat) (hp : PassesOwn (model X.prog X.w) X.A X.env X.xe) (hc : PB X W c ba) (hb : PSsD X W body f) : PSD X W (.While c body [] pos) (iterS ba f n) :=
  let ⟨_, a1, a2⟩ := hc.ex; let ⟨_, b1, b2⟩ := hb.ex; ⟨_, ps_while hp a1 b1, TSD.whileS n a2 b2⟩
/-- a, b = x, y with plain local names -/
def parS (i j : Nat) (fr : EM (List D)) : SM := fun ρ => (fr ρ).bind fun ds ρ1 => match ds with
  | [d, e] => match (setT i d ρ1).bind (setT j e) with
    | some ρ2 => .ok .nx ρ2
    | none => .bad
  | _ => .bad
theorem TSD.par {K : PySem.W.Frag} {mg : Str → Option Value} {ta : TA} {fr : EM (List D)} (ha : TAD K mg W ta fr) : TSD K mg W (tPar i j ta) (parS i j fr) := by
  intro Hf σ ρ H S E h
  refine ha Hf σ ρ H S _ ((Wp.rbind h).mono fun ds ρ1 h1 vs Hf1 H1 s1 S1 r1 => ?_)
  match ds, h1, r1 with
  | [d, e], h1, r1 =>
    unfold Reps at r1
    obtain ⟨v, r', rfl, r2, r3⟩ := r1
    unfold Reps at r3
    obtain ⟨u, r'', rfl, r4, r5⟩ := r3
    unfold Reps at r5
    subst r5
    refine ⟨v, u, rfl, ?_⟩
    simp only at h1
    cases e1 : setT i d ρ1 with
    | none => rw [e1] at h1; exact h1.elim
    | some ρ2 =>
      rw [e1] at h1
      simp only [Option.bind_some] at h1
      cases e2 : setT j e ρ2 with
      | none => rw [e2] at h1; exact h1.elim
      | some ρ3 =>
        rw [e2] at h1
        obtain ⟨a1, a2, rfl⟩ := setT_inv e1
        obtain ⟨b1, b2, rfl⟩ := setT_inv e2
        obtain ⟨s2, S2⟩ := set_v S1 r2 a1 a2
        obtain ⟨s3, S3⟩ := set_v S2 r4 b1 b2
        exact h1 Hf1 _ H1 ((s1.trans s2).trans s3) S3
  | [], h1, _ => exact h1.elim
  | [_], h1, _ => exact h1.elim
  | _ :: _ :: _ :: _, h1, _ => exact h1.elim
theorem s_par (i j : Nat) {x y : Str} {px py pt : Pos} {kt k2 pt2} {fr : EM (List D)} (hc : X.calm = true) (hN : X.N.Nodup) (hi : X.N[i]? = some x) (hj : X.N[j]? = some y) (hij : i ≠ j)
    (hx : X.env.scope.names.lookup x = some .local) (hy : X.env.scope.names.lookup y = some .local) (ha : PAD X W [a, b] fr)
    (hw : swappedStores [.Tuple [.Name x px, .Name y py] kt pt] (.Tuple [a, b] k2 pt2) X.env = pure (some [x, y]))
    (hs : swapsWithSole [.Tuple [.Name x px, .Name y py] kt pt] (.Tuple [a, b] k2 pt2) pos.line X.env = pure false) :
    PSD X W (.Assign [.Tuple [.Name x px, .Name y py] kt pt] (.Tuple [a, b] k2 pt2) pos) (parS i j fr) := let ⟨_, a1, a2⟩ := ha.ex; ⟨_, ps_par hc hN hi hj hij hx hy a1 hw hs, TSD.par a2⟩

/-! ### raise -/
def raiseS (x : Str) : SM := fun _ => .err ⟨x, none⟩
theorem s_raise {m : Str} {k : Nat} {p p2 p3 : Pos} {C : Addr} {bmB : List Value} {B newId initId : String} (hc : X.calm = true) (tk : Takes X fun cls d _ H => W cls d H) (F : ExcBaseFacts B newId initId bmB)
    (q : PySem.W.excIn X.K C bmB newId = true) (gC : X.mg x = some (.ref C)) (kC : PySem.W.keepIn X.K (.ref C) = true) (r : Raises X (.ref C)) (hg : Gl X x) (hdb : (x == ("__debug__" : Str)) = false := by decide) :
    PSD X W (.Raise (some (.Call (.Name x p) [.Constant (.str m) k p2] [] p3)) none pos) (raiseS x) :=
  ⟨_, ps_raise hc tk (pmk_own F q gC kC r hg hdb), fun Hf σ ρ H S E h => h (.ref C) none H ⟨C, gC, rfl, rfl⟩⟩

/-! ### comprehensions -/
def rdE (K : PySem.W.Frag) (mg : Str → Option Value) (W : XK) (f : EM D) : TE := fun σ H Q => ∃ Hf ρ, SR K Hf σ ρ H ∧ Wp K mg W (f ρ) (fun d ρ' => ∀ v Hf' H', Stp Hf σ ρ H Hf' σ ρ' H' → SR K Hf' σ ρ' H' → Rep K Hf' d v → Q v H')
def rdB (K : PySem.W.Frag) (mg : Str → Option Value) (W : XK) (f : EM Bool) : TT := fun σ H Q => ∃ Hf ρ, SR K Hf σ ρ H ∧ Wp K mg W (f ρ) (fun b ρ' => ∀ Hf' H', Stp Hf σ ρ H Hf' σ ρ' H' → SR K Hf' σ ρ' H' → Q b H')
def rdG (K : PySem.W.Frag) (is : List Nat) (f : D → Ro → Option Ro) : TG := fun v σ H Q => ∃ Hf ρ d ρ', SR K Hf σ ρ H ∧ Rep K Hf d v ∧ f d ρ = some ρ' ∧ ∀ σ', Stp Hf σ ρ H Hf σ' ρ' H → SR K Hf σ' ρ' H → (∀ j : Nat, j ∉ is → σ'[j]? = σ[j]?) → Q σ' H
theorem PD.pe (h : PD X W e fe) : PE X e (rdE X.K X.mg W fe) := by
  obtain ⟨t, h1, h2⟩ := h.ex
  refine ⟨fun pins s σ H Q I ⟨Hf, ρ, S, w⟩ => h1.run pins s σ H Q I (h2 Hf σ ρ H S Q w)⟩
theorem TD.rd {K : PySem.W.Frag} {mg : Str → Option Value} {f : EM D} : TD K mg W (rdE K mg W f) f := fun Hf σ ρ H S Q w => ⟨Hf, ρ, S, w⟩
theorem PGD.pg {is : List Nat} {fg : D → Ro → Option Ro} (h : PGD X e is fg) : PG X e (rdG X.K is fg) := by
  obtain ⟨t, h1, h2⟩ := h.ex
  refine ⟨fun pins s σ H v u Q I r ⟨Hf, ρ, d, ρ', S, r1, e1, k⟩ => h1.run pins s σ H v u Q I r (h2 Hf σ ρ H d v ρ' S r1 e1 Q k)⟩
theorem TGD.rd {K : PySem.W.Frag} {is : List Nat} {fg : D → Ro → Option Ro} : TGD K (rdG K is fg) is fg := fun Hf σ ρ H d v ρ' S r e Q k => ⟨Hf, ρ, d, ρ', S, r, e, k⟩
/-- a clause's tests -/
structure PTsD (X : Cx) (W : XK) (ifs : List Expr) (f : EM Bool) : Prop where
  ex : ∃ t, PTs X ifs t ∧ TB X.K X.mg W t f
def yesT : EM Bool := retE true
theorem ts_nil : PTsD X W [] yesT := ⟨_, pts_nil, fun Hf σ ρ H S Q h => h Hf H Stp.refl S⟩
theorem ts_one (h : PB X W c ba) : PTsD X W [c] ba := let ⟨_, c1, c2⟩ := h.ex; ⟨_, pts_one c1, c2⟩
theorem PTsD.pt {ifs : List Expr} (h : PTsD X W ifs ba) : PTs X ifs (rdB X.K X.mg W ba) := by
  obtain ⟨t, h1, h2⟩ := h.ex
  refine ⟨fun pins s σ H Q I ⟨Hf, ρ, S, w⟩ => h1.run pins s σ H Q I (h2 Hf σ ρ H S Q w)⟩
theorem TB.rd {K : PySem.W.Frag} {mg : Str → Option Value} {f : EM Bool} : TB K mg W (rdB K mg W f) f := fun Hf σ ρ H S Q w => ⟨Hf, ρ, S, w⟩
section
variable {elt tg iter : Expr} {ifs : List Expr} {scope : Scope} {own : List (Str × Nat)} {is : List Nat} {fi : EM (List D)} {fg : D → Ro → Option Ro} {ft : EM Bool} {spos : Pos}
theorem f_lc (own : List (Str × Nat)) (hc : X.calm = true) (hN : X.N.Nodup) (hi : PID X W tg iter fi) (ok : blkC X.N X.env.scope scope own = true)
    (hg : ∀ (s : Shared) (H : Hp) (C : Addr) (cl : List (Str × Addr)) (fp : List Addr), PGD (X.blk s H scope (compEnvC scope cl C X.env) fp) tg is fg) (hs : ∀ i ∈ is, i ∈ own.map (·.2))
    (ht : ∀ (s : Shared) (H : Hp) (C : Addr) (cl : List (Str × Addr)) (fp : List Addr), PTsD (X.blk s H scope (compEnvC scope cl C X.env) fp) E00 ifs ft)
    (he : ∀ (s : Shared) (H : Hp) (C : Addr) (cl : List (Str × Addr)) (fp : List Addr), PD (X.blk s H scope (compEnvC scope cl C X.env) fp) E00 e fe) (hsi : ∀ x, foldedSetIterable iter X.env x = pure x) :
    PF X W (.ListComp e [⟨tg, iter, ifs, 0⟩] scope pos) (lcE (own.map (·.2)) fi fg ft fe) :=
  let ⟨_, a1, a2⟩ := hi.ex; ⟨_, pe_lc hc hN a1 (blkOk_by ok) (fun s H C cl fp => (hg s H C cl fp).pg) (fun s H C cl fp => (ht s H C cl fp).pt) (fun s H C cl fp => (he s H C cl fp).pe) hsi, TF.lc a2 TGD.rd hs TB.rd TD.rd⟩
/-- name = [..] on one line, the name a local: rd says whether the name owns it -/
theorem s_lcNew (i : Nat) {y : Str} {py : Pos} (own : List (Str × Nat)) (hc : X.calm = true) (hN : X.N.Nodup) (hy : X.N[i]? = some y) (hyl : X.env.scope.names.lookup y = some .local)
    (hsw : swapsWith (.ListComp e [⟨tg, iter, ifs, 0⟩] scope pos) (some (.Name y py)) spos.line X.env = pure true) (hi : PID X W tg iter fi) (ok : blkC X.N X.env.scope scope own = true)
    (hg : ∀ (s : Shared) (H : Hp) (C : Addr) (cl : List (Str × Addr)) (fp : List Addr), PGD (X.blk s H scope (compEnvC scope cl C X.env) fp) tg is fg) (hs : ∀ i ∈ is, i ∈ own.map (·.2))
    (ht : ∀ (s : Shared) (H : Hp) (C : Addr) (cl : List (Str × Addr)) (fp : List Addr), PTsD (X.blk s H scope (compEnvC scope cl C X.env) fp) E00 ifs ft)
    (he : ∀ (s : Shared) (H : Hp) (C : Addr) (cl : List (Str × Addr)) (fp : List Addr), PD (X.blk s H scope (compEnvC scope cl C X.env) fp) E00 e fe) (hsi : ∀ x, foldedSetIterable iter X.env x = pure x) :
    PSD X W (.Assign [.Name y py] (.ListComp e [⟨tg, iter, ifs, 0⟩] scope pos) spos) (newS i (lcE (own.map (·.2)) fi fg ft fe)) :=
  let ⟨_, a1, a2⟩ := hi.ex; ⟨_, ps_setLc hc hN hy hyl hsw a1 (blkOk_by ok) (fun s H C cl fp => (hg s H C cl fp).pg) (fun s H C cl fp => (ht s H C cl fp).pt) (fun s H C cl fp => (he s H C cl fp).pe) hsi, TSD.new (TF.lc a2 TGD.rd hs TB.rd TD.rd)⟩
theorem s_lcSet (i : Nat) {y : Str} {py : Pos} (own : List (Str × Nat)) (hc : X.calm = true) (hN : X.N.Nodup) (hy : X.N[i]? = some y) (hyl : X.env.scope.names.lookup y = some .local)
    (hsw : swapsWith (.ListComp e [⟨tg, iter, ifs, 0⟩] scope pos) (some (.Name y py)) spos.line X.env = pure true) (hi : PID X W tg iter fi) (ok : blkC X.N X.env.scope scope own = true)
    (hg : ∀ (s : Shared) (H : Hp) (C : Addr) (cl : List (Str × Addr)) (fp : List Addr), PGD (X.blk s H scope (compEnvC scope cl C X.env) fp) tg is fg) (hs : ∀ i ∈ is, i ∈ own.map (·.2))
    (ht : ∀ (s : Shared) (H : Hp) (C : Addr) (cl : List (Str × Addr)) (fp : List Addr), PTsD (X.blk s H scope (compEnvC scope cl C X.env) fp) E00 ifs ft)
    (he : ∀ (s : Shared) (H : Hp) (C : Addr) (cl : List (Str × Addr)) (fp : List Addr), PD (X.blk s H scope (compEnvC scope cl C X.env) fp) E00 e fe) (hsi : ∀ x, foldedSetIterable iter X.env x = pure x) :
    PSD X W (.Assign [.Name y py] (.ListComp e [⟨tg, iter, ifs, 0⟩] scope pos) spos) (asgS (lcE (own.map (·.2)) fi fg ft fe) (setT i)) :=
  let ⟨_, a1, a2⟩ := hi.ex; ⟨_, ps_setLc hc hN hy hyl hsw a1 (blkOk_by ok) (fun s H C cl fp => (hg s H C cl fp).pg) (fun s H C cl fp => (ht s H C cl fp).pt) (fun s H C cl fp => (he s H C cl fp).pe) hsi, TSD.asg (TF.tdl (TF.lc a2 TGD.rd hs TB.rd TD.rd) lcE_lst) TGD.name⟩
end
end

/-! ### the rule of a def -/
def backP : Ro → Ro → Ro
  | x :: xs, y :: ys => (match x with | .p _ => y | x => x) :: backP xs ys
  | xs, _ => xs
def runB (n l : Nat) (b : SM) : EM D := fun ρ0 => match b (ρ0 ++ List.replicate (l - n) .u) with
  | .ok fl ρ' => (match fl with
    | .ret d => .ok d (backP ρ0 ρ')
    | .nx => .ok .non (backP ρ0 ρ')
    | _ => .bad)
  | .bad => .bad
  | .err x => .err x
theorem backP_get : ∀ {ρ0 ρ' : Ro} {i : Nat}, ρ0.length ≤ ρ'.length → (backP ρ0 ρ')[i]? = match ρ0[i]? with
    | none => none
    | some (.p _) => ρ'[i]?
    | some x => some x
  | [], _, i, _ => by simp [backP]
  | x :: xs, [], _, h => by simp at h
  | x :: xs, y :: ys, 0, h => by cases x <;> simp [backP]
  | x :: xs, y :: ys, i + 1, h => by
    simp only [backP, List.getElem?_cons_succ]
    exact backP_get (by simpa using h)
theorem backP_len : ∀ {ρ0 ρ' : Ro}, (backP ρ0 ρ').length = ρ0.length
  | [], _ => rfl
  | x :: xs, [] => rfl
  | x :: xs, y :: ys => by simp [backP, backP_len]
section
variable {K : PySem.W.Frag} {Hf H Hf' H' : Hp} {σ' : L2.St} {ρ0 ρ' : Ro}
theorem start_sr {N : List Str} {vs : List V} {n : Nat} (S : SR K Hf (vs.map some) ρ0 H) (hn : vs.length = n) : SR K Hf (L2.start N vs) (ρ0 ++ List.replicate (N.length - n) .u) H := by
  have hl : ρ0.length = vs.length := by have := S.len; simpa using this.symm
  have out : ∀ (i : Nat) (x : Sl), (ρ0 ++ List.replicate (N.length - n) Sl.u)[i]? = some x → x ≠ .u → ρ0[i]? = some x ∧ ∀ y, (vs.map some)[i]? = some y → (L2.start N vs)[i]? = some y := fun i x h hx => by
    by_cases hi : i < ρ0.length
    · rw [List.getElem?_append_left hi] at h
      refine ⟨h, fun y hy => ?_⟩
      unfold L2.start
      rw [List.getElem?_append_left (by simp; omega)]; exact hy
    · rw [List.getElem?_append_right (by omega)] at h
      exact absurd (List.eq_of_mem_replicate (List.mem_of_getElem? h)) hx
  refine ⟨S.sub, ?_, fun i d h => ?_, fun i d h => ?_, fun i j a ⟨h1, d1, h2⟩ ⟨h3, d2, h4⟩ => ?_⟩
  · unfold L2.start
    simp [hl, hn]
  · obtain ⟨h1, h2⟩ := out i _ h (by simp)
    obtain ⟨v, g1, g2⟩ := S.val i d h1
    exact ⟨v, h2 _ g1, g2⟩
  · have h' : ρ0[i]? = some (Sl.o d) ∨ ρ0[i]? = some (Sl.p d) := by
      rcases h with h | h
      · exact .inl (out i _ h (by simp)).1
      · exact .inr (out i _ h (by simp)).1
    obtain ⟨a, g1, g2⟩ := S.own i d h'
    refine ⟨a, ?_, g2⟩
    rcases h with h | h
    · exact (out i _ h (by simp)).2 _ g1
    · exact (out i _ h (by simp)).2 _ g1
  · have e1 : ∃ a', (vs.map some)[i]? = some (some (V.ref a')) ∧ (L2.start N vs)[i]? = some (some (V.ref a')) ∧ (ρ0[i]? = some (Sl.o d1) ∨ ρ0[i]? = some (Sl.p d1)) := by
      rcases h2 with h | h
      · obtain ⟨q1, q2⟩ := out i _ h (by simp)
        obtain ⟨a', g1, _⟩ := S.own i d1 (.inl q1)
        exact ⟨a', g1, q2 _ g1, .inl q1⟩
      · obtain ⟨q1, q2⟩ := out i _ h (by simp)
        obtain ⟨a', g1, _⟩ := S.own i d1 (.inr q1)
        exact ⟨a', g1, q2 _ g1, .inr q1⟩
    have e2 : ∃ a', (vs.map some)[j]? = some (some (V.ref a')) ∧ (L2.start N vs)[j]? = some (some (V.ref a')) ∧ (ρ0[j]? = some (Sl.o d2) ∨ ρ0[j]? = some (Sl.p d2)) := by
      rcases h4 with h | h
      · obtain ⟨q1, q2⟩ := out j _ h (by simp)
        obtain ⟨a', g1, _⟩ := S.own j d2 (.inl q1)
        exact ⟨a', g1, q2 _ g1, .inl q1⟩
      · obtain ⟨q1, q2⟩ := out j _ h (by simp)
        obtain ⟨a', g1, _⟩ := S.own j d2 (.inr q1)
        exact ⟨a', g1, q2 _ g1, .inr q1⟩
    obtain ⟨a1, k1, k2, k3⟩ := e1
    obtain ⟨a2, m1, m2, m3⟩ := e2
    rw [k2] at h1; cases h1
    rw [m2] at h3; cases h3
    exact S.inj i j _ ⟨k1, d1, k3⟩ ⟨m1, d2, m3⟩
/-- behind the body: the lent things -/
theorem end_sr {N : List Str} {vs : List V} {n : Nat} (S : SR K Hf (vs.map some) ρ0 H) (hn : vs.length = n) (no : ∀ (i : Nat) (d : D), ρ0[i]? ≠ some (Sl.o d))
    (s : Stp Hf (L2.start N vs) (ρ0 ++ List.replicate (N.length - n) .u) H Hf' σ' ρ' H') (S' : SR K Hf' σ' ρ' H') : Stp Hf (vs.map some) ρ0 H Hf' (vs.map some) (backP ρ0 ρ') H' ∧ SR K Hf' (vs.map some) (backP ρ0 ρ') H' := by
  have hl : ρ0.length = vs.length := by have := S.len; simpa using this.symm
  have hle : ρ0.length ≤ ρ'.length := by rw [s.len]; simp
  have S0 := start_sr (N := N) S hn
  have lift : ∀ (i : Nat) (x : Sl), ρ0[i]? = some x → (ρ0 ++ List.replicate (N.length - n) Sl.u)[i]? = some x := fun i x h => by
    rw [List.getElem?_append_left (List.getElem?_eq_some_iff.mp h).1]; exact h
  have oaN : ∀ b, OA (L2.start N vs) (ρ0 ++ List.replicate (N.length - n) Sl.u) b → OA (vs.map some) ρ0 b := fun b ⟨i, h1, d, h2⟩ => by
    have hi : i < ρ0.length := by
      by_cases hi : i < ρ0.length
      · exact hi
      · rw [List.getElem?_append_right (by omega)] at h2
        rcases h2 with h2 | h2 <;> exact absurd (List.eq_of_mem_replicate (List.mem_of_getElem? h2)) (by simp)
    rw [List.getElem?_append_left hi] at h2
    obtain ⟨a, g1, _⟩ := S.own i d h2
    have : (L2.start N vs)[i]? = some (some (V.ref a)) := by
      unfold L2.start
      rw [List.getElem?_append_left (by simp; omega)]; exact g1
    rw [this] at h1; cases h1
    exact ⟨i, g1, d, h2⟩
  have ooN : ∀ b, ¬ OO (L2.start N vs) (ρ0 ++ List.replicate (N.length - n) Sl.u) b := fun b ⟨i, d, h1, h2⟩ => by
    by_cases hi : i < ρ0.length
    · rw [List.getElem?_append_left hi] at h2; exact no i d h2
    · rw [List.getElem?_append_right (by omega)] at h2
      exact absurd (List.eq_of_mem_replicate (List.mem_of_getElem? h2)) (by simp)
  have st : ∀ (i : Nat) (d : D), ρ0[i]? = some (Sl.p d) → ∃ d' a, ρ'[i]? = some (Sl.p d') ∧ (vs.map some)[i]? = some (some (V.ref a)) ∧ σ'[i]? = some (some (V.ref a)) := fun i d h => by
    obtain ⟨⟨d', p1⟩, p2⟩ := s.pin i d (lift i _ h)
    obtain ⟨a, g1, _⟩ := S.own i d (.inr h)
    refine ⟨d', a, p1, g1, ?_⟩
    rw [p2]
    unfold L2.start
    rw [List.getElem?_append_left (by have := (List.getElem?_eq_some_iff.mp h).1; simp; omega)]; exact g1
  have bk : ∀ (i : Nat) (d : D), ((backP ρ0 ρ')[i]? = some (Sl.o d) → False) ∧ ((backP ρ0 ρ')[i]? = some (Sl.p d) → ∃ d0, ρ0[i]? = some (Sl.p d0) ∧ ρ'[i]? = some (Sl.p d)) ∧ ((backP ρ0 ρ')[i]? = some (Sl.v d) → ρ0[i]? = some (Sl.v d)) := fun i d => by
    rw [backP_get hle]
    cases e : ρ0[i]? with
    | none => simp
    | some x =>
      cases x with
      | u => simp
      | v d1 => simp
      | o d1 => exact absurd e (no i d1)
      | p d1 =>
        obtain ⟨d', a, q1, _⟩ := st i d1 e
        simp [q1]
  refine ⟨⟨s.fz, fun b o h n' => s.keep b o h fun q => n' (oaN b q), s.there, fun b h h1 _ => s.out b h h1 (ooN b), fun i d h => ?_, fun i d h => ?_, fun b ⟨i, d, h1, h2⟩ => ((bk i d).1 h2).elim, backP_len⟩, ⟨S'.sub, by rw [backP_len]; simp [hl], fun i d h => ?_, fun i d h => ?_, fun i j a ⟨h1, d1, h2⟩ ⟨h3, d2, h4⟩ => ?_⟩⟩
  · obtain ⟨d', a, q1, _⟩ := st i d h
    exact ⟨⟨d', by rw [backP_get hle, h]; exact q1⟩, rfl⟩
  · obtain ⟨d0, q1, _⟩ := (bk i d).2.1 h
    exact ⟨d0, q1⟩
  · obtain ⟨v, g1, g2⟩ := S.val i d ((bk i d).2.2 h)
    exact ⟨v, g1, Rep.mono s.fz g2⟩
  · rcases h with h | h
    · exact ((bk i d).1 h).elim
    · obtain ⟨d0, q1, q2⟩ := (bk i d).2.1 h
      obtain ⟨d', a, r1, r2, r3⟩ := st i d0 q1
      obtain ⟨b, g1, g2, g3⟩ := S'.own i d (.inr q2)
      rw [r3] at g1; cases g1
      exact ⟨a, r2, g2, g3⟩
  · have o1 : ∃ d0, ρ0[i]? = some (Sl.p d0) := by
      rcases h2 with h | h
      · exact ((bk i d1).1 h).elim
      · obtain ⟨d0, q1, _⟩ := (bk i d1).2.1 h; exact ⟨d0, q1⟩
    have o2 : ∃ d0, ρ0[j]? = some (Sl.p d0) := by
      rcases h4 with h | h
      · exact ((bk j d2).1 h).elim
      · obtain ⟨d0, q1, _⟩ := (bk j d2).2.1 h; exact ⟨d0, q1⟩
    obtain ⟨e1, o1⟩ := o1
    obtain ⟨e2, o2⟩ := o2
    exact S.inj i j a ⟨h1, e1, .inr o1⟩ ⟨h3, e2, .inr o2⟩
end
section
variable {P : Program} {w : World} {K : PySem.W.Frag} {mg : Str → Option Value} {base : Heap}
theorem fn_d {x qual : Str} {st : Stmt} {f : Addr} {fd : FuncData} {N ps : List Str} {k n : Nat} {b : SM} (F : Fun K x qual st f fd) (S : FnScope N ps (defScope st)) (hn : ps.length = n)
    (hb : ∀ (cdv : Value) (A : Around) (outer : List Env) (s : Shared) (H : Hp) (E : XK), Room k (A.deeper (PyProof.Rows.envOfC qual (defScope st) s.heap.objs.size f cdv)) →
      PSsD (cxOf (L2.CX P w) P w K mg base N qual (defScope st) f cdv A outer s H E) E (defBody st) b) : FnOk P w K mg base (L2.CX P w) (k + 1) f fd ps (spM K mg n (runB n N.length b)) := by
  refine F.okX S (fun vs H Q E h => h.1.trans hn.symm) (fun cdv A outer s H vs Q E hr h => ?_)
  obtain ⟨h1, Hf, ρ0, S0, no, w⟩ := h
  obtain ⟨t, t1, t2⟩ := (hb cdv A outer s H E hr).ex
  refine ⟨t, t1, t2 Hf (L2.start N vs) (ρ0 ++ List.replicate (N.length - n) Sl.u) H (start_sr S0 h1) _ ?_⟩
  unfold runB at w
  cases e : b (ρ0 ++ List.replicate (N.length - n) .u) with
  | bad => rw [e] at w; exact w
  | err y => rw [e] at w; exact w
  | ok fl ρ' =>
    rw [e] at w
    intro Hf' σ' H' s' S'
    obtain ⟨z1, z2⟩ := end_sr S0 h1 no s' S'
    cases fl with
    | ret d => exact fun v r => w v Hf' H' z1 z2 r
    | nx => exact w .non Hf' H' z1 z2 (by unfold Rep; rfl)
    | brk => exact w.elim
    | cnt => exact w.elim
end
end DL

/-! The D layer, 7: operations on data. -/
namespace DL
open PySem L2

section
variable {K : PySem.W.Frag} {mg : Str → Option Value} {W : XK} {Hf H Hf' H' Hf1 H1 : Hp} {σ : L2.St} {ρ : Ro} {X : Cx}
theorem fits_line {n : Nat} (h : n ≤ 1000000) : n ≤ sizeLine := Nat.le_trans h (by decide)
theorem rep_int {i : Int} {v : V} (h : Rep K Hf (.int i) v) : v = .int i := by unfold Rep at h; exact h
theorem rep_str {i : Str} {v : V} (h : Rep K Hf (.str i) v) : v = .str i := by unfold Rep at h; exact h
theorem rep_tupX {ds : List D} {v : V} (h : Rep K Hf (.tup ds) v) : ∃ a vs, v = .ref a ∧ ExT K Hf a vs ∧ Reps K Hf ds vs := by unfold Rep at h; exact h
theorem rep_tup {ds : List D} {v : V} (h : Rep K Hf (.tup ds) v) : ∃ a vs, v = .ref a ∧ SqT K Hf a vs ∧ Reps K Hf ds vs := let ⟨a, vs, h1, h2, h3⟩ := rep_tupX h; ⟨a, vs, h1, h2.sqT, h3⟩
theorem rep_prt {ds : List D} {v : V} (h : Rep K Hf (.prt ds) v) : ∃ a vs, v = .ref a ∧ SqT K Hf a vs ∧ Reps K Hf ds vs := by unfold Rep at h; exact h
theorem rep_lst {ds : List D} {v : V} (h : Rep K Hf (.lst ds) v) : ∃ a vs, v = .ref a ∧ Rd Hf a (.lst vs) ∧ Reps K Hf ds vs := by unfold Rep at h; exact let ⟨a, vs, h1, h2, h3⟩ := h; ⟨a, vs, h1, .inl h2, h3⟩
theorem reps_append : ∀ {ds es : List D} {vs us : List V}, Reps K Hf ds vs → Reps K Hf es us → Reps K Hf (ds ++ es) (vs ++ us)
  | [], _, _, _, h, r => by
    unfold Reps at h
    subst h
    exact r
  | d :: ds, _, _, _, h, r => by
    unfold Reps at h
    obtain ⟨v, r', rfl, h1, h2⟩ := h
    exact reps_cons h1 (reps_append h2 r)
theorem reps_take : ∀ {ds : List D} {vs : List V} (n : Nat), Reps K Hf ds vs → Reps K Hf (ds.take n) (vs.take n)
  | _, _, 0, _ => by simp [Reps]
  | [], _, n + 1, h => by unfold Reps at h; subst h; simp [Reps]
  | d :: ds, _, n + 1, h => by
    unfold Reps at h
    obtain ⟨v, r', rfl, h1, h2⟩ := h
    exact reps_cons h1 (reps_take n h2)
theorem reps_drop : ∀ {ds : List D} {vs : List V} (n : Nat), Reps K Hf ds vs → Reps K Hf (ds.drop n) (vs.drop n)
  | _, _, 0, h => h
  | [], _, n + 1, h => by unfold Reps at h; subst h; simp [Reps]
  | d :: ds, _, n + 1, h => by
    unfold Reps at h
    obtain ⟨v, r', rfl, h1, h2⟩ := h
    exact reps_drop n h2
theorem reps_get : ∀ {ds : List D} {vs : List V} {j : Nat} {d : D}, Reps K Hf ds vs → ds[j]? = some d → ∃ v, vs[j]? = some v ∧ Rep K Hf d v
  | [], _, _, _, _, h => by simp at h
  | d :: ds, _, 0, d', h, e => by
    unfold Reps at h
    obtain ⟨v, r', rfl, h1, h2⟩ := h
    simp at e; subst e
    exact ⟨v, rfl, h1⟩
  | d :: ds, _, j + 1, d', h, e => by
    unfold Reps at h
    obtain ⟨v, r', rfl, h1, h2⟩ := h
    obtain ⟨u, h3, h4⟩ := reps_get (j := j) h2 (by simpa using e)
    exact ⟨u, by simpa using h3, h4⟩
/-- a new tuple, a new list -/
theorem lay_tup {ds : List D} {vs : List V} (s : Same Hf H) {p : Addr} {o : Obj} (hp : H p = none) (ho : o.dict = none) (r : Reps K Hf ds vs) : New Hf H (upd Hf p (.frz o (.tup vs))) (upd H p (.frz o (.tup vs))) ∧ Rep K (upd Hf p (.frz o (.tup vs))) (.tup ds) (.ref p) := by
  refine ⟨New.lay s hp, ?_⟩
  unfold Rep
  exact ⟨p, vs, rfl, .inl ⟨o, upd_same, ho⟩, Reps.mono (same_upd (none_sub s hp)) r⟩
theorem lay_prt {ds : List D} {vs : List V} (s : Same Hf H) {p : Addr} (hp : H p = none) (r : Reps K Hf ds vs) : New Hf H (upd Hf p (.tup vs)) (upd H p (.tup vs)) ∧ Rep K (upd Hf p (.tup vs)) (.prt ds) (.ref p) := by
  refine ⟨New.lay s hp, ?_⟩
  unfold Rep
  exact ⟨p, vs, rfl, SqT.of upd_same, Reps.mono (same_upd (none_sub s hp)) r⟩
theorem lay_lst {ds : List D} {vs : List V} (s : Same Hf H) {p : Addr} (hp : H p = none) (r : Reps K Hf ds vs) : New Hf H (upd Hf p (.lst vs)) (upd H p (.lst vs)) ∧ Rep K (upd Hf p (.lst vs)) (.lst ds) (.ref p) := by
  refine ⟨New.lay s hp, ?_⟩
  unfold Rep
  exact ⟨p, vs, rfl, upd_same, Reps.mono (same_upd (none_sub s hp)) r⟩
/-- a thing laid that is nobody's: only the heap grows -/
theorem New.fresh {p : Addr} {o : HO} (s : Same Hf H) (hp : H p = none) : New Hf H Hf (upd H p o) :=
  ⟨fun _ _ h => h, same_upd hp, Same.trans s (same_upd hp), fun _ _ h => h⟩

/-! ### + -/
def addD : D → D → Option D
  | .int i, .int j => some (.int (i + j))
  | .str a, .str b => if a.length + b.length ≤ 1000000 then some (.str (a ++ b)) else none
  | .tup xs, .tup ys => if xs.length + ys.length ≤ 1000000 then some (.tup (xs ++ ys)) else none
  | .lst xs, .lst ys => if xs.length + ys.length ≤ 1000000 then some (.lst (xs ++ ys)) else none
  | _, _ => none
def rAddS : R2 := fun x y H Q => ∃ i j, x = .str i ∧ y = .str j ∧ i.length + j.length ≤ sizeLine ∧ Q (.str (i ++ j)) H
/-- list + list, either one perhaps the script -/
def rCatR : R2 := fun x y H Q => ∃ l b xs zs, x = .ref l ∧ y = .ref b ∧ Rd H l (.lst xs) ∧ Rd H b (.lst zs) ∧ xs.length + zs.length ≤ sizeLine ∧ ∀ p, H p = none → Q (.ref p) (upd H p (.lst (xs ++ zs)))
theorem op_catR : OpR X (binaryOp .Add) rCatR := by
  intro pins s σ H x y v u Q I rx ry ⟨l, b, xs, zs, e1, e2, g1, g2, hz, q⟩
  subst e1 e2
  cases rx
  cases ry
  obtain ⟨z1, l1, n1, r1, k1⟩ := g1.ok I.hok
  obtain ⟨z2, l2, n2, r2, k2⟩ := g2.ok I.hok
  refine PySem.P.add_list k1 k2 ?_ (by rw [List.size_toArray, List.size_toArray, ← r1.length, ← r2.length]; exact hz)
  rw [show l1.toArray ++ l2.toArray = (l1 ++ l2).toArray by simp]
  exact ⟨.ref _, _, I.lnew (t' := s.toks) (r1.append r2) (by rw [List.length_append]; exact hz), rfl, q _ I.fresh⟩
def rAddA (K : PySem.W.Frag) : R2 := fun x y H Q => rI0 (fun i j => .int (i + j)) x y H Q ∨ rAddS x y H Q ∨ rCatX K x y H Q ∨ rCatR x y H Q
theorem op_addA : OpR X (binaryOp .Add) (rAddA X.K) := OpR.or op_add (OpR.or op_add_str (OpR.or op_catX op_catR))
theorem rd_add : RD K (rAddA K) addD := by
  intro Hf H x y dx dy dz s rx ry e Q k
  match dx, dy, e, rx, ry with
  | .int i, .int j, e, rx, ry =>
    cases rep_int rx; cases rep_int ry
    cases e
    exact .inl ⟨i, j, rfl, rfl, k _ H Hf (New.refl s) (by unfold Rep; rfl)⟩
  | .str a, .str b, e, rx, ry =>
    cases rep_str rx; cases rep_str ry
    simp only [addD] at e
    split at e
    · rename_i hl
      cases e
      exact .inr (.inl ⟨a, b, rfl, rfl, fits_line hl, k _ H Hf (New.refl s) (by unfold Rep; rfl)⟩)
    · cases e
  | .tup xs, .tup ys, e, rx, ry =>
    obtain ⟨p, vs, rfl, g1, g2⟩ := rep_tup rx
    obtain ⟨q, us, rfl, g3, g4⟩ := rep_tup ry
    simp only [addD] at e
    split at e
    · rename_i hl
      cases e
      refine .inr (.inr (.inl ⟨p, q, vs, us, rfl, rfl, Same.sqT s g1, Same.sqT s g3, by rw [← reps_len g2, ← reps_len g4]; exact fits_line hl, fun h => ?_, fun _ h => ?_, fun _ _ z oz hz hoz => ?_⟩))
      · subst h
        have : xs = [] := List.eq_nil_of_length_eq_zero (by rw [reps_len g2]; rfl)
        subst this
        exact k _ H Hf (New.refl s) ry
      · subst h
        have : ys = [] := List.eq_nil_of_length_eq_zero (by rw [reps_len g4]; rfl)
        subst this
        rw [List.append_nil] at k
        exact k _ H Hf (New.refl s) rx
      · obtain ⟨n, r⟩ := lay_tup s hz hoz (reps_append g2 g4)
        exact k _ _ _ n r
    · cases e
  | .lst xs, .lst ys, e, rx, ry =>
    obtain ⟨p, vs, rfl, g1, g2⟩ := rep_lst rx
    obtain ⟨q, us, rfl, g3, g4⟩ := rep_lst ry
    simp only [addD] at e
    split at e
    · rename_i hl
      cases e
      refine .inr (.inr (.inr ⟨p, q, vs, us, rfl, rfl, Same.rd s g1, Same.rd s g3, by rw [← reps_len g2, ← reps_len g4]; exact fits_line hl, fun z hz => ?_⟩))
      obtain ⟨n, r⟩ := lay_lst s hz (reps_append g2 g4)
      exact k _ _ _ n r
    · cases e
/-! ### ints -/
def int2 (g : Int → Int → D) : D → D → Option D
  | .int i, .int j => some (g i j)
  | _, _ => none
def int2c (c : Int → Int → Bool) (g : Int → Int → D) : D → D → Option D
  | .int i, .int j => if c i j then some (g i j) else none
  | _, _ => none
theorem rd_int0 {g : Int → Int → V} {gd : Int → Int → D} (h : ∀ i j Hf, Rep K Hf (gd i j) (g i j)) : RD K (rI0 g) (int2 gd) := by
  intro Hf H x y dx dy dz s rx ry e Q k
  match dx, dy, e, rx, ry with
  | .int i, .int j, e, rx, ry =>
    cases rep_int rx; cases rep_int ry
    cases e
    exact ⟨i, j, rfl, rfl, k _ H Hf (New.refl s) (h i j Hf)⟩
theorem rd_intc {C : Int → Int → Prop} {c : Int → Int → Bool} {g : Int → Int → V} {gd : Int → Int → D} (hc : ∀ i j, c i j = true → C i j) (h : ∀ i j Hf, Rep K Hf (gd i j) (g i j)) : RD K (rI C g) (int2c c gd) := by
  intro Hf H x y dx dy dz s rx ry e Q k
  match dx, dy, e, rx, ry with
  | .int i, .int j, e, rx, ry =>
    cases rep_int rx; cases rep_int ry
    simp only [int2c] at e
    split at e
    · rename_i hh
      cases e
      exact ⟨i, j, rfl, rfl, hc i j hh, k _ H Hf (New.refl s) (h i j Hf)⟩
    · cases e
def subD : D → D → Option D := int2 fun i j => .int (i - j)
theorem rd_sub : RD K (rI0 fun i j => .int (i - j)) subD := rd_int0 fun _ _ _ => by unfold Rep; rfl
def modD : D → D → Option D := int2c (fun _ j => decide (0 < j)) fun i j => .int (i % j)
theorem rd_mod : RD K (rI (fun _ j => 0 < j) fun i j => .int (i % j)) modD := rd_intc (fun _ _ h => of_decide_eq_true h) fun _ _ _ => by unfold Rep; rfl
def fdivD : D → D → Option D := int2c (fun _ j => decide (0 < j) && decide (j < 1073741824)) fun i j => .int (i / j)
theorem rd_fdiv : RD K (rI CDiv fun i j => .int (i / j)) fdivD := rd_intc (fun _ _ h => by
  rw [Bool.and_eq_true] at h
  exact ⟨of_decide_eq_true h.1, of_decide_eq_true h.2⟩) fun _ _ _ => by unfold Rep; rfl
def powD : D → D → Option D := int2c (fun i j => decide (0 ≤ j) && decide (j ≤ 1000000) && decide (i.natAbs < 2 ^ 64)) fun i j => .int (i ^ j.toNat)
theorem rd_pow : RD K (rI CPow fun i j => .int (i ^ j.toNat)) powD := rd_intc (fun _ _ h => by
  rw [Bool.and_eq_true, Bool.and_eq_true] at h
  exact ⟨of_decide_eq_true h.1.1, of_decide_eq_true h.1.2, of_decide_eq_true h.2⟩) fun _ _ _ => by unfold Rep; rfl
def mulOk (i j : Int) : Bool := (decide (-(2 ^ 64) < i) && decide (i < 2 ^ 64)) || (decide (-(2 ^ 64) < j) && decide (j < 2 ^ 64))
theorem mulOk_c {i j : Int} (h : mulOk i j = true) : CMul i j := by
  unfold mulOk at h
  rw [Bool.or_eq_true, Bool.and_eq_true, Bool.and_eq_true] at h
  rcases h with h | h
  · exact .inl ⟨of_decide_eq_true h.1, of_decide_eq_true h.2⟩
  · exact .inr ⟨of_decide_eq_true h.1, of_decide_eq_true h.2⟩
def repL (n : Int) (ds : List D) : List D := (List.replicate n.toNat ds).flatten
/-- a tuple or a list times an int -/
def mulD : D → D → Option D
  | .int i, .int j => if mulOk i j then some (.int (i * j)) else none
  | .tup ds, .int n => if decide (-1000 ≤ n) && decide (n ≤ 1000) && decide (ds.length ≤ 1000) then some (.tup (repL n ds)) else none
  | .lst ds, .int n => if decide (-1000 ≤ n) && decide (n ≤ 1000) && decide (ds.length ≤ 1000) then some (.lst (repL n ds)) else none
  | _, _ => none
theorem reps_rep {ds : List D} {vs : List V} (h : Reps K Hf ds vs) : ∀ n : Nat, Reps K Hf (List.replicate n ds).flatten (List.replicate n vs).flatten
  | 0 => by simp [Reps]
  | n + 1 => by
    rw [List.replicate_succ, List.replicate_succ, List.flatten_cons, List.flatten_cons]
    exact reps_append h (reps_rep h n)
/-- list * int, the list perhaps one that is kept -/
def rRepR : R2 := fun x y H Q => ∃ l k xs, x = .ref l ∧ y = .int k ∧ Rd H l (.lst xs) ∧ -(2 ^ 63) ≤ k ∧ k < 2 ^ 63 ∧ xs.length * k.toNat ≤ 2 ^ 24 ∧ ∀ p, H p = none → Q (.ref p) (upd H p (.lst (List.replicate k.toNat xs).flatten))
theorem fold_flat (l : List Value) : ∀ m : Nat, List.foldl (fun a b => a ++ b) #[] (List.replicate m l.toArray) = (List.replicate m l).flatten.toArray := fun m => by
  have e := foldl_rep l m []
  rw [List.nil_append] at e
  exact e
theorem fold_rep (l : List Value) (m : Nat) : List.foldl (fun a b => a ++ b) #[] (List.replicate (if l.toArray.isEmpty = true then 0 else m) l.toArray) = (List.replicate m l).flatten.toArray := by
  rw [fold_flat]
  cases l with
  | nil => simp
  | cons a r => rw [if_neg (by simp)]
theorem op_repR : OpR X (binaryOp .Mult) rRepR := by
  intro pins s σ H x y v u Q I rx ry ⟨l, k, xs, e1, e2, g1, h1, h2, hz, q⟩
  subst e1 e2
  cases rx
  obtain ⟨t, rfl⟩ := ry
  obtain ⟨z1, l1, n1, r1, g⟩ := g1.ok I.hok
  have hs : l1.toArray.size * k.toNat ≤ 2 ^ 24 := by rw [List.size_toArray, ← r1.length]; exact hz
  refine wpAny_binaryOp_repeat_ref (T := "list") (U := "int") (by decide) ⟨_, g, rfl⟩ (fun s' => PySem.typeIs_int s' k t) noFill_list_mul F.fills_int_mul F.slot_int_rmul repeat_list F.slot_int_index.lookup
    (call_meets F.slot_int_rmul (PySem.typeIs_int s k t) F.entry_int_rmul (F.args_int_rmul_2 _ _) (int___rmul___int_list k t l l1.toArray n1) ⟨g, rfl, ⟨_, g, rfl⟩,
      call_meets F.slot_list_mul ⟨_, g, rfl⟩ F.entry_list_mul (F.args_list_mul_2 _ _) (AutoListH.list___mul___list_int_3 l l1.toArray n1 k t (by simp [Builtin.List.listFitsIndex]; omega) (by omega) (by simp [Builtin.List.listTooLong, sizeLine]; omega)) ⟨g, ?_⟩⟩)
  rw [fold_rep]
  exact ⟨.ref _, _, I.lnew (t' := s.toks) (r1.rep k.toNat) (by rw [PyProof.Rows.lm_len_rep_flat, Nat.mul_comm, sizeLine_eq]; omega), rfl, q _ I.fresh⟩
/-- tuple * int: the same object, the empty one, or a longer one -/
theorem tup_mul_same (l : Addr) (items : Array Value) (n : Nat) (dd : Option Addr) (sl : Array (Option Value)) (x : Int) (u : Tok) (c0 : (decide (x < -(2 ^ 63)) || decide (x ≥ 2 ^ 63)) = false) (c1 : (items.isEmpty || x == 1) = true) :
    Meets (Builtin.«tuple.__mul__» ⟨[.ref l, .int x u], []⟩) (fun _ R s => s.heap.get? l = some { cls := .type "tuple", dict := dd, data := .seq items n, slots := sl } ∧ R (.ok (.ret (.ref l))) s) :=
  .of_wp fun prog w A R s h => by
    obtain ⟨hp, g, d, tk, os⟩ := s
    obtain ⟨hl, h⟩ := h
    have f1 := AutoSeq1.idx_int
    wp_walk using wpAny_loadPart' hl
    repeat (first
      | (refine wpAny_ite_false (decide_eq_false (by rw [c0]; exact Bool.false_ne_true)) ?_; wp_walk using wpAny_loadPart' hl)
      | (refine wpAny_ite_true (decide_eq_true c1) ?_; wp_walk using wpAny_loadPart' hl))
    exact ⟨_, rfl, h⟩
theorem tup_mul_none (l : Addr) (items : Array Value) (n : Nat) (dd : Option Addr) (sl : Array (Option Value)) (x : Int) (u : Tok) (c0 : (decide (x < -(2 ^ 63)) || decide (x ≥ 2 ^ 63)) = false) (c1 : (items.isEmpty || x == 1) = false) (c2 : (decide (x ≤ 0) || items.isEmpty) = true) :
    Meets (Builtin.«tuple.__mul__» ⟨[.ref l, .int x u], []⟩) (fun _ R s => s.heap.get? l = some { cls := .type "tuple", dict := dd, data := .seq items n, slots := sl } ∧ R (.ok (.ret (.ref s.heap.objs.size))) { s with heap := s.heap.push { cls := .type "tuple", data := .seq #[] } }) :=
  .of_wp fun prog w A R s h => by
    obtain ⟨hp, g, d, tk, os⟩ := s
    obtain ⟨hl, h⟩ := h
    have f1 := AutoSeq1.idx_int
    wp_walk using wpAny_loadPart' hl
    repeat (first
      | (refine wpAny_ite_false (decide_eq_false (by rw [c0]; exact Bool.false_ne_true)) ?_; wp_walk using wpAny_loadPart' hl)
      | (refine wpAny_ite_false (decide_eq_false (by rw [c1]; exact Bool.false_ne_true)) ?_; wp_walk using wpAny_loadPart' hl)
      | (refine wpAny_ite_true (decide_eq_true c2) ?_; wp_walk using wpAny_loadPart' hl))
    exact ⟨_, rfl, h⟩
def rRepT1 (K : PySem.W.Frag) : R2 := fun x y H Q => ∃ l k xs, x = .ref l ∧ y = .int k ∧ SqT K H l xs ∧ -1000 ≤ k ∧ k ≤ 1000 ∧ (((xs = [] ∨ k = 1) ∧ Q (.ref l) H) ∨ (xs ≠ [] ∧ k ≤ 0 ∧ ∀ p o, H p = none → o.dict = none → Q (.ref p) (upd H p (.frz o (.tup [])))))
theorem op_repT1 : OpR X (binaryOp .Mult) (rRepT1 X.K) := by
  intro pins s σ H x y v u Q I rx ry ⟨l, k, xs, e1, e2, hT, b1, b2, h⟩
  subst e1 e2
  cases rx
  obtain ⟨t, rfl⟩ := ry
  obtain ⟨its, r, ⟨⟨cls, dd, data, sl⟩, ho, hc, n, hd⟩, hs⟩ := I.tuple hT
  simp only at hc hd
  subst hc hd
  have hle : its.length = xs.length := r.length.symm
  have c0 : (decide (k < -(2 ^ 63)) || decide (k ≥ 2 ^ 63)) = false := by rw [decide_eq_false (by omega), decide_eq_false (by omega)] <;> rfl
  refine wpAny_binaryOp_repeat_ref (T := "tuple") (U := "int") (by decide) ⟨_, ho, rfl⟩ (fun s' => PySem.typeIs_int s' k t) noFill_tuple_mul F.fills_int_mul F.slot_int_rmul repeat_tuple F.slot_int_index.lookup
    (call_meets F.slot_int_rmul (PySem.typeIs_int s k t) F.entry_int_rmul (F.args_int_rmul_2 _ _) (int_rmul_tuple k t l its.toArray n dd sl) ⟨ho, rfl, ⟨_, ho, rfl⟩, ?_⟩)
  rcases h with ⟨h, q⟩ | ⟨h1, h2, q⟩
  · refine call_meets F.slot_tuple_mul ⟨_, ho, rfl⟩ F.entry_tuple_mul (F.args_tuple_mul_2 _ _) (tup_mul_same l its.toArray n dd sl k t c0 ?_) ⟨ho, ⟨.ref l, H, I, rfl, q⟩⟩
    rcases h with h | h
    · subst h
      rw [List.eq_nil_of_length_eq_zero (show its.length = 0 from hle)]; rfl
    · subst h; simp
  · have hn : its.toArray.isEmpty = false := by
      cases its with
      | nil => exact absurd (List.eq_nil_of_length_eq_zero hle.symm) h1
      | cons a b => rfl
    refine call_meets F.slot_tuple_mul ⟨_, ho, rfl⟩ F.entry_tuple_mul (F.args_tuple_mul_2 _ _) (tup_mul_none l its.toArray n dd sl k t c0 ?_ ?_) ⟨ho, ?_⟩
    · rw [hn, Bool.false_or]; exact beq_eq_false_iff_ne.mpr (by omega)
    · rw [decide_eq_true h2]; rfl
    · exact ⟨.ref s.heap.objs.size, _, I.laid (t' := s.toks) (o := .frz _ (.tup [])) (fun b ob q => Heap.get?_push_of_some _ q) (Nat.le_refl _) ⟨Heap.get?_push_size _ rfl, Nat.zero_le _, [], .nil, PyProof.Rows.IsTup.new _ _⟩, rfl, q _ _ (I.hok.fresh (Nat.le_refl _)) rfl⟩
def rMulA (K : PySem.W.Frag) : R2 := fun x y H Q => rI CMul (fun i j => .int (i * j)) x y H Q ∨ rRepX K x y H Q ∨ rRepR x y H Q ∨ rRepT1 K x y H Q
theorem op_mulA : OpR X (binaryOp .Mult) (rMulA X.K) := OpR.or op_mul (OpR.or op_repX (OpR.or op_repR op_repT1))
theorem rd_mul : RD K (rMulA K) mulD := by
  intro Hf H x y dx dy dz s rx ry e Q k
  match dx, dy, e, rx, ry with
  | .int i, .int j, e, rx, ry =>
    cases rep_int rx; cases rep_int ry
    simp only [mulD] at e
    split at e
    · rename_i hh
      cases e
      exact .inl ⟨i, j, rfl, rfl, mulOk_c hh, k _ H Hf (New.refl s) (by unfold Rep; rfl)⟩
    · cases e
  | .tup ds, .int n, e, rx, ry =>
    obtain ⟨p, vs, rfl, g1, g2⟩ := rep_tup rx
    cases rep_int ry
    simp only [mulD] at e
    split at e
    · rename_i hh
      rw [Bool.and_eq_true, Bool.and_eq_true] at hh
      cases e
      have h1 : -1000 ≤ n := of_decide_eq_true hh.1.1
      have h2 : n ≤ 1000 := of_decide_eq_true hh.1.2
      have h3 : vs.length ≤ 1000 := by rw [← reps_len g2]; exact of_decide_eq_true hh.2
      by_cases c1 : vs = [] ∨ n = 1
      · refine .inr (.inr (.inr ⟨p, n, vs, rfl, rfl, Same.sqT s g1, h1, h2, .inl ⟨c1, ?_⟩⟩))
        have e : repL n ds = ds := by
          unfold repL
          rcases c1 with c | c
          · subst c
            rw [List.eq_nil_of_length_eq_zero (show ds.length = 0 by rw [reps_len g2]; rfl)]
            simp
          · subst c
            show (List.replicate 1 ds).flatten = ds
            simp
        rw [e] at k
        exact k _ H Hf (New.refl s) rx
      · rw [not_or] at c1
        by_cases c2 : n ≤ 0
        · refine .inr (.inr (.inr ⟨p, n, vs, rfl, rfl, Same.sqT s g1, h1, h2, .inr ⟨c1.1, c2, fun z oz hz hoz => ?_⟩⟩))
          have e : repL n ds = [] := by
            unfold repL
            rw [show n.toNat = 0 by omega]
            rfl
          rw [e] at k
          obtain ⟨n', r⟩ := lay_tup (ds := []) (vs := []) s hz hoz (by unfold Reps; rfl)
          exact k _ _ _ n' r
        · refine .inr (.inl ⟨p, n, vs, rfl, rfl, Same.sqT s g1, c1.1, by omega, h2, h3, fun z oz hz hoz => ?_⟩)
          obtain ⟨n', r⟩ := lay_tup s hz hoz (reps_rep g2 n.toNat)
          exact k _ _ _ n' r
    · cases e
  | .lst ds, .int n, e, rx, ry =>
    obtain ⟨p, vs, rfl, g1, g2⟩ := rep_lst rx
    cases rep_int ry
    simp only [mulD] at e
    split at e
    · rename_i hh
      rw [Bool.and_eq_true, Bool.and_eq_true] at hh
      cases e
      have h1 : -1000 ≤ n := of_decide_eq_true hh.1.1
      have h2 : n ≤ 1000 := of_decide_eq_true hh.1.2
      have h3 : vs.length ≤ 1000 := by rw [← reps_len g2]; exact of_decide_eq_true hh.2
      refine .inr (.inr (.inl ⟨p, n, vs, rfl, rfl, Same.rd s g1, by omega, by omega, Nat.le_trans (m := 1000000) ?_ (by decide), fun z hz => ?_⟩))
      · have : n.toNat ≤ 1000 := by omega
        calc vs.length * n.toNat ≤ 1000 * 1000 := Nat.mul_le_mul h3 this
          _ = 1000000 := rfl
      · obtain ⟨n', r⟩ := lay_lst s hz (reps_rep g2 n.toNat)
        exact k _ _ _ n' r
    · cases e
def ltD : D → D → Option D := int2 fun i j => .bl (decide (i < j))
def leD : D → D → Option D := int2 fun i j => .bl (decide (i ≤ j))
def gtD : D → D → Option D := int2 fun i j => .bl (decide (j < i))
def geD : D → D → Option D := int2 fun i j => .bl (decide (j ≤ i))
theorem rd_lt : RD K (rI0 fun i j => .bl (decide (i < j))) ltD := rd_int0 fun _ _ _ => by unfold Rep; rfl
theorem rd_le : RD K (rI0 fun i j => .bl (decide (i ≤ j))) leD := rd_int0 fun _ _ _ => by unfold Rep; rfl
theorem rd_gt : RD K (rI0 fun i j => .bl (decide (j < i))) gtD := rd_int0 fun _ _ _ => by unfold Rep; rfl
theorem rd_ge : RD K (rI0 fun i j => .bl (decide (j ≤ i))) geD := rd_int0 fun _ _ _ => by unfold Rep; rfl
def negD : D → Option D
  | .int i => some (.int (-i))
  | _ => none
theorem rd_neg : RDU K (rU fun i => .int (-i)) negD := by
  intro Hf H x dx dz s rx e Q k
  match dx, e, rx with
  | .int i, e, rx =>
    cases rep_int rx
    cases e
    exact ⟨i, rfl, k _ H Hf (New.refl s) (by unfold Rep; rfl)⟩

/-! ### == -/
mutual
def toP : D → Option PyData
  | .non => some .none
  | .bl b => some (.bool b)
  | .int i => some (.int i)
  | .str s => some (.str s)
  | .tup ds => (toPs ds).map .tuple
  | .lst ds => (toPs ds).map .list
  | _ => none
def toPs : List D → Option (List PyData)
  | [] => some []
  | d :: ds => match toP d, toPs ds with
    | some p, some ps => some (p :: ps)
    | _, _ => none
end
mutual
theorem dp_of (s : Same Hf H) : ∀ {d : D} {p : PyData} {v : V}, toP d = some p → Rep K Hf d v → Dp K H v p
  | .non, p, v, e, r => by
    unfold toP at e; unfold Rep at r
    cases e; subst r; exact Dp.non
  | .bl b, p, v, e, r => by
    unfold toP at e; unfold Rep at r
    cases e; subst r; exact Dp.bl b
  | .int b, p, v, e, r => by
    unfold toP at e; unfold Rep at r
    cases e; subst r; exact Dp.int b
  | .str b, p, v, e, r => by
    unfold toP at e; unfold Rep at r
    cases e; subst r; exact Dp.str b
  | .tup ds, p, v, e, r => by
    unfold toP at e; unfold Rep at r
    obtain ⟨a, vs, rfl, g1, g2⟩ := r
    cases e1 : toPs ds with
    | none => rw [e1] at e; cases e
    | some ps =>
      rw [e1] at e; cases e
      exact Dp.tup (Same.sqT s g1.sqT) (dps_of s e1 g2)
  | .lst ds, p, v, e, r => by
    unfold toP at e; unfold Rep at r
    obtain ⟨a, vs, rfl, g1, g2⟩ := r
    cases e1 : toPs ds with
    | none => rw [e1] at e; cases e
    | some ps =>
      rw [e1] at e; cases e
      exact Dp.lst (rdSeq s (.inl g1)) (dps_of s e1 g2)
  | .ref _, _, _, e, _ => by unfold toP at e; cases e
  | .ty _, _, _, e, _ => by unfold toP at e; cases e
  | .dct _, _, _, e, _ => by unfold toP at e; cases e
  | .dcn _, _, _, e, _ => by unfold toP at e; cases e
  | .ins _ _, _, _, e, _ => by unfold toP at e; cases e
theorem dps_of (s : Same Hf H) : ∀ {ds : List D} {ps : List PyData} {vs : List V}, toPs ds = some ps → Reps K Hf ds vs → DpAll K H vs ps
  | [], _, _, e, r => by
    unfold toPs at e; unfold Reps at r
    cases e; subst r; exact DpAll.nil
  | d :: ds, _, _, e, r => by
    unfold toPs at e; unfold Reps at r
    obtain ⟨v, r', rfl, g1, g2⟩ := r
    cases e1 : toP d with
    | none => rw [e1] at e; cases e
    | some p =>
      cases e2 : toPs ds with
      | none => rw [e1, e2] at e; cases e
      | some ps =>
        rw [e1, e2] at e; cases e
        exact DpAll.cons (dp_of s e1 g1) (dps_of s e2 g2)
end
/-- == of data (none where the model is not asked) -/
def eqvD (a b : D) : Option Bool := match toP a, toP b with
  | some p, some q => if SeqAt.shaped p && SeqAt.shaped q then some (PyData.eqv p q) else none
  | _, _ => none
def eqD (a b : D) : Option D := (eqvD a b).map .bl
def neD (a b : D) : Option D := (eqvD a b).map fun k => .bl (!k)
theorem eqvD_inv {a b : D} {k : Bool} (h : eqvD a b = some k) : ∃ p q, toP a = some p ∧ toP b = some q ∧ SeqAt.shaped p = true ∧ SeqAt.shaped q = true ∧ k = PyData.eqv p q := by
  unfold eqvD at h
  cases e1 : toP a with
  | none => rw [e1] at h; cases h
  | some p =>
    cases e2 : toP b with
    | none => rw [e1, e2] at h; cases h
    | some q =>
      rw [e1, e2] at h
      simp only at h
      split at h
      · rename_i hh
        rw [Bool.and_eq_true] at hh
        cases h
        exact ⟨p, q, rfl, rfl, hh.1, hh.2, rfl⟩
      · cases h
theorem rd_eq : RD K (rEqD K) eqD := by
  intro Hf H x y dx dy dz s rx ry e Q k
  unfold eqD at e
  cases h : eqvD dx dy with
  | none => rw [h] at e; cases e
  | some b =>
    rw [h] at e; cases e
    obtain ⟨p, q, e1, e2, s1, s2, rfl⟩ := eqvD_inv h
    exact ⟨p, q, dp_of s e1 rx, dp_of s e2 ry, s1, s2, k _ H Hf (New.refl s) (by unfold Rep; rfl)⟩
theorem rd_ne : RD K (rNeD K) neD := by
  intro Hf H x y dx dy dz s rx ry e Q k
  unfold neD at e
  cases h : eqvD dx dy with
  | none => rw [h] at e; cases e
  | some b =>
    rw [h] at e; cases e
    obtain ⟨p, q, e1, e2, s1, s2, rfl⟩ := eqvD_inv h
    exact ⟨p, q, dp_of s e1 rx, dp_of s e2 ry, s1, s2, k _ H Hf (New.refl s) (by unfold Rep; rfl)⟩
/-! ### in -/
/-- flat data -/
def flatD : D → Bool
  | .non => true
  | .bl _ => true
  | .int _ => true
  | .str _ => true
  | _ => false
def eqF : D → D → Bool
  | .non, .non => true
  | .bl a, .bl b => a == b
  | .bl a, .int b => (if a then 1 else 0) == b
  | .int a, .bl b => a == (if b then 1 else 0)
  | .int a, .int b => a == b
  | .str a, .str b => a == b
  | _, _ => false
def memF (x : D) (ds : List D) : Bool := ds.any fun y => eqF y x
def seqOf : D → Option (List D)
  | .tup ds => some ds
  | .lst ds => some ds
  | _ => none
def inD (x y : D) : Option D := match seqOf y with
  | some ds => if flatD x && ds.all flatD then some (.bl (memF x ds)) else none
  | none => none
def notInD (x y : D) : Option D := match seqOf y with
  | some ds => if flatD x && ds.all flatD then some (.bl (!memF x ds)) else none
  | none => none
theorem flat_rep {d : D} {v : V} (h : flatD d = true) (r : Rep K Hf d v) : flatV v = true := by
  cases d <;> simp [flatD] at h <;> unfold Rep at r <;> subst r <;> rfl
theorem eqF_rep {d e : D} {v u : V} (h : flatD d = true) (h2 : flatD e = true) (r : Rep K Hf d v) (r2 : Rep K Hf e u) : eqV v u = eqF d e := by
  cases d <;> simp [flatD] at h <;> cases e <;> simp [flatD] at h2 <;> unfold Rep at r r2 <;> subst r <;> subst r2 <;> rfl
theorem flats_rep : ∀ {ds : List D} {vs : List V}, ds.all flatD = true → Reps K Hf ds vs → vs.all flatV = true
  | [], _, _, r => by unfold Reps at r; subst r; rfl
  | d :: ds, _, h, r => by
    unfold Reps at r
    obtain ⟨v, r', rfl, g1, g2⟩ := r
    rw [List.all_cons, Bool.and_eq_true] at h
    rw [List.all_cons, flat_rep h.1 g1, flats_rep h.2 g2]; rfl
theorem mem_rep {x : D} {u : V} (hx : flatD x = true) (rx : Rep K Hf x u) : ∀ {ds : List D} {vs : List V}, ds.all flatD = true → Reps K Hf ds vs → inV u vs = memF x ds
  | [], _, _, r => by unfold Reps at r; subst r; rfl
  | d :: ds, _, h, r => by
    unfold Reps at r
    obtain ⟨v, r', rfl, g1, g2⟩ := r
    rw [List.all_cons, Bool.and_eq_true] at h
    have ih := mem_rep hx rx h.2 g2
    unfold inV memF at ih ⊢
    rw [List.any_cons, List.any_cons, eqF_rep h.1 hx g1 rx, ih]
theorem seq_rep {y : D} {ds : List D} {v : V} (s : Same Hf H) (h : seqOf y = some ds) (r : Rep K Hf y v) : ∃ p vs, v = .ref p ∧ (SqL K H p vs ∨ SqT K H p vs) ∧ Reps K Hf ds vs := by
  cases y <;> simp [seqOf] at h <;> subst h
  · obtain ⟨a, vs, rfl, g1, g2⟩ := rep_tup r
    exact ⟨a, vs, rfl, .inr (Same.sqT s g1), g2⟩
  · obtain ⟨a, vs, rfl, g1, g2⟩ := rep_lst r
    exact ⟨a, vs, rfl, .inl (rdSeq s g1), g2⟩
theorem rd_in : RD K (rIn K false) inD := by
  intro Hf H x y dx dy dz s rx ry e Q k
  unfold inD at e
  cases h : seqOf dy with
  | none => rw [h] at e; cases e
  | some ds =>
    rw [h] at e
    simp only at e
    split at e
    · rename_i hh
      rw [Bool.and_eq_true] at hh
      cases e
      obtain ⟨p, vs, rfl, g1, g2⟩ := seq_rep s h ry
      refine ⟨p, vs, rfl, g1, flat_rep hh.1 rx, flats_rep hh.2 g2, ?_⟩
      rw [if_neg (by decide), mem_rep hh.1 rx hh.2 g2]
      exact k _ H Hf (New.refl s) (by unfold Rep; rfl)
    · cases e
theorem rd_notIn : RD K (rIn K true) notInD := by
  intro Hf H x y dx dy dz s rx ry e Q k
  unfold notInD at e
  cases h : seqOf dy with
  | none => rw [h] at e; cases e
  | some ds =>
    rw [h] at e
    simp only at e
    split at e
    · rename_i hh
      rw [Bool.and_eq_true] at hh
      cases e
      obtain ⟨p, vs, rfl, g1, g2⟩ := seq_rep s h ry
      refine ⟨p, vs, rfl, g1, flat_rep hh.1 rx, flats_rep hh.2 g2, ?_⟩
      rw [if_pos rfl, mem_rep hh.1 rx hh.2 g2]
      exact k _ H Hf (New.refl s) (by unfold Rep; rfl)
    · cases e
/-! ### is None; is of truth values -/
def isNon : D → Bool
  | .non => true
  | _ => false
theorem isNon_rep {d : D} {v : V} (r : Rep K Hf d v) : decide (v = V.non) = isNon d := by
  cases d <;> unfold Rep at r <;> simp [isNon] <;> first | exact r | (obtain ⟨a, rfl, _⟩ := r; simp; done) | (subst r; simp) | (obtain ⟨a, vs, rfl, _⟩ := r; simp) | (obtain ⟨a, dx, vs, rfl, _⟩ := r; simp)
def isD : D → D → Option D
  | x, .non => some (.bl (isNon x))
  | .bl a, .bl b => some (.bl (decide (a = b)))
  | _, _ => none
def isNotD : D → D → Option D
  | x, .non => some (.bl (!isNon x))
  | .bl a, .bl b => some (.bl (!decide (a = b)))
  | _, _ => none
def rIsA : R2 := fun x y H Q => (y = .non ∧ Q (.bl (decide (x = .non))) H) ∨ rIsB x y H Q
def rIsNotA : R2 := fun x y H Q => (y = .non ∧ Q (.bl (!decide (x = .non))) H) ∨ rNotB x y H Q
theorem op_isA : OpR X (compareOp .Is) rIsA := OpR.or op_isN op_isBl
theorem op_isNotA : OpR X (compareOp .IsNot) rIsNotA := OpR.or op_notN op_notBl
theorem rd_is : RD K rIsA isD := by
  intro Hf H x y dx dy dz s rx ry e Q k
  match dx, dy, e, rx, ry with
  | d, .non, e, rx, ry =>
    unfold Rep at ry
    simp only [isD] at e
    cases e
    refine .inl ⟨ry, ?_⟩
    rw [isNon_rep rx]
    exact k _ H Hf (New.refl s) (by unfold Rep; rfl)
  | .bl a, .bl b, e, rx, ry =>
    unfold Rep at rx ry
    simp only [isD] at e
    cases e
    exact .inr ⟨a, b, rx, ry, k _ H Hf (New.refl s) (by unfold Rep; rfl)⟩
theorem rd_isNot : RD K rIsNotA isNotD := by
  intro Hf H x y dx dy dz s rx ry e Q k
  match dx, dy, e, rx, ry with
  | d, .non, e, rx, ry =>
    unfold Rep at ry
    simp only [isNotD] at e
    cases e
    refine .inl ⟨ry, ?_⟩
    rw [isNon_rep rx]
    exact k _ H Hf (New.refl s) (by unfold Rep; rfl)
  | .bl a, .bl b, e, rx, ry =>
    unfold Rep at rx ry
    simp only [isNotD] at e
    cases e
    exact .inr ⟨a, b, rx, ry, k _ H Hf (New.refl s) (by unfold Rep; rfl)⟩
end
end DL

/-! The D layer, 8: items, slices, displays, calls of built-ins, what is walked. -/
namespace DL
open PySem L2

section
variable {K : PySem.W.Frag} {mg : Str → Option Value} {W : XK} {Hf H Hf' H' Hf1 H1 : Hp} {σ : L2.St} {ρ : Ro}
/-! ### items -/
/-- the value at a key; a key's place -/
def valD (kvs : List (D × D)) (k : Key) : Option D := (kvs.find? fun p => decide (keyD p.1 = some k)).map (·.2)
def putD (kvs : List (D × D)) (kd : D) (k : Key) (d : D) : List (D × D) :=
  if (kvs.any fun p => decide (keyD p.1 = some k)) = true then kvs.map (fun p => if keyD p.1 = some k then (p.1, d) else p) else kvs ++ [(kd, d)]
theorem keyD_rep {d : D} {k : Key} {v : V} (h : keyD d = some k) (r : Rep K Hf d v) : v = kV k := by
  cases d <;> simp [keyD] at h <;> subst h <;> unfold Rep at r <;> exact r
theorem repk_val {k : Key} : ∀ {kvs : List (D × D)} {vs : List (Key × V)}, Repk K Hf kvs vs → (∀ d, valD kvs k = some d → ∃ v, valV vs k = some v ∧ Rep K Hf d v) ∧ (valD kvs k = none → valV vs k = none)
  | [], vs, r => by
    unfold Repk at r
    subst r
    exact ⟨fun d h => by simp [valD] at h, fun _ => rfl⟩
  | (kd, d) :: kvs, vs, r => by
    unfold Repk at r
    obtain ⟨k', v, r', rfl, h1, h2, h3⟩ := r
    obtain ⟨i1, i2⟩ := repk_val (k := k) h3
    by_cases e : k' = k
    · subst e
      rw [valV_pos (p := (k', v)) rfl]
      have : valD ((kd, d) :: kvs) k' = some d := by unfold valD; rw [List.find?_cons_of_pos (by simp [h1])]; rfl
      rw [this]
      exact ⟨fun x h => by cases h; exact ⟨v, rfl, h2⟩, fun h => by cases h⟩
    · rw [valV_neg (p := (k', v)) e]
      have : valD ((kd, d) :: kvs) k = valD kvs k := by unfold valD; rw [List.find?_cons_of_neg (by simp [h1, e])]
      rw [this]
      exact ⟨i1, i2⟩
theorem repk_any {k : Key} : ∀ {kvs : List (D × D)} {vs : List (Key × V)}, Repk K Hf kvs vs → (kvs.any fun p => decide (keyD p.1 = some k)) = vs.any fun kv => decide (kv.1 = k)
  | [], vs, r => by unfold Repk at r; subst r; rfl
  | (kd, d) :: kvs, vs, r => by
    unfold Repk at r
    obtain ⟨k', v, r', rfl, h1, h2, h3⟩ := r
    rw [List.any_cons, List.any_cons, repk_any h3, h1]
    simp
theorem repk_repl {k : Key} {d : D} {v : V} (hd : Rep K Hf d v) : ∀ {kvs : List (D × D)} {vs : List (Key × V)}, Repk K Hf kvs vs → Repk K Hf (kvs.map fun p => if keyD p.1 = some k then (p.1, d) else p) (vs.map fun kv => if kv.1 = k then (kv.1, v) else kv)
  | [], vs, r => by unfold Repk at r; subst r; simp [Repk]
  | (kd, e) :: kvs, vs, r => by
    unfold Repk at r
    obtain ⟨k', u, r', rfl, h1, h2, h3⟩ := r
    rw [List.map_cons, List.map_cons]
    by_cases q : k' = k
    · subst q
      simp only [h1, if_true]
      unfold Repk
      exact ⟨k', v, _, rfl, h1, hd, repk_repl hd h3⟩
    · simp only [h1, if_neg q, if_neg (fun h : some k' = some k => q (Option.some.inj h))]
      unfold Repk
      exact ⟨k', u, _, rfl, h1, h2, repk_repl hd h3⟩
theorem repk_snoc {kd d : D} {k : Key} {v : V} (hk : keyD kd = some k) (hd : Rep K Hf d v) : ∀ {kvs : List (D × D)} {vs : List (Key × V)}, Repk K Hf kvs vs → Repk K Hf (kvs ++ [(kd, d)]) (vs ++ [(k, v)])
  | [], vs, r => by
    unfold Repk at r; subst r
    show Repk K Hf [(kd, d)] [(k, v)]
    unfold Repk
    exact ⟨k, v, [], rfl, hk, hd, by unfold Repk; rfl⟩
  | (ke, e) :: kvs, vs, r => by
    unfold Repk at r
    obtain ⟨k', u, r', rfl, h1, h2, h3⟩ := r
    show Repk K Hf ((ke, e) :: (kvs ++ [(kd, d)])) ((k', u) :: (r' ++ [(k, v)]))
    unfold Repk
    exact ⟨k', u, _, rfl, h1, h2, repk_snoc hk hd h3⟩
theorem repk_put {kd d : D} {k : Key} {v : V} {kvs : List (D × D)} {vs : List (Key × V)} (hk : keyD kd = some k) (hd : Rep K Hf d v) (r : Repk K Hf kvs vs) : Repk K Hf (putD kvs kd k d) (putK vs k v) := by
  unfold putD putK
  rw [repk_any r]
  split
  · exact repk_repl hd r
  · exact repk_snoc hk hd r
theorem repk_len : ∀ {kvs : List (D × D)} {vs : List (Key × V)}, Repk K Hf kvs vs → kvs.length = vs.length
  | [], vs, r => by unfold Repk at r; subst r; rfl
  | (ke, e) :: kvs, vs, r => by
    unfold Repk at r
    obtain ⟨k', u, r', rfl, h1, h2, h3⟩ := r
    rw [List.length_cons, List.length_cons, repk_len h3]
theorem rep_dct {kvs : List (D × D)} {v : V} (r : Rep K Hf (.dct kvs) v) : ∃ a o vs, v = .ref a ∧ Hf a = some (.frz o (.dK vs)) ∧ Repk K Hf kvs vs := by unfold Rep at r; exact r
def ixD : D → D → Option D
  | .dct kvs, kd => (keyD kd).bind (valD kvs)
  | .tup ds, .int i => atI ds i
  | .lst ds, .int i => atI ds i
  | .str z, .int i => if z.length ≤ 1000000 then (atI z.cps.toList i).map fun c => .str ⟨#[c]⟩ else none
  | _, _ => none
theorem reps_atI {ds : List D} {vs : List V} {i : Int} {d : D} (r : Reps K Hf ds vs) (h : atI ds i = some d) : ∃ v, atI vs i = some v ∧ Rep K Hf d v := by
  unfold atI at h ⊢
  rw [← reps_len r]
  cases e : ixN ds.length i with
  | none => rw [e] at h; cases h
  | some j =>
    rw [e] at h
    exact reps_get r h
def rIxD : R2 := fun x y H Q => ∃ a v, x = .ref a ∧ DGet H a y (some v) ∧ Q v H
theorem ix_dct {X : Cx} (hu : X.A.units + 64 < cLine) : IxR X rIxD := by
  intro value slice pins s σ H x y v u Q I rx ry ⟨a, w, e, g, q⟩ hs
  subst e
  cases rx
  exact PyProof.Rows.tail_any (dict_typeIs I g) PySem.F.slot_dict_getitem.lookup (d_getItem (by omega) I g ry fun w' s' I' rw => ⟨w, H, I', rw, q⟩) hs
def rIxA (K : PySem.W.Frag) : R2 := fun x y H Q => rIx K x y H Q ∨ rIxD x y H Q
theorem ix_all {X : Cx} (hu : X.A.units + 64 < cLine) : IxR X (rIxA X.K) := ix_seq.or (ix_dct hu)
theorem rd_ix : RD K (rIxA K) ixD := by
  intro Hf H x y dx dy dz s rx ry e Q k
  match dx, dy, e, rx, ry with
  | .dct kvs, kd, e, rx, ry =>
    obtain ⟨a, o, vs, rfl, g1, g2⟩ := rep_dct rx
    simp only [ixD] at e
    cases h : keyD kd with
    | none => rw [h] at e; cases e
    | some key =>
      rw [h] at e
      obtain ⟨w, h1, h2⟩ := (repk_val g2).1 dz e
      exact .inr ⟨a, w, rfl, .inl ⟨vs, key, .inr ⟨o, s _ _ g1⟩, keyD_rep h ry, h1.symm⟩, k _ H Hf (New.refl s) h2⟩
  | .tup ds, .int i, e, rx, ry =>
    obtain ⟨a, vs, rfl, g1, g2⟩ := rep_tup rx
    cases rep_int ry
    obtain ⟨v, h1, h2⟩ := reps_atI g2 e
    exact .inl (.inr (.inl ⟨a, vs, i, v, rfl, rfl, Same.sqT s g1, h1, k _ H Hf (New.refl s) h2⟩))
  | .lst ds, .int i, e, rx, ry =>
    obtain ⟨a, vs, rfl, g1, g2⟩ := rep_lst rx
    cases rep_int ry
    obtain ⟨v, h1, h2⟩ := reps_atI g2 e
    exact .inl (.inl ⟨a, vs, i, v, rfl, rfl, rdSeq s g1, h1, k _ H Hf (New.refl s) h2⟩)
  | .str z, .int i, e, rx, ry =>
    cases rep_str rx
    cases rep_int ry
    simp only [ixD] at e
    split at e
    · rename_i hl
      cases h : atI z.cps.toList i with
      | none => rw [h] at e; cases e
      | some c =>
        rw [h] at e; cases e
        exact .inl (.inr (.inr ⟨z, i, c, rfl, rfl, fits_line hl, h, k _ H Hf (New.refl s) (by unfold Rep; rfl)⟩))
    · cases e
/-! ### slices -/
def cutD (ds : List D) (lo hi : Option Int) : List D := (ds.drop (HT.sIx ds.length 0 lo)).take (HT.sIx ds.length ds.length hi - HT.sIx ds.length 0 lo)
theorem reps_cut {ds : List D} {vs : List V} (r : Reps K Hf ds vs) (lo hi : Option Int) : Reps K Hf (cutD ds lo hi) (cutV vs lo hi) := by
  unfold cutD cutV
  rw [reps_len r]
  exact reps_take _ (reps_drop _ r)
def slD (x : D) (lo hi : Option Int) : Option D := match x with
  | .tup ds => some (.tup (cutD ds lo hi))
  | .lst ds => some (.lst (cutD ds lo hi))
  | .scr ns => some (.lst (cutD (ns.map .int) lo hi))
  | _ => none
def rSlX (K : PySem.W.Frag) : V → Option Int → Option Int → Hp → VK → Prop := fun x lo hi H Q => rSlTX K x lo hi H Q ∨ rSlL K x lo hi H Q
theorem sl_X {X : Cx} : SlR X (rSlX X.K) := SlR.or sl_tupX sl_list
theorem cut_whole {α : Type} {ds : List α} {lo hi : Option Int} (h : HT.sIx ds.length 0 lo = 0 ∧ HT.sIx ds.length ds.length hi = ds.length) : (ds.drop (HT.sIx ds.length 0 lo)).take (HT.sIx ds.length ds.length hi - HT.sIx ds.length 0 lo) = ds := by
  rw [h.1, h.2]; simp
theorem ints_reps : ∀ ns : List Int, Reps K Hf (ns.map D.int) (ns.map V.int)
  | [] => by simp [Reps]
  | n :: ns => reps_cons (by unfold Rep; rfl) (ints_reps ns)
theorem sl_rep {x : D} {v : V} {lo hi : Option Int} {dz : D} (s : Same Hf H) (r : Rep K Hf x v) (e : slD x lo hi = some dz) {Q : VK} (k : ∀ z H' Hf', New Hf H Hf' H' → Rep K Hf' dz z → Q z H') : rSlX K v lo hi H Q := by
  match x, e, r with
  | .tup ds, e, r =>
    obtain ⟨a, vs, rfl, g1, g2⟩ := rep_tup r
    cases e
    refine .inl ⟨a, vs, rfl, Same.sqT s g1, fun h => ?_, fun _ z oz hz hoz => ?_⟩
    · rw [← reps_len g2] at h
      have := cut_whole h
      unfold cutD at k
      rw [this] at k
      exact k _ H Hf (New.refl s) r
    · obtain ⟨n, r⟩ := lay_tup s hz hoz (reps_cut g2 lo hi)
      exact k _ _ _ n r
  | .lst ds, e, r =>
    obtain ⟨a, vs, rfl, g1, g2⟩ := rep_lst r
    cases e
    refine .inr ⟨a, vs, rfl, rdSeq s g1, fun z hz => ?_⟩
    obtain ⟨n, r⟩ := lay_lst s hz (reps_cut g2 lo hi)
    exact k _ _ _ n r
  | .scr ns, e, r =>
    unfold Rep at r
    obtain ⟨a, rfl, g1⟩ := r
    cases e
    refine .inr ⟨a, _, rfl, Same.seq s g1, fun z hz => ?_⟩
    obtain ⟨n, r⟩ := lay_lst s hz (reps_cut (ints_reps ns) lo hi)
    exact k _ _ _ n r
/-- a bound of a slice -/
def TOD (K : PySem.W.Frag) (mg : Str → Option Value) (W : XK) (t : TO) (f : EM (Option Int)) : Prop :=
  ∀ Hf σ ρ H, SR K Hf σ ρ H → ∀ Q : Option Int → Hp → Prop, Wp K mg W (f ρ) (fun o ρ' => ∀ Hf' H', Stp Hf σ ρ H Hf' σ ρ' H' → SR K Hf' σ ρ' H' → Q o H') → t σ H Q
def toI : D → Option (Option Int)
  | .int i => some (some i)
  | _ => none
def partE (fe : EM D) : EM (Option Int) := bindM fe fun d => liftO (toI d)
theorem TOD.none : TOD K mg W tNoPart (retE Option.none) := fun Hf σ ρ H S Q h => h Hf H Stp.refl S
theorem TOD.some {te : TE} {fe : EM D} (he : TD K mg W te fe) : TOD K mg W (tPart te) (partE fe) := by
  intro Hf σ ρ H S Q h
  refine he Hf σ ρ H S _ ((Wp.bind h).mono fun d ρ1 h1 v Hf1 H1 s1 S1 r1 => ?_)
  match d, h1, r1 with
  | .int i, h1, r1 =>
    cases rep_int r1
    exact ⟨i, rfl, h1 Hf1 H1 s1 S1⟩
def slE (fe : EM D) (fl fh : EM (Option Int)) : EM D := bindM fe fun x => bindM fl fun lo => bindM fh fun hi => liftO (slD x lo hi)
theorem Wp.lift {α : Type} {o : Option α} {k : α → Ro → Prop} (h : Wp K mg W (liftO o ρ) k) : ∃ a, o = Option.some a ∧ k a ρ := by
  unfold liftO at h
  cases o with
  | none => exact h.elim
  | some a => exact ⟨a, rfl, h⟩
theorem TD.sl {te : TE} {tl th : TO} {fe : EM D} {fl fh : EM (Option Int)} (he : TD K mg W te fe) (hl : TOD K mg W tl fl) (hh : TOD K mg W th fh) : TD K mg W (tSl (rSlX K) te tl th) (slE fe fl fh) := by
  intro Hf σ ρ H S Q h
  refine he Hf σ ρ H S _ ((Wp.bind h).mono fun d ρ1 h1 v Hf1 H1 s1 S1 r1 => ?_)
  refine hl Hf1 σ ρ1 H1 S1 _ ((Wp.bind h1).mono fun lo ρ2 h2 Hf2 H2 s2 S2 => ?_)
  refine hh Hf2 σ ρ2 H2 S2 _ ((Wp.bind h2).mono fun hi ρ3 h3 Hf3 H3 s3 S3 => ?_)
  obtain ⟨dz, e, h4⟩ := Wp.lift h3
  exact sl_rep S3.sub (Rep.mono (Same.trans s2.fz s3.fz) r1) e fun z H4 Hf4 n rz => h4 z Hf4 H4 (((s1.trans s2).trans s3).trans n.stp) (n.sr S3) rz
/-- x[::-1] of a list -/
def revD : D → Option D
  | .lst ds => some (.lst ds.reverse)
  | _ => none
theorem reps_rev : ∀ {ds : List D} {vs : List V}, Reps K Hf ds vs → Reps K Hf ds.reverse vs.reverse
  | [], _, h => by unfold Reps at h; subst h; simp [Reps]
  | d :: ds, _, h => by
    unfold Reps at h
    obtain ⟨v, r, rfl, h1, h2⟩ := h
    rw [List.reverse_cons, List.reverse_cons]
    exact reps_snoc (reps_rev h2) h1
theorem TD.revL {te : TE} {fe : EM D} (he : TD K mg W te fe) : TD K mg W (tRevL K te) (un1 revD fe) := by
  intro Hf σ ρ H S Q h
  refine he Hf σ ρ H S _ ((Wp.bind h).mono fun d ρ1 h1 v Hf1 H1 s1 S1 r1 => ?_)
  obtain ⟨dz, e, h2⟩ := Wp.lift h1
  match d, e, r1 with
  | .lst ds, e, r1 =>
    obtain ⟨a, vs, rfl, g1, g2⟩ := rep_lst r1
    cases e
    refine ⟨a, vs, rfl, rdSeq S1.sub g1, fun p hp => ?_⟩
    obtain ⟨n, r⟩ := lay_lst S1.sub hp (reps_rev g2)
    exact h2 _ _ _ (s1.trans n.stp) (n.sr S1) r

/-! ### displays -/
def tupE (fa : EM (List D)) : EM D := bindM fa fun ds => if ds.length ≤ 1000000 then retE (.tup ds) else fun _ => .bad
theorem Wp.small {α β : Type} {ds : List D} {a : α} {k : α → Ro → Prop} (h : Wp K mg W ((if ds.length ≤ 1000000 then retE a else fun _ => .bad : EM α) ρ) k) : ds.length ≤ 1000000 ∧ k a ρ := by
  by_cases hl : ds.length ≤ 1000000
  · rw [if_pos hl] at h; exact ⟨hl, h⟩
  · rw [if_neg hl] at h; exact h.elim
theorem TD.tup {ta : TA} {fa : EM (List D)} (ha : TAD K mg W ta fa) : TD K mg W (tTupX ta) (tupE fa) := by
  intro Hf σ ρ H S Q h
  refine ha Hf σ ρ H S _ ((Wp.bind h).mono fun ds ρ1 h1 vs Hf1 H1 s1 S1 r1 => ?_)
  obtain ⟨hl, h2⟩ := Wp.small (β := Unit) h1
  refine ⟨by rw [← reps_len r1]; exact fits_line hl, fun p o hp ho => ?_⟩
  obtain ⟨n, r⟩ := lay_tup S1.sub hp ho r1
  exact h2 _ _ _ (s1.trans n.stp) (n.sr S1) r
def lstE (fa : EM (List D)) : EM D := bindM fa fun ds => if ds.length ≤ 1000000 then retE (.lst ds) else fun _ => .bad
theorem fresh_no {p : Addr} (S : SR K Hf σ ρ H) (hp : H p = none) : ¬ OA σ ρ p := fun q => (S.oa q).2 hp
theorem TF.lst {ta : TA} {fa : EM (List D)} (ha : TAD K mg W ta fa) : TF K mg W (tLst ta) (lstE fa) := by
  intro Hf σ ρ H S Q h
  refine ha Hf σ ρ H S _ ((Wp.bind h).mono fun ds ρ1 h1 vs Hf1 H1 s1 S1 r1 => ?_)
  obtain ⟨hl, h2⟩ := Wp.small (β := Unit) h1
  refine ⟨by rw [← reps_len r1]; exact fits_line hl, fun p hp => ?_⟩
  have n : New Hf1 H1 Hf1 (upd H1 p (.lst vs)) := New.fresh S1.sub hp
  refine h2 p Hf1 _ (s1.trans n.stp) (n.sr S1) ?_ (none_sub S1.sub hp) ⟨vs, upd_same, r1⟩ (fresh_no S1 hp)
  cases e : H p with
  | none => rfl
  | some o => exact absurd hp (s1.there p (by rw [e]; simp))
/-! ### calls with data -/
def callB (g : List D → Option D) (fa : EM (List D)) : EM D := bindM fa fun ds => liftO (g ds)
theorem TD.callB {r : List V → Hp → VK → Prop} {g : List D → Option D} {ta : TA} {fa : EM (List D)} (hr : RDC K r g) (ha : TAD K mg W ta fa) : TD K mg W (tCB r ta) (DL.callB g fa) := by
  intro Hf σ ρ H S Q h
  refine ha Hf σ ρ H S _ ((Wp.bind h).mono fun ds ρ1 h1 vs Hf1 H1 s1 S1 r1 => ?_)
  obtain ⟨dz, e, h2⟩ := Wp.lift h1
  exact hr Hf1 H1 vs ds dz S1.sub r1 e Q fun z H3 Hf3 n rz => h2 z Hf3 H3 (s1.trans n.stp) (n.sr S1) rz
theorem TF.callB {r : List V → Hp → VK → Prop} {g : List D → Option D} {ta : TA} {fa : EM (List D)} (hr : RDCF K r g) (ha : TAD K mg W ta fa) : TF K mg W (tCB r ta) (DL.callB g fa) := by
  intro Hf σ ρ H S Q h
  refine ha Hf σ ρ H S _ ((Wp.bind h).mono fun ds ρ1 h1 vs Hf1 H1 s1 S1 r1 => ?_)
  obtain ⟨dz, e, h2⟩ := Wp.lift h1
  refine hr Hf1 H1 vs ds dz S1.sub r1 e Q fun a H3 Hf3 n h3 h4 ro => h2 a Hf3 H3 (s1.trans n.stp) (n.sr S1) ?_ h4 ro (fresh_no S1 h3)
  cases e : H a with
  | none => rfl
  | some o => exact absurd h3 (s1.there a (by rw [e]; simp))
theorem reps1 {d : D} {vs : List V} (r : Reps K Hf [d] vs) : ∃ v, vs = [v] ∧ Rep K Hf d v := by
  unfold Reps at r
  obtain ⟨v, r', rfl, h1, h2⟩ := r
  unfold Reps at h2
  subst h2
  exact ⟨v, rfl, h1⟩
theorem reps2 {d e : D} {vs : List V} (r : Reps K Hf [d, e] vs) : ∃ v u, vs = [v, u] ∧ Rep K Hf d v ∧ Rep K Hf e u := by
  unfold Reps at r
  obtain ⟨v, r', rfl, h1, h2⟩ := r
  obtain ⟨u, rfl, h3⟩ := reps1 h2
  exact ⟨v, u, rfl, h1, h3⟩
/-- len -/
def lenD : D → Option Nat
  | .str z => if z.length ≤ 1000000 then some z.length else none
  | .tup ds => some ds.length
  | .lst ds => some ds.length
  | .dct kvs => some kvs.length
  | _ => none
def lenF : List D → Option D
  | [d] => (lenD d).map fun n => .int n
  | _ => none
def rLen (K : PySem.W.Frag) : List V → Hp → VK → Prop := fun xs H Q => ∃ x n, xs = [x] ∧ LenV K x H n ∧ Q (.int n) H
def rLenK : List V → Hp → VK → Prop := fun xs H Q => ∃ (a : Addr) (kvs : List (Key × V)), xs = [.ref a] ∧ Rd H a (.dK kvs) ∧ Q (.int (kvs.length : Nat)) H
theorem cr_lenK {X : Cx} : CallR X (.builtin "len") rLenK := by
  intro pins s σ H xs us Q I r ⟨a, kvs, e, hd, q⟩
  subst e
  rw [Vals.ref1 r]
  exact d_len I hd fun t s2 I2 => ⟨.int (kvs.length : Nat), H, I2, ⟨t, rfl⟩, q⟩
/-- len of anything: texts, tuples, lists, dicts -/
def rLen2 (K : PySem.W.Frag) : List V → Hp → VK → Prop := fun xs H Q => rLen K xs H Q ∨ rLenK xs H Q
theorem call_len2 {X : Cx} : CallR X (.builtin "len") (rLen2 X.K) := by
  intro pins s σ H xs us Q I rs q
  rcases q with q | q
  · exact call_len pins s σ H xs us Q I rs q
  · exact cr_lenK pins s σ H xs us Q I rs q
theorem rdc_len : RDC K (rLen2 K) lenF := by
  intro Hf H xs ds dz s r e Q k
  match ds, e, r with
  | [d], e, r =>
    obtain ⟨v, rfl, r1⟩ := reps1 r
    match d, e, r1 with
    | .str z, e, r1 =>
      cases rep_str r1
      simp only [lenF, lenD] at e
      split at e
      · rename_i hl
        cases e
        exact .inl ⟨.str z, z.length, rfl, ⟨fits_line hl, rfl⟩, k _ H Hf (New.refl s) (by unfold Rep; rfl)⟩
      · cases e
    | .tup es, e, r1 =>
      obtain ⟨a, vs, rfl, g1, g2⟩ := rep_tup r1
      cases e
      refine .inl ⟨.ref a, es.length, rfl, .inr ⟨vs, Same.sqT s g1, reps_len g2⟩, k _ H Hf (New.refl s) (by unfold Rep; rfl)⟩
    | .lst es, e, r1 =>
      obtain ⟨a, vs, rfl, g1, g2⟩ := rep_lst r1
      cases e
      refine .inl ⟨.ref a, es.length, rfl, .inl ⟨vs, rdSeq s g1, reps_len g2⟩, k _ H Hf (New.refl s) (by unfold Rep; rfl)⟩
    | .dct kvs, e, r1 =>
      obtain ⟨a, o, vs, rfl, g1, g2⟩ := rep_dct r1
      cases e
      exact .inr ⟨a, vs, rfl, .inr ⟨o, s _ _ g1⟩, by rw [← repk_len g2]; exact k _ H Hf (New.refl s) (by unfold Rep; rfl)⟩
/-- all, any of a list of truth values -/
def blsD : List D → Option (List Bool)
  | [] => some []
  | d :: ds => match toB d, blsD ds with
    | some b, some bs => some (b :: bs)
    | _, _ => none
theorem bls_rep : ∀ {ds : List D} {bs : List Bool} {vs : List V}, blsD ds = some bs → Reps K Hf ds vs → vs = bs.map V.bl
  | [], _, _, e, r => by unfold blsD at e; unfold Reps at r; cases e; subst r; rfl
  | d :: ds, _, _, e, r => by
    unfold blsD at e; unfold Reps at r
    obtain ⟨v, r', rfl, h1, h2⟩ := r
    cases e1 : toB d with
    | none => rw [e1] at e; cases e
    | some b =>
      cases e2 : blsD ds with
      | none => rw [e1, e2] at e; cases e
      | some bs =>
        rw [e1, e2] at e; cases e
        rw [List.map_cons, rep_bl e1 h1, bls_rep e2 h2]
def allF : List D → Option D
  | [.lst ds] => (blsD ds).map fun bs => .bl (bs.all id)
  | _ => none
def anyF : List D → Option D
  | [.lst ds] => (blsD ds).map fun bs => .bl (bs.any id)
  | _ => none
theorem rdc_all : RDC K (rAll K) allF := by
  intro Hf H xs ds dz s r e Q k
  match ds, e, r with
  | [.lst es], e, r =>
    obtain ⟨v, rfl, r1⟩ := reps1 r
    obtain ⟨a, vs, rfl, g1, g2⟩ := rep_lst r1
    simp only [allF] at e
    cases e1 : blsD es with
    | none => rw [e1] at e; cases e
    | some bs =>
      rw [e1] at e; cases e
      refine ⟨a, bs, rfl, ?_, k _ H Hf (New.refl s) (by unfold Rep; rfl)⟩
      rw [← bls_rep e1 g2]
      exact rdSeq s g1
theorem rdc_any : RDC K (rAny K) anyF := by
  intro Hf H xs ds dz s r e Q k
  match ds, e, r with
  | [.lst es], e, r =>
    obtain ⟨v, rfl, r1⟩ := reps1 r
    obtain ⟨a, vs, rfl, g1, g2⟩ := rep_lst r1
    simp only [anyF] at e
    cases e1 : blsD es with
    | none => rw [e1] at e; cases e
    | some bs =>
      rw [e1] at e; cases e
      refine ⟨a, bs, rfl, ?_, k _ H Hf (New.refl s) (by unfold Rep; rfl)⟩
      rw [← bls_rep e1 g2]
      exact rdSeq s g1
/-- tuple(x), list(x) of a tuple or a list -/
def tupF : List D → Option D
  | [.tup ds] => some (.tup ds)
  | [.lst ds] => some (.tup ds)
  | _ => none
def lstF : List D → Option D
  | [.tup ds] => some (.lst ds)
  | [.lst ds] => some (.lst ds)
  | _ => none
def rLstOf (K : PySem.W.Frag) : List V → Hp → VK → Prop := fun xs H Q => ∃ p ys, xs = [.ref p] ∧ (SqL K H p ys ∨ SqT K H p ys) ∧ ∀ l, H l = none → Q (.ref l) (upd H l (.lst ys))
theorem rdc_tup : RDC K (rTupX K) tupF := by
  intro Hf H xs ds dz s r e Q k
  match ds, e, r with
  | [.tup es], e, r =>
    obtain ⟨v, rfl, r1⟩ := reps1 r
    obtain ⟨a, vs, rfl, g1, g2⟩ := rep_tup r1
    cases e
    exact ⟨a, vs, rfl, .inr ⟨Same.sqT s g1, k _ H Hf (New.refl s) r1⟩⟩
  | [.lst es], e, r =>
    obtain ⟨v, rfl, r1⟩ := reps1 r
    obtain ⟨a, vs, rfl, g1, g2⟩ := rep_lst r1
    cases e
    refine ⟨a, vs, rfl, .inl ⟨rdSeq s g1, fun p o hp ho => ?_⟩⟩
    obtain ⟨n, r⟩ := lay_tup s hp ho g2
    exact k _ _ _ n r
theorem rdc_lst : RDCF K (rLstOf K) lstF := by
  intro Hf H xs ds dz s r e Q k
  match ds, e, r with
  | [.tup es], e, r =>
    obtain ⟨v, rfl, r1⟩ := reps1 r
    obtain ⟨a, vs, rfl, g1, g2⟩ := rep_tup r1
    cases e
    exact ⟨a, vs, rfl, .inr (Same.sqT s g1), fun p hp => k p _ _ (New.fresh s hp) hp (none_sub s hp) ⟨vs, upd_same, g2⟩⟩
  | [.lst es], e, r =>
    obtain ⟨v, rfl, r1⟩ := reps1 r
    obtain ⟨a, vs, rfl, g1, g2⟩ := rep_lst r1
    cases e
    exact ⟨a, vs, rfl, .inl (rdSeq s g1), fun p hp => k p _ _ (New.fresh s hp) hp (none_sub s hp) ⟨vs, upd_same, g2⟩⟩
/-- int(x), bool(x) of an int or a truth value; str(n) -/
def intF : List D → Option D
  | [.int i] => some (.int i)
  | [.bl k] => some (.int (if k then 1 else 0))
  | _ => none
def boolF : List D → Option D
  | [.int i] => some (.bl (i != 0))
  | [.bl k] => some (.bl k)
  | _ => none
def rInt1 : List V → Hp → VK → Prop := fun xs H Q => (∃ i, xs = [.int i] ∧ Q (.int i) H) ∨ ∃ k, xs = [.bl k] ∧ Q (.int (if k then 1 else 0)) H
def rBool1 : List V → Hp → VK → Prop := fun xs H Q => (∃ i, xs = [.int i] ∧ Q (.bl (i != 0)) H) ∨ ∃ k, xs = [.bl k] ∧ Q (.bl k) H
theorem rdc_int : RDC K rInt1 intF := by
  intro Hf H xs ds dz s r e Q k
  match ds, e, r with
  | [.int i], e, r =>
    obtain ⟨v, rfl, r1⟩ := reps1 r
    cases rep_int r1; cases e
    exact .inl ⟨i, rfl, k _ H Hf (New.refl s) (by unfold Rep; rfl)⟩
  | [.bl b], e, r =>
    obtain ⟨v, rfl, r1⟩ := reps1 r
    unfold Rep at r1; subst r1; cases e
    exact .inr ⟨b, rfl, k _ H Hf (New.refl s) (by unfold Rep; rfl)⟩
theorem rdc_bool : RDC K rBool1 boolF := by
  intro Hf H xs ds dz s r e Q k
  match ds, e, r with
  | [.int i], e, r =>
    obtain ⟨v, rfl, r1⟩ := reps1 r
    cases rep_int r1; cases e
    exact .inl ⟨i, rfl, k _ H Hf (New.refl s) (by unfold Rep; rfl)⟩
  | [.bl b], e, r =>
    obtain ⟨v, rfl, r1⟩ := reps1 r
    unfold Rep at r1; subst r1; cases e
    exact .inr ⟨b, rfl, k _ H Hf (New.refl s) (by unfold Rep; rfl)⟩
/-! ### isinstance -/
/-- the built-in type's name of data -/
def tyN : D → Option String
  | .non => some "NoneType"
  | .bl _ => some "bool"
  | .int _ => some "int"
  | .str _ => some "str"
  | .tup _ => some "tuple"
  | .lst _ => some "list"
  | .dct _ => some "dict"
  | _ => none
theorem tyX_of {d : D} {n : String} {v : V} (s : Same Hf H) (h : tyN d = some n) (r : Rep K Hf d v) : TyX K H v (.type n) := by
  cases d <;> simp [tyN] at h <;> subst h
  · unfold Rep at r; subst r; exact TyX.base TyOf.non
  · unfold Rep at r; subst r; exact TyX.base (TyOf.bl _)
  · unfold Rep at r; subst r; exact TyX.base (TyOf.int _)
  · unfold Rep at r; subst r; exact TyX.base (TyOf.str _)
  · obtain ⟨a, vs, rfl, g1, g2⟩ := rep_tup r
    rcases g1 with (g | ⟨o, g⟩) | ⟨o, its, n, g, c, _⟩
    · exact TyX.base (TyOf.tup (s _ _ g))
    · exact TyX.fTuple (s _ _ g)
    · exact TyX.kTuple g c
  · obtain ⟨a, vs, rfl, g | ⟨o, g⟩, g2⟩ := rep_lst r
    · exact TyX.base (TyOf.lst (s _ _ g))
    · exact TyX.base (TyOf.frz (s _ _ g))
  · unfold Rep at r
    obtain ⟨a, o, vs, rfl, g, g2⟩ := r
    exact TyX.fDict (s _ _ g)
/-- which built-in type is one of the named -/
def isT (t n : String) : Bool := t == n || (t == "bool" && n == "int")
def okT (t n : String) : Bool := ["NoneType", "bool", "int", "str", "tuple", "list", "dict"].contains t && ["bool", "int", "str", "tuple", "list"].contains n
theorem kit_isT {t n : String} (h : okT t n = true) : kitB t n = some (isT t n) := by
  unfold okT at h
  rw [Bool.and_eq_true] at h
  obtain ⟨h1, h2⟩ := h
  have h1 : t ∈ ["NoneType", "bool", "int", "str", "tuple", "list", "dict"] := List.contains_iff_mem.mp h1
  have h2 : n ∈ ["bool", "int", "str", "tuple", "list"] := List.contains_iff_mem.mp h2
  simp only [List.mem_cons, List.not_mem_nil, or_false] at h1 h2
  rcases h1 with rfl | rfl | rfl | rfl | rfl | rfl | rfl <;> rcases h2 with rfl | rfl | rfl | rfl | rfl <;> decide +kernel
def isiF : List D → Option D
  | [d, .ty n] => match tyN d with
    | some t => if okT t n then some (.bl (isT t n)) else none
    | none => none
  | _ => none
theorem rdc_isi : RDC K (rIsi K) isiF := by
  intro Hf H xs ds dz s r e Q k
  match ds, e, r with
  | [d, .ty n], e, r =>
    obtain ⟨v, u, rfl, r1, r2⟩ := reps2 r
    unfold Rep at r2; subst r2
    simp only [isiF] at e
    cases e1 : tyN d with
    | none => rw [e1] at e; cases e
    | some t =>
      rw [e1] at e
      simp only at e
      split at e
      · rename_i hh
        cases e
        exact ⟨v, .ty n, .type t, .type n, isT t n, rfl, ClsV.ty n, tyX_of s e1 r1, kit_ty (kit_isT hh), k _ H Hf (New.refl s) (by unfold Rep; rfl)⟩
      · cases e
/-- .. a tuple of types, just laid -/
def tTys : List String → TA
  | [] => tNil
  | n :: ns => tCons (tC (.ty n)) (tTys ns)
theorem tTys_run {ns : List String} {σ : L2.St} {H : Hp} {Q : List V → Hp → Prop} (h : Q (ns.map V.ty) H) : tTys ns σ H Q := by
  induction ns generalizing Q with
  | nil => exact h
  | cons n ns ih => exact ih (Q := fun xs H2 => Q (V.ty n :: xs) H2) h
def isiTE (ns : List String) (fe : EM D) : EM D := bindM fe fun d => liftO (match tyN d with
  | some t => if ns.all (okT t) && decide (ns.length ≤ 1000) then some (.bl (ns.any (isT t))) else none
  | none => none)
theorem kit_any {t : String} : ∀ {ns : List String}, ns.all (okT t) = true → PySem.W.kitAny K (.type t) (ns.map fun n => Value.type n) = some (ns.any (isT t))
  | [], _ => kitAny_nil
  | n :: ns, h => by
    rw [List.all_cons, Bool.and_eq_true] at h
    rw [List.map_cons, List.any_cons]
    exact kitAny_cons (kit_ty (kit_isT h.1)) (fun e => by rw [e, Bool.false_or]; exact kit_any h.2) (fun e => by rw [e]; rfl)
theorem clsv_all : ∀ ns : List String, Paired ClsV (ns.map V.ty) (ns.map fun n => Value.type n)
  | [] => .nil
  | n :: ns => .cons (ClsV.ty n) (clsv_all ns)
theorem TD.isiT {te : TE} {fe : EM D} (ns : List String) (he : TD K mg W te fe) : TD K mg W (tCB (rIsiT K) (tCons te (tCons (tTup (tTys ns)) tNil))) (isiTE ns fe) := by
  intro Hf σ ρ H S Q h
  refine he Hf σ ρ H S _ ((Wp.bind h).mono fun d ρ1 h1 v Hf1 H1 s1 S1 r1 => ?_)
  obtain ⟨dz, e, h2⟩ := Wp.lift h1
  cases e1 : tyN d with
  | none => rw [e1] at e; cases e
  | some t =>
    rw [e1] at e
    simp only at e
    split at e
    · rename_i hh
      rw [Bool.and_eq_true] at hh
      cases e
      refine tTys_run ⟨fits_line (by rw [List.length_map]; have : ns.length ≤ 1000 := of_decide_eq_true hh.2; omega), fun p hp => ?_⟩
      have n := New.fresh (o := .tup (ns.map V.ty)) S1.sub hp
      exact ⟨v, p, ns.map V.ty, .type t, ns.map fun n => Value.type n, ns.any (isT t), rfl, upd_same, clsv_all ns, tyX_of n.sub e1 r1, kit_any hh.1, h2 _ _ _ (s1.trans n.stp) (n.sr S1) (by unfold Rep; rfl)⟩
    · cases e

/-! ### what is walked -/
theorem itd_list {a : Addr} {vs : List V} {ds : List D} (h : Rd Hf a (.lst vs)) (r : Reps K Hf ds vs) : Itd K (Itl K a) Hf ds where
  go := fun i d Hf1 H1 s1 s2 e => by
    obtain ⟨v, g1, g2⟩ := reps_get r e
    refine ⟨⟨vs, v, rdSeq s2 (Same.rd s1 h), g1⟩, fun x H2 ⟨e2, hx⟩ => ?_⟩
    subst e2
    have := hx vs (rdSeq s2 (Same.rd s1 h))
    rw [g1] at this; cases this
    exact ⟨Hf1, New.refl s2, Rep.mono s1 g2⟩
  stop := fun Hf1 H1 s1 s2 => ⟨vs, rdSeq s2 (Same.rd s1 h), by rw [reps_len r]; exact Nat.le_refl _⟩
theorem itd_tup {a : Addr} {vs : List V} {ds : List D} (h : SqT K Hf a vs) (r : Reps K Hf ds vs) : Itd K (Itt K a) Hf ds where
  go := fun i d Hf1 H1 s1 s2 e => by
    obtain ⟨v, g1, g2⟩ := reps_get r e
    have q := Same.sqT s2 (Same.sqT s1 h)
    refine ⟨⟨vs, v, q, g1⟩, fun x H2 ⟨e2, hx⟩ => ?_⟩
    subst e2
    have := hx vs q
    rw [g1] at this; cases this
    exact ⟨Hf1, New.refl s2, Rep.mono s1 g2⟩
  stop := fun Hf1 H1 s1 s2 => ⟨vs, Same.sqT s2 (Same.sqT s1 h), by rw [reps_len r]; exact Nat.le_refl _⟩
def rngD (lo : Int) (n : Nat) : List D := (List.range n).map fun i => .int (lo + (i : Nat))
theorem itd_rng {lo : Int} {n : Nat} : Itd K (Itr lo n) Hf (rngD lo n) where
  go := fun i d Hf1 H1 s1 s2 e => by
    unfold rngD at e
    rw [List.getElem?_map] at e
    have hi : i < n := by
      by_cases hi : i < n
      · exact hi
      · rw [List.getElem?_eq_none (by simpa using hi)] at e; cases e
    rw [List.getElem?_range hi] at e
    cases e
    refine ⟨hi, fun x H2 ⟨e2, hx⟩ => ?_⟩
    subst e2; subst hx
    exact ⟨Hf1, New.refl s2, by unfold Rep; rfl⟩
  stop := fun Hf1 H1 s1 s2 => by
    show n ≤ _
    unfold rngD
    simp
def lstI (fe : EM D) : EM (List D) := bindM fe fun d => liftO (match d with | .lst ds => some ds | _ => none)
def tupI (fe : EM D) : EM (List D) := bindM fe fun d => liftO (match d with | .tup ds => some ds | _ => none)
theorem TID.lst {te : TE} {fe : EM D} (he : TD K mg W te fe) : TID K mg W (iList K te) (lstI fe) := by
  intro Hf σ ρ H S R h
  refine he Hf σ ρ H S _ ((Wp.bind h).mono fun d ρ1 h1 v Hf1 H1 s1 S1 r1 => ?_)
  obtain ⟨ds, e, h2⟩ := Wp.lift h1
  match d, e, r1 with
  | .lst es, e, r1 =>
    cases e
    obtain ⟨a, vs, rfl, g1, g2⟩ := rep_lst r1
    exact ⟨a, rfl, ⟨vs, rdSeq S1.sub g1⟩, h2 _ Hf1 H1 s1 S1 (itd_list g1 g2)⟩
theorem TID.tup {te : TE} {fe : EM D} (he : TD K mg W te fe) : TID K mg W (iTup K te) (tupI fe) := by
  intro Hf σ ρ H S R h
  refine he Hf σ ρ H S _ ((Wp.bind h).mono fun d ρ1 h1 v Hf1 H1 s1 S1 r1 => ?_)
  obtain ⟨ds, e, h2⟩ := Wp.lift h1
  match d, e, r1 with
  | .tup es, e, r1 =>
    cases e
    obtain ⟨a, vs, rfl, g1, g2⟩ := rep_tup r1
    exact ⟨a, rfl, ⟨vs, Same.sqT S1.sub g1⟩, h2 _ Hf1 H1 s1 S1 (itd_tup g1 g2)⟩
def smallI (i : Int) : Bool := decide (-1000000 ≤ i) && decide (i ≤ 1000000)
theorem smallI_ok {i : Int} (h : smallI i = true) : -(2 ^ 62) ≤ i ∧ i < 2 ^ 62 := by
  unfold smallI at h
  rw [Bool.and_eq_true] at h
  have h1 : -1000000 ≤ i := of_decide_eq_true h.1
  have h2 : i ≤ 1000000 := of_decide_eq_true h.2
  constructor <;> omega
def rng1I (fa : EM (List D)) : EM (List D) := bindM fa fun ds => liftO (match ds with | [.int j] => if smallI j then some (rngD 0 j.toNat) else none | _ => none)
def rng2I (fa : EM (List D)) : EM (List D) := bindM fa fun ds => liftO (match ds with | [.int i, .int j] => if smallI i && smallI j then some (rngD i (j - i).toNat) else none | _ => none)
theorem TID.rng1 {ta : TA} {fa : EM (List D)} (ha : TAD K mg W ta fa) : TID K mg W (iRng1 ta) (rng1I fa) := by
  intro Hf σ ρ H S R h
  refine ha Hf σ ρ H S _ ((Wp.bind h).mono fun ds ρ1 h1 vs Hf1 H1 s1 S1 r1 => ?_)
  obtain ⟨es, e, h2⟩ := Wp.lift h1
  match ds, e, r1 with
  | [.int j], e, r1 =>
    obtain ⟨v, rfl, r2⟩ := reps1 r1
    cases rep_int r2
    simp only at e
    split at e
    · rename_i hh
      cases e
      obtain ⟨k1, k2⟩ := smallI_ok hh
      exact ⟨j, rfl, k1, k2, h2 _ Hf1 H1 s1 S1 itd_rng⟩
    · cases e
theorem TID.rng2 {ta : TA} {fa : EM (List D)} (ha : TAD K mg W ta fa) : TID K mg W (iRng2 ta) (rng2I fa) := by
  intro Hf σ ρ H S R h
  refine ha Hf σ ρ H S _ ((Wp.bind h).mono fun ds ρ1 h1 vs Hf1 H1 s1 S1 r1 => ?_)
  obtain ⟨es, e, h2⟩ := Wp.lift h1
  match ds, e, r1 with
  | [.int i, .int j], e, r1 =>
    obtain ⟨v, u, rfl, r2, r3⟩ := reps2 r1
    cases rep_int r2; cases rep_int r3
    simp only at e
    split at e
    · rename_i hh
      rw [Bool.and_eq_true] at hh
      cases e
      obtain ⟨k1, k2⟩ := smallI_ok hh.1
      obtain ⟨k3, k4⟩ := smallI_ok hh.2
      exact ⟨i, j, rfl, ⟨k1, k2, k3, k4⟩, h2 _ Hf1 H1 s1 S1 itd_rng⟩
    · cases e
/-- pairs that are made on the way -/
def enumD (ds : List D) : List D := ds.zipIdx.map fun p => .prt [.int (p.2 : Nat), p.1]
def zipD (ds es : List D) : List D := (ds.zip es).map fun p => .prt [p.1, p.2]
theorem pair_rep {d e : D} {v u : V} {T : Addr} (s : Same Hf H) (hT : H T = none) (r1 : Rep K Hf d v) (r2 : Rep K Hf e u) : New Hf H (upd Hf T (.tup [v, u])) (upd H T (.tup [v, u])) ∧ Rep K (upd Hf T (.tup [v, u])) (.prt [d, e]) (.ref T) :=
  lay_prt s hT (reps_cons r1 (reps_cons r2 (by unfold Reps; rfl)))
theorem itd_enumL {a : Addr} {vs : List V} {ds : List D} (h : Rd Hf a (.lst vs)) (r : Reps K Hf ds vs) : Itd K (Ite K a) Hf (enumD ds) where
  go := fun i d Hf1 H1 s1 s2 e => by
    unfold enumD at e
    rw [List.getElem?_map, List.getElem?_zipIdx] at e
    cases e1 : ds[i]? with
    | none => rw [e1] at e; cases e
    | some d0 =>
      rw [e1] at e
      simp only [Option.map_some, Nat.zero_add] at e
      cases e
      obtain ⟨v, g1, g2⟩ := reps_get r e1
      have q : SqL K H1 a vs := rdSeq s2 (Same.rd s1 h)
      refine ⟨⟨vs, v, q, g1⟩, fun x H2 ⟨T, x', e2, hT, e3, hx⟩ => ?_⟩
      subst e2; subst e3
      have := hx vs q
      rw [g1] at this; cases this
      obtain ⟨n, r3⟩ := pair_rep (K := K) s2 hT (show Rep K Hf1 (.int (i : Nat)) (.int (i : Nat)) by unfold Rep; rfl) (Rep.mono s1 g2)
      exact ⟨_, n, r3⟩
  stop := fun Hf1 H1 s1 s2 => ⟨vs, rdSeq s2 (Same.rd s1 h), by unfold enumD; simp [reps_len r]⟩
theorem zip_get {ds es : List D} {i : Nat} {d : D} (h : (zipD ds es)[i]? = some d) : ∃ x y, ds[i]? = some x ∧ es[i]? = some y ∧ d = .prt [x, y] := by
  unfold zipD at h
  rw [List.getElem?_map] at h
  cases e : (ds.zip es)[i]? with
  | none => rw [e] at h; cases h
  | some p =>
    rw [e] at h; cases h
    rw [List.getElem?_zip_eq_some] at e
    exact ⟨p.1, p.2, e.1, e.2, rfl⟩
theorem itd_zipL {a b : Addr} {vs us : List V} {ds es : List D} (h : Rd Hf a (.lst vs)) (r : Reps K Hf ds vs) (h' : Rd Hf b (.lst us)) (r' : Reps K Hf es us) : Itd K (Itz K a b) Hf (zipD ds es) where
  go := fun i d Hf1 H1 s1 s2 e => by
    obtain ⟨x, y, e1, e2, rfl⟩ := zip_get e
    obtain ⟨v, g1, g2⟩ := reps_get r e1
    obtain ⟨u, g3, g4⟩ := reps_get r' e2
    have q : SqL K H1 a vs := rdSeq s2 (Same.rd s1 h)
    have q' : SqL K H1 b us := rdSeq s2 (Same.rd s1 h')
    refine ⟨⟨vs, us, v, u, q, q', g1, g3⟩, fun z H2 ⟨T, x', y', e2, hT, e3, hx, hy⟩ => ?_⟩
    subst e2; subst e3
    have := hx vs q
    rw [g1] at this; cases this
    have := hy us q'
    rw [g3] at this; cases this
    obtain ⟨n, r3⟩ := pair_rep (K := K) s2 hT (Rep.mono s1 g2) (Rep.mono s1 g4)
    exact ⟨_, n, r3⟩
  stop := fun Hf1 H1 s1 s2 => ⟨vs, us, rdSeq s2 (Same.rd s1 h), rdSeq s2 (Same.rd s1 h'), by
    unfold zipD
    rw [List.length_map, List.length_zip, reps_len r, reps_len r']
    omega⟩
theorem itd_zipT {a b : Addr} {vs us : List V} {ds es : List D} (h : SqT K Hf a vs) (r : Reps K Hf ds vs) (h' : SqT K Hf b us) (r' : Reps K Hf es us) : Itd K (RZ.ItzT K a b) Hf (zipD ds es) where
  go := fun i d Hf1 H1 s1 s2 e => by
    obtain ⟨x, y, e1, e2, rfl⟩ := zip_get e
    obtain ⟨v, g1, g2⟩ := reps_get r e1
    obtain ⟨u, g3, g4⟩ := reps_get r' e2
    have q := Same.sqT s2 (Same.sqT s1 h)
    have q' := Same.sqT s2 (Same.sqT s1 h')
    refine ⟨⟨vs, us, v, u, q, q', g1, g3⟩, fun z H2 ⟨T, x', y', e2, hT, e3, hx, hy⟩ => ?_⟩
    subst e2; subst e3
    have := hx vs q
    rw [g1] at this; cases this
    have := hy us q'
    rw [g3] at this; cases this
    obtain ⟨n, r3⟩ := pair_rep (K := K) s2 hT (Rep.mono s1 g2) (Rep.mono s1 g4)
    exact ⟨_, n, r3⟩
  stop := fun Hf1 H1 s1 s2 => ⟨vs, us, Same.sqT s2 (Same.sqT s1 h), Same.sqT s2 (Same.sqT s1 h'), by
    unfold zipD
    rw [List.length_map, List.length_zip, reps_len r, reps_len r']
    omega⟩
def enumI (fa : EM (List D)) : EM (List D) := bindM fa fun ds => liftO (match ds with | [.lst es] => some (enumD es) | _ => none)
def zipI (fa : EM (List D)) : EM (List D) := bindM fa fun ds => liftO (match ds with | [.lst xs, .lst ys] => some (zipD xs ys) | [.tup xs, .tup ys] => some (zipD xs ys) | _ => none)
theorem TID.enum {ta : TA} {fa : EM (List D)} (ha : TAD K mg W ta fa) : TID K mg W (iEnum K ta) (enumI fa) := by
  intro Hf σ ρ H S R h
  refine ha Hf σ ρ H S _ ((Wp.bind h).mono fun ds ρ1 h1 vs Hf1 H1 s1 S1 r1 => ?_)
  obtain ⟨es, e, h2⟩ := Wp.lift h1
  match ds, e, r1 with
  | [.lst xs], e, r1 =>
    obtain ⟨v, rfl, r2⟩ := reps1 r1
    obtain ⟨a, us, rfl, g1, g2⟩ := rep_lst r2
    cases e
    exact ⟨a, us, rfl, rdSeq S1.sub g1, h2 _ Hf1 H1 s1 S1 (itd_enumL g1 g2)⟩
theorem TID.zip {ta : TA} {fa : EM (List D)} (ha : TAD K mg W ta fa) : TID K mg W (RZ.iZipA K ta) (zipI fa) := by
  intro Hf σ ρ H S R h
  refine ha Hf σ ρ H S _ ((Wp.bind h).mono fun ds ρ1 h1 vs Hf1 H1 s1 S1 r1 => ?_)
  obtain ⟨es, e, h2⟩ := Wp.lift h1
  match ds, e, r1 with
  | [.lst xs, .lst ys], e, r1 =>
    obtain ⟨v, u, rfl, r2, r3⟩ := reps2 r1
    obtain ⟨a, us, rfl, g1, g2⟩ := rep_lst r2
    obtain ⟨b, ws, rfl, g3, g4⟩ := rep_lst r3
    cases e
    exact ⟨a, b, us, ws, rfl, .inl ⟨rdSeq S1.sub g1, rdSeq S1.sub g3, h2 _ Hf1 H1 s1 S1 (itd_zipL g1 g2 g3 g4)⟩⟩
  | [.tup xs, .tup ys], e, r1 =>
    obtain ⟨v, u, rfl, r2, r3⟩ := reps2 r1
    obtain ⟨a, us, rfl, g1, g2⟩ := rep_tup r2
    obtain ⟨b, ws, rfl, g3, g4⟩ := rep_tup r3
    cases e
    exact ⟨a, b, us, ws, rfl, .inr ⟨Same.sqT S1.sub g1, Same.sqT S1.sub g3, h2 _ Hf1 H1 s1 S1 (itd_zipT g1 g2 g3 g4)⟩⟩
end
end DL

/-! The D layer, 9: owned lists; sorted. -/
namespace DL
open PySem L2

section
variable {K : PySem.W.Frag} {mg : Str → Option Value} {W : XK} {Hf H Hf' H' Hf1 H1 : Hp} {σ : L2.St} {ρ : Ro}
/-- the list that slot i owns -/
def ownL (i : Nat) : EM (List D) := fun ρ => match ρ[i]? with
  | some (.o (.lst ds)) => .ok ds ρ
  | some (.p (.lst ds)) => .ok ds ρ
  | _ => .bad
def putO (i : Nat) (d : D) (ρ : Ro) : Ro := match ρ[i]? with
  | some (.o _) => ρ.set i (.o d)
  | some (.p _) => ρ.set i (.p d)
  | _ => ρ
theorem ownL_inv {i : Nat} {α : Type} {f : List D → EM α} {k : α → Ro → Prop} (S : SR K Hf σ ρ H) (h : Wp K mg W (bindM (ownL i) f ρ) k) :
    ∃ a ds vs, σ[i]? = some (some (V.ref a)) ∧ (ρ[i]? = some (Sl.o (.lst ds)) ∨ ρ[i]? = some (Sl.p (.lst ds))) ∧ Hf a = none ∧ H a = some (.lst vs) ∧ Reps K Hf ds vs ∧ Wp K mg W (f ds ρ) k := by
  have h := Wp.bind h
  unfold ownL at h
  cases e : ρ[i]? with
  | none => rw [e] at h; exact h.elim
  | some x =>
    rw [e] at h
    match x, e, h with
    | .o (.lst ds), e, h =>
      obtain ⟨a, h1, h2, vs, h3, h4⟩ := S.own i _ (.inl e)
      exact ⟨a, ds, vs, h1, .inl rfl, h2, h3, h4, h⟩
    | .p (.lst ds), e, h =>
      obtain ⟨a, h1, h2, vs, h3, h4⟩ := S.own i _ (.inr e)
      exact ⟨a, ds, vs, h1, .inr rfl, h2, h3, h4, h⟩
/-- an owned thing changes -/
theorem own_upd {i : Nat} {a : Addr} {d d' : D} {o : HO} (S : SR K Hf σ ρ H) (h1 : σ[i]? = some (some (V.ref a))) (h2 : ρ[i]? = some (Sl.o d) ∨ ρ[i]? = some (Sl.p d)) (hr : RepO K Hf (upd H a o) d' a) :
    Stp Hf σ ρ H Hf σ (putO i d' ρ) (upd H a o) ∧ SR K Hf σ (putO i d' ρ) (upd H a o) := by
  have hl : i < ρ.length := by rcases h2 with h | h <;> exact (List.getElem?_eq_some_iff.mp h).1
  obtain ⟨a0, g1, g2, g3⟩ := S.own i d h2
  rw [h1] at g1; cases g1
  have hoa : OA σ ρ a := ⟨i, h1, d, h2⟩
  have at_ : ∀ j : Nat, j ≠ i → (putO i d' ρ)[j]? = ρ[j]? := fun j hj => by
    unfold putO
    rcases h2 with h | h <;> rw [h] <;> simp only <;> rw [List.getElem?_set_ne (Ne.symm hj)]
  have ai : (putO i d' ρ)[i]? = (match ρ[i]? with | some (.o _) => some (Sl.o d') | some (.p _) => some (Sl.p d') | x => x) := by
    unfold putO
    rcases h2 with h | h <;> rw [h] <;> simp only <;> rw [List.getElem?_set_self hl]
  have len : (putO i d' ρ).length = ρ.length := by
    unfold putO
    rcases h2 with h | h <;> rw [h] <;> simp
  have kind : ∀ (j : Nat), ((∃ e, (putO i d' ρ)[j]? = some (Sl.o e)) ↔ ∃ e, ρ[j]? = some (Sl.o e)) ∧ ((∃ e, (putO i d' ρ)[j]? = some (Sl.p e)) ↔ ∃ e, ρ[j]? = some (Sl.p e)) := fun j => by
    by_cases hj : j = i
    · subst hj
      rw [ai]
      rcases h2 with h | h <;> rw [h] <;> simp
    · rw [at_ j hj]; exact ⟨Iff.rfl, Iff.rfl⟩
  refine ⟨⟨fun _ _ h => h, fun b u hb n => ?_, fun b hb => ?_, fun _ _ h _ => h, fun j e hj => ⟨(kind j).2.mpr ⟨e, hj⟩, rfl⟩, fun j e hj => (kind j).2.mp ⟨e, hj⟩, fun b ⟨j, e, k1, k2⟩ => ?_, len⟩, ⟨fun b u hb => ?_, by rw [len]; exact S.len, fun j e hj => ?_, fun j e hj => ?_, fun j l b ⟨k1, e1, k2⟩ ⟨k3, e2, k4⟩ => ?_⟩⟩
  · rw [upd_ne (fun e => n (by rw [e]; exact hoa))]; exact hb
  · by_cases e : b = a
    · rw [e, upd_same]; simp
    · rw [upd_ne e]; exact hb
  · obtain ⟨e', k3⟩ := (kind j).1.mp ⟨e, k2⟩
    exact .inr ⟨j, e', k1, k3⟩
  · rw [upd_ne (fun e => by rw [e, g2] at hb; cases hb)]; exact S.sub b u hb
  · have hj' : ρ[j]? = some (Sl.v e) := by
      by_cases hji : j = i
      · subst hji
        rw [ai] at hj
        rcases h2 with h | h <;> rw [h] at hj <;> simp at hj
      · rw [at_ j hji] at hj; exact hj
    exact S.val j e hj'
  · by_cases hji : j = i
    · subst hji
      have : e = d' := by
        rw [ai] at hj
        rcases h2 with h | h <;> rw [h] at hj <;> simp at hj <;> exact hj.symm
      subst this
      exact ⟨a, h1, g2, hr⟩
    · rw [at_ j hji] at hj
      obtain ⟨b, k1, k2, k3⟩ := S.own j e hj
      have nb : b ≠ a := fun eb => hji (S.inj j i a ⟨by rw [← eb]; exact k1, e, hj⟩ ⟨h1, d, h2⟩)
      exact ⟨b, k1, k2, RepO.mono (fun _ _ h => h) (upd_ne nb) k3⟩
  · have o1 : ∃ e, ρ[j]? = some (Sl.o e) ∨ ρ[j]? = some (Sl.p e) := by
      rcases k2 with h | h
      · obtain ⟨e, q⟩ := (kind j).1.mp ⟨e1, h⟩; exact ⟨e, .inl q⟩
      · obtain ⟨e, q⟩ := (kind j).2.mp ⟨e1, h⟩; exact ⟨e, .inr q⟩
    have o2 : ∃ e, ρ[l]? = some (Sl.o e) ∨ ρ[l]? = some (Sl.p e) := by
      rcases k4 with h | h
      · obtain ⟨e, q⟩ := (kind l).1.mp ⟨e2, h⟩; exact ⟨e, .inl q⟩
      · obtain ⟨e, q⟩ := (kind l).2.mp ⟨e2, h⟩; exact ⟨e, .inr q⟩
    exact S.inj j l b ⟨k1, o1⟩ ⟨k3, o2⟩
def putE (i : Nat) (ds : List D) : EM Unit := fun ρ => .ok () (putO i (.lst ds) ρ)
/-- len(x), x owned -/
def lenO (i : Nat) : EM D := bindM (ownL i) fun ds => retE (.int ds.length)
theorem TD.lenO {i : Nat} : TD K mg W (tCB (rLen K) (tCons (tVar i) tNil)) (DL.lenO i) := by
  intro Hf σ ρ H S Q h
  obtain ⟨a, ds, vs, h1, h2, h3, h4, h5, h6⟩ := ownL_inv S h
  refine ⟨.ref a, h1, .ref a, vs.length, rfl, .inl ⟨vs, SqL.of h4, rfl⟩, ?_⟩
  rw [← reps_len h5]
  exact h6 _ Hf H Stp.refl S (by unfold Rep; rfl)
theorem own_same {i : Nat} {a b : Addr} (h : σ[i]? = some (some (V.ref a))) (h' : σ[i]? = some (some (V.ref b))) : b = a := by
  rw [h] at h'; cases h'; rfl
/-- x[e], x owned -/
def ixO (i : Nat) (fe : EM D) : EM D := bindM (ownS i) fun _ => bindM fe fun j => bindM (ownL i) fun ds => liftO (ixD (.lst ds) j)
theorem TD.ixO {i : Nat} {te : TE} {fe : EM D} (he : TD K mg W te fe) : TD K mg W (tOp (rIx K) (tVar i) te) (DL.ixO i fe) := by
  intro Hf σ ρ H S Q h
  obtain ⟨⟨a, d, h1, _⟩, h2⟩ := ownS_inv S h
  refine ⟨.ref a, h1, he Hf σ ρ H S _ ((Wp.bind h2).mono fun j ρ1 h3 v Hf1 H1 s1 S1 r1 => ?_)⟩
  obtain ⟨b, ds, vs, g1, g2, g3, g4, g5, g6⟩ := ownL_inv S1 h3
  cases own_same h1 g1
  obtain ⟨dz, e, h4⟩ := Wp.lift g6
  match j, e, r1 with
  | .int z, e, r1 =>
    cases rep_int r1
    obtain ⟨u, k1, k2⟩ := reps_atI g5 e
    exact .inl ⟨a, vs, z, u, rfl, rfl, SqL.of g4, k1, h4 u Hf1 H1 s1 S1 k2⟩
/-- x[e] = v, x owned -/
def doS (m : EM Unit) : SM := fun ρ => (m ρ).bind fun _ ρ1 => .ok .nx ρ1
def setIx (ds : List D) (d j : D) : Option (List D) := match j with
  | .int z => (ixN ds.length z).map fun k => ds.set k d
  | _ => none
def setE (i : Nat) (fe fv : EM D) : EM Unit := bindM fv fun d => bindM (ownS i) fun _ => bindM fe fun j => bindM (ownL i) fun ds => bindM (liftO (setIx ds d j)) fun es => putE i es
def setO (i : Nat) (fe fv : EM D) : SM := doS (setE i fe fv)
theorem reps_set : ∀ {ds : List D} {vs : List V} {k : Nat} {d : D} {v : V}, Reps K Hf ds vs → Rep K Hf d v → Reps K Hf (ds.set k d) (vs.set k v)
  | [], _, _, _, _, h, _ => by unfold Reps at h; subst h; simp [Reps]
  | e :: ds, _, 0, _, _, h, r => by
    unfold Reps at h
    obtain ⟨v, r', rfl, h1, h2⟩ := h
    exact reps_cons r h2
  | e :: ds, _, k + 1, _, _, h, r => by
    unfold Reps at h
    obtain ⟨v, r', rfl, h1, h2⟩ := h
    exact reps_cons h1 (reps_set h2 r)
theorem TSD.setO {i : Nat} {ti tv : TE} {fe fv : EM D} (he : TD K mg W ti fe) (hv : TD K mg W tv fv) : TSD K mg W (tAsg tv (gSub (tVar i) ti rSetL)) (DL.setO i fe fv) := by
  intro Hf σ ρ H S E h
  have h := Wp.rbind (show Wp K mg W (Res.bind (setE i fe fv ρ) fun _ ρ1 => .ok Fl.nx ρ1) _ from h)
  refine hv Hf σ ρ H S _ ((Wp.bind h).mono fun d ρ1 h1 v Hf1 H1 s1 S1 r1 => ?_)
  obtain ⟨⟨a, d0, k1, _⟩, h2⟩ := ownS_inv S1 h1
  refine ⟨.ref a, k1, he Hf1 σ ρ1 H1 S1 _ ((Wp.bind h2).mono fun j ρ2 h3 u Hf2 H2 s2 S2 r2 => ?_)⟩
  obtain ⟨b, ds, vs, g1, g2, g3, g4, g5, g6⟩ := ownL_inv S2 h3
  cases own_same k1 g1
  obtain ⟨es, e, h4⟩ := Wp.lift (Wp.bind g6)
  match j, e, r2 with
  | .int z, e, r2 =>
    cases rep_int r2
    unfold setIx at e
    simp only at e
    cases e1 : ixN ds.length z with
    | none => rw [e1] at e; cases e
    | some k =>
      rw [e1] at e; cases e
      refine ⟨a, vs, z, k, rfl, rfl, g4, by rw [← reps_len g5]; exact e1, ?_⟩
      obtain ⟨s3, S3⟩ := own_upd (o := .lst (vs.set k v)) (d' := .lst (ds.set k d)) S2 g1 g2 ⟨vs.set k v, upd_same, reps_set g5 (Rep.mono s2.fz r1)⟩
      exact h4 Hf2 σ _ ((s1.trans s2).trans s3) S3
theorem tyV_list {a : Addr} {vs : List V} (h : H a = some (.lst vs)) : tyV K "list" (.ref a) H := .inl ⟨rfl, vs, SqL.of h⟩
/-- x.append(e), as a statement -/
def appE (i : Nat) (fe : EM D) : EM Unit := bindM (ownL i) fun _ => bindM fe fun d => bindM (ownL i) fun ds => if ds.length ≤ 1000000 then putE i (ds ++ [d]) else fun _ => .bad
def appS (i : Nat) (fe : EM D) : SM := doS (appE i fe)
theorem TSD.appO {i : Nat} {te : TE} {fe : EM D} (he : TD K mg W te fe) : TSD K mg W (tDrop (tBM K "list" rAppend (tVar i) (tCons te tNil))) (appS i fe) := by
  intro Hf σ ρ H S E h
  obtain ⟨a, ds0, vs0, k1, _, _, k2, _, h1⟩ := ownL_inv S (Wp.rbind (show Wp K mg W (Res.bind (appE i fe ρ) fun _ ρ1 => .ok Fl.nx ρ1) _ from h))
  refine ⟨.ref a, k1, tyV_list k2, he Hf σ ρ H S _ ((Wp.bind h1).mono fun d ρ1 h2 v Hf1 H1 s1 S1 r1 => ?_)⟩
  obtain ⟨b, ds, vs, g1, g2, g3, g4, g5, g6⟩ := ownL_inv S1 h2
  cases own_same k1 g1
  by_cases hl : ds.length ≤ 1000000
  · rw [if_pos hl] at g6
    refine ⟨a, vs, v, rfl, rfl, g4, by rw [← reps_len g5]; exact big_line hl, ?_⟩
    obtain ⟨s3, S3⟩ := own_upd (o := .lst (vs ++ [v])) (d' := .lst (ds ++ [d])) S1 g1 g2 ⟨vs ++ [v], upd_same, reps_snoc g5 r1⟩
    exact g6 Hf1 σ _ (s1.trans s3) S3
  · rw [if_neg hl] at g6; exact g6.elim
/-- x.pop(e) of an owned list, 0 ≤ e -/
def popO (i : Nat) (fe : EM D) : EM D := bindM (ownL i) fun _ => bindM fe fun j => bindM (ownL i) fun ds => bindM (liftO (match j with
  | .int z => if decide (0 ≤ z) && decide (z ≤ 1000000) then (ds[z.toNat]?).map fun d => (d, ds.eraseIdx z.toNat) else none
  | _ => none)) fun p => bindM (putE i p.2) fun _ => retE p.1
theorem reps_erase : ∀ {ds : List D} {vs : List V} {k : Nat}, Reps K Hf ds vs → Reps K Hf (ds.eraseIdx k) (vs.eraseIdx k)
  | [], _, _, h => by unfold Reps at h; subst h; simp [Reps]
  | e :: ds, _, 0, h => by
    unfold Reps at h
    obtain ⟨v, r', rfl, h1, h2⟩ := h
    exact h2
  | e :: ds, _, k + 1, h => by
    unfold Reps at h
    obtain ⟨v, r', rfl, h1, h2⟩ := h
    exact reps_cons h1 (reps_erase h2)
theorem TD.popO {i : Nat} {te : TE} {fe : EM D} (he : TD K mg W te fe) : TD K mg W (tBM K "list" rPopAt (tVar i) (tCons te tNil)) (DL.popO i fe) := by
  intro Hf σ ρ H S Q h
  obtain ⟨a, ds0, vs0, k1, _, _, k2, _, h1⟩ := ownL_inv S h
  refine ⟨.ref a, k1, tyV_list k2, he Hf σ ρ H S _ ((Wp.bind h1).mono fun j ρ1 h2 v Hf1 H1 s1 S1 r1 => ?_)⟩
  obtain ⟨b, ds, vs, g1, g2, g3, g4, g5, g6⟩ := ownL_inv S1 h2
  cases own_same k1 g1
  obtain ⟨p, e, h4⟩ := Wp.lift (Wp.bind g6)
  match j, e, r1 with
  | .int z, e, r1 =>
    cases rep_int r1
    simp only at e
    split at e
    · rename_i hz
      rw [Bool.and_eq_true] at hz
      have z0 : 0 ≤ z := of_decide_eq_true hz.1
      have z1 : z ≤ 1000000 := of_decide_eq_true hz.2
      cases e1 : ds[z.toNat]? with
      | none => rw [e1] at e; cases e
      | some d =>
        rw [e1] at e; cases e
        obtain ⟨u, q1, q2⟩ := reps_get g5 e1
        have hlt : z.toNat < vs.length := (List.getElem?_eq_some_iff.mp q1).1
        refine ⟨a, vs, z, z.toNat, u, rfl, rfl, g4, by omega, by omega, ?_, q1, ?_⟩
        · have : ixN vs.length z = some z.toNat := by
            unfold ixN
            rw [if_pos z0, if_pos (by omega)]
          exact (ixN_seq this).1
        · obtain ⟨s3, S3⟩ := own_upd (o := .lst (vs.eraseIdx z.toNat)) (d' := .lst (ds.eraseIdx z.toNat)) S1 g1 g2 ⟨_, upd_same, reps_erase g5⟩
          exact h4 u Hf1 _ (s1.trans s3) S3 q2
    · cases e
/-- x != [], x == [] of an owned list -/
def neO (i : Nat) : EM D := bindM (ownL i) fun ds => bindM (liftO (neD (.lst ds) (.lst []))) fun d => retE d
theorem toPs_nil : toPs [] = some [] := by unfold toPs; rfl
theorem TD.neO {i : Nat} : TD K mg W (tOp (rNeD K) (tVar i) (tLst tNil)) (DL.neO i) := by
  intro Hf σ ρ H S Q h
  obtain ⟨a, ds, vs, h1, h2, h3, h4, h5, h6⟩ := ownL_inv S h
  obtain ⟨d, e, h7⟩ := Wp.lift (Wp.bind h6)
  refine ⟨.ref a, h1, Nat.zero_le _, fun p hp => ?_⟩
  unfold neD at e
  cases h8 : eqvD (.lst ds) (.lst []) with
  | none => rw [h8] at e; cases e
  | some b =>
    rw [h8] at e; cases e
    obtain ⟨q1, q2, e1, e2, s1, s2, rfl⟩ := eqvD_inv h8
    have n := New.fresh (o := .lst []) S.sub hp
    refine ⟨q1, q2, ?_, ?_, s1, s2, h7 _ Hf _ n.stp (n.sr S) (by unfold Rep; rfl)⟩
    · unfold toP at e1
      cases e3 : toPs ds with
      | none => rw [e3] at e1; cases e1
      | some ps =>
        rw [e3] at e1; cases e1
        have ne : a ≠ p := fun e => by rw [e, hp] at h4; cases h4
        exact Dp.lst (SqL.of (by rw [upd_ne ne]; exact h4)) (dps_of (H := upd H p (.lst [])) n.sub e3 h5)
    · unfold toP at e2
      rw [toPs_nil] at e2; cases e2
      exact Dp.lst (SqL.of upd_same) DpAll.nil
/-- x in l, l owned -/
def inO (neg : Bool) (fe : EM D) (i : Nat) : EM D := bindM fe fun x => bindM (ownL i) fun ds => liftO (if flatD x && ds.all flatD then some (.bl (if neg then !memF x ds else memF x ds)) else none)
theorem TD.inO {i : Nat} {neg : Bool} {te : TE} {fe : EM D} (he : TD K mg W te fe) : TD K mg W (tOp (rIn K neg) te (tVar i)) (DL.inO neg fe i) := by
  intro Hf σ ρ H S Q h
  refine he Hf σ ρ H S _ ((Wp.bind h).mono fun x ρ1 h2 v Hf1 H1 s1 S1 r1 => ?_)
  obtain ⟨b, ds, vs, g1, g2, g3, g4, g5, g6⟩ := ownL_inv S1 h2
  obtain ⟨d, e, h4⟩ := Wp.lift g6
  refine ⟨.ref b, g1, ?_⟩
  split at e
  · rename_i hh
    rw [Bool.and_eq_true] at hh
    cases e
    refine ⟨b, vs, rfl, .inl (SqL.of g4), flat_rep hh.1 r1, flats_rep hh.2 g5, ?_⟩
    rw [mem_rep hh.1 r1 hh.2 g5]
    exact h4 _ Hf1 H1 s1 S1 (by unfold Rep; rfl)
  · cases e

/-! ### sorted -/
def ltP (a b : PyData) : Bool := PySem.W.dataLt a b
/-- x stands before the first that is not less -/
def insD {α : Type} (le : α → α → Bool) (x : α) : List α → List α
  | [] => [x]
  | y :: ys => if le x y then x :: y :: ys else y :: insD le x ys
def isort {α : Type} (le : α → α → Bool) : List α → List α
  | [] => []
  | x :: xs => insD le x (isort le xs)
theorem insD_mid {α : Type} {le : α → α → Bool} {x : α} : ∀ {l1 l2 : List α}, (∀ y ∈ l1, le x y = false) → (∀ y ∈ l2, le x y = true) → insD le x (l1 ++ l2) = l1 ++ x :: l2
  | [], [], _, _ => rfl
  | [], y :: l2, _, h2 => by
    show insD le x (y :: l2) = _
    unfold insD
    rw [if_pos (h2 y List.mem_cons_self)]; rfl
  | y :: l1, l2, h1, h2 => by
    show insD le x (y :: (l1 ++ l2)) = _
    unfold insD
    rw [if_neg (by rw [h1 y List.mem_cons_self]; simp), insD_mid (fun z hz => h1 z (List.mem_cons_of_mem _ hz)) h2]; rfl
theorem isort_eq {α : Type} {le : α → α → Bool} (tr : ∀ a b c, le a b = true → le b c = true → le a c = true) (tot : ∀ a b, (le a b || le b a) = true) : ∀ l : List α, l.mergeSort le = isort le l
  | [] => by simp [isort]
  | x :: l => by
    obtain ⟨l1, l2, e1, e2, h⟩ := List.mergeSort_cons tr tot x l
    rw [e1]
    show _ = insD le x (isort le l)
    rw [← isort_eq tr tot l, e2]
    refine (insD_mid (fun y hy => by have := h y hy; simpa using this) fun y hy => ?_).symm
    have p := List.pairwise_mergeSort tr tot (x :: l)
    rw [e1, List.pairwise_append] at p
    exact (List.pairwise_cons.mp p.2.1).1 y hy
theorem insD_map {α β : Type} (f : α → β) (le : β → β → Bool) (x : α) : ∀ l : List α, (insD (fun a b => le (f a) (f b)) x l).map f = insD le (f x) (l.map f)
  | [] => rfl
  | y :: ys => by
    unfold insD
    by_cases h : le (f x) (f y) = true
    · simp [insD, h]
    · simp [insD, h, insD_map f le x ys]
theorem isort_map {α β : Type} (f : α → β) (le : β → β → Bool) : ∀ l : List α, (isort (fun a b => le (f a) (f b)) l).map f = isort le (l.map f)
  | [] => rfl
  | x :: l => by
    show (insD _ x (isort _ l)).map f = insD le (f x) (isort le (l.map f))
    rw [insD_map, isort_map f le l]
theorem dataLe_tr {α : Type} (k : α → PyData) : (∀ a b c, PySem.W.dataLe false k a b = true → PySem.W.dataLe false k b c = true → PySem.W.dataLe false k a c = true) ∧ ∀ a b, (PySem.W.dataLe false k a b || PySem.W.dataLe false k b a) = true :=
  let t := PySem.W.sortLe_total (PyProof.Rows.listOrd PyProof.Rows.itemOrd) false fun b => PySem.W.keyToks (k b)
  ⟨t.trans, fun a b => by rcases t.total a b with h | h <;> simp [PySem.W.dataLe, h]⟩
end
end DL

/-! The D layer, 10: sorted; rules for the text. -/
namespace DL
open PySem L2 PySem.W

def isTup1 : PyData → Bool
  | .tuple (_ :: _) => true
  | _ => false
def noTup : PyData → Bool
  | .tuple _ => false
  | .none => false
  | _ => true
/-- what sorted is asked for -/
def sortOk (ps : List PyData) : Bool := ps.all (fun p => ps.all (alike p)) && (ps.all isTup1 || ps.all noTup) && ps.all fun p => decide (p.depth ≤ 60)
theorem sortOk_alike {ps : List PyData} (h : sortOk ps = true) : AllAlike ps := by
  unfold sortOk at h
  rw [Bool.and_eq_true, Bool.and_eq_true] at h
  intro d hd d' hd'
  exact List.all_eq_true.mp (List.all_eq_true.mp h.1.1 d hd) d' hd'
theorem sortOk_able {ps : List PyData} (h : sortOk ps = true) : Sortable ps := by
  unfold sortOk at h
  rw [Bool.and_eq_true, Bool.and_eq_true, Bool.or_eq_true] at h
  rcases h.1.2 with q | q
  · refine .inl fun d hd => ?_
    have z := List.all_eq_true.mp q d hd
    match d, z with
    | .tuple (x :: r), _ => exact ⟨x, r, rfl⟩
  · refine .inr fun d hd => ?_
    have z := List.all_eq_true.mp q d hd
    cases d <;> simp [noTup] at z ⊢
theorem sortOk_depth {ps : List PyData} (h : sortOk ps = true) {p : PyData} (hp : p ∈ ps) : p.depth ≤ 60 := by
  unfold sortOk at h
  rw [Bool.and_eq_true] at h
  exact of_decide_eq_true (List.all_eq_true.mp h.2 p hp)
abbrev leP {α : Type} (x y : α × PyData) : Bool := !dataLt y.2 x.2
theorem dataLe_is {α : Type} : dataLe false (fun b : α × PyData => b.2) = leP := by
  rw [dataLe_eq]; rfl
def rSortX (K : PySem.W.Frag) : List V → Hp → VK → Prop := fun xs H Q => ∃ (a : Addr) (vs : List V) (ps : List PyData), xs = [.ref a] ∧ SqL K H a vs ∧ DpAll K H vs ps ∧ sortOk ps = true ∧
  ∀ p, H p = none → Q (.ref p) (upd H p (.lst ((isort leP (vs.zip ps)).map (·.1))))
theorem dpAll_len {K : PySem.W.Frag} {H : Hp} : ∀ {vs : List V} {ps : List PyData}, DpAll K H vs ps → vs.length = ps.length
  | _, _, .nil => rfl
  | _, _, .cons _ h => by simp [dpAll_len h]
theorem each_zip {h : Heap} : ∀ {its : List Value} {vs : List V} {ps : List PyData} {as : List Addr}, Vals vs its → ReadsAll h its ps as →
    EachIs (fun u (b : V × PyData) => RelV b.1 u) its (vs.zip ps) ∧ EachIs (fun u (b : V × PyData) => ∃ as, Reads h u b.2 as) its (vs.zip ps)
  | _, _, _, _, .nil, r => by
    cases r
    exact ⟨.nil, .nil⟩
  | _, _, _, _, .cons r t, q => by
    cases q with
    | cons q1 q2 =>
      obtain ⟨a, b⟩ := each_zip t q2
      exact ⟨.cons r a, .cons ⟨_, q1⟩ b⟩
theorem vals_each : ∀ {out : List Value} {bs : List (V × PyData)}, EachIs (fun u (b : V × PyData) => RelV b.1 u) out bs → Vals (bs.map (·.1)) out
  | _, _, .nil => .nil
  | _, _, .cons r t => .cons r (vals_each t)
theorem zip_snd {vs : List V} {ps : List PyData} (h : vs.length = ps.length) : (vs.zip ps).map (·.2) = ps := by
  rw [List.map_snd_zip]; omega
theorem cr_sortX {X : Cx} (hu : X.A.units + 64 < cLine) : CallR X (.builtin "sorted") (rSortX X.K) := by
  intro pins s σ H vs us Q I r h
  obtain ⟨a, xs, ps, rfl, hs, hd, ok, q⟩ := h
  obtain ⟨its, rv, hl, hz⟩ := I.list hs
  rw [Vals.ref1 r]
  obtain ⟨as, ra⟩ := Dp.readsAll I ps xs its hd rv
  obtain ⟨e1, e2⟩ := each_zip rv ra
  have hlen : (xs.zip ps).length = xs.length := by rw [List.length_zip, dpAll_len hd, Nat.min_self]
  have hm : (xs.zip ps).map (fun b => b.2) = ps := zip_snd (dpAll_len hd)
  refine sorted_data (enc := fun b : V × PyData => b.2) hl.isList e1 e2 (by rw [hm]; exact sortOk_alike ok) (by rw [hm]; exact sortOk_able ok) (by rw [hlen]; exact hz) (fun b hb => ?_) fun out ho eo => ?_
  · have : b.2 ∈ ps := by rw [← hm]; exact List.mem_map.mpr ⟨b, hb, rfl⟩
    have := sortOk_depth ok this
    omega
  · obtain ⟨ep, he'⟩ := PyProof.Rows.sortedAll_at s.heap its out.toArray
    rw [isort_eq (dataLe_tr _).1 (dataLe_tr _).2, dataLe_is] at eo
    have hl2 : ((isort leP (xs.zip ps)).map (·.1)).length ≤ sizeLine := by
      have := eo.length
      rw [List.length_map, ← this, ho, hlen]
      exact hz
    exact ⟨.ref _, upd H (s.heap.objs.size + 1) (.lst ((isort leP (xs.zip ps)).map (·.1))), I.laid (t' := s.toks) (fun _ _ => PyProof.Rows.sortedAll_old) (Nat.le_succ _) ⟨hl2, out, ep, vals_each eo, he'⟩, rfl, q _ (I.hok.fresh (Nat.le_succ _))⟩
/-- fewer than two items -/
def rSort1 (K : PySem.W.Frag) : List V → Hp → VK → Prop := fun xs H Q => ∃ (a : Addr) (vs : List V), xs = [.ref a] ∧ SqL K H a vs ∧ vs.length < 2 ∧ ∀ p, H p = none → Q (.ref p) (upd H p (.lst vs))
theorem perm_short {α : Type} {l m : List α} (h : l.Perm m) (hm : m.length < 2) : l = m := by
  match m, hm with
  | [], _ => exact List.Perm.eq_nil h
  | [x], _ => exact List.perm_singleton.mp h
theorem cr_sort1 {X : Cx} : CallR X (.builtin "sorted") (rSort1 X.K) := by
  intro pins s σ H vs us Q I r h
  obtain ⟨a, xs, rfl, hs, h2, q⟩ := h
  obtain ⟨its, rv, hl, hz⟩ := I.list hs
  rw [Vals.ref1 r]
  have h2' : its.length < 2 := by rw [← rv.length]; exact h2
  refine SrtO.sorted_ord (ltv := fun _ _ => false) ⟨fun _ _ h => (by cases h), fun _ _ _ _ _ => rfl⟩ hl.isList (by rw [← rv.length]; exact hz) (fun h3 => by omega) fun out _ hb => ?_
  have e := perm_short hb.perm h2'
  subst e
  obtain ⟨ep, he'⟩ := PyProof.Rows.sortedAll_at s.heap out out.toArray
  exact ⟨.ref _, upd H (s.heap.objs.size + 1) (.lst xs), I.laid (t' := s.toks) (fun _ _ => PyProof.Rows.sortedAll_old) (Nat.le_succ _) ⟨hz, out, ep, rv, he'⟩, rfl, q _ (I.hok.fresh (Nat.le_succ _))⟩
def rSortA (K : PySem.W.Frag) : List V → Hp → VK → Prop := fun xs H Q => rSort1 K xs H Q ∨ rSortX K xs H Q
theorem CallR.or {X : Cx} {f : Value} {r r' : List V → Hp → VK → Prop} (h : CallR X f r) (h' : CallR X f r') : CallR X f fun xs H Q => r xs H Q ∨ r' xs H Q := by
  intro pins s σ H xs us Q I rs q
  rcases q with q | q
  · exact h pins s σ H xs us Q I rs q
  · exact h' pins s σ H xs us Q I rs q
theorem cr_sortA {X : Cx} (hu : X.A.units + 64 < cLine) : CallR X (.builtin "sorted") (rSortA X.K) := CallR.or cr_sort1 (cr_sortX hu)

/-- data as the model's own data (None where it is none) -/
def pOf (d : D) : PyData := (toP d).getD .none
/-- x stands ahead of y, or with it -/
def leD' (x y : D) : Bool := !dataLt (pOf y) (pOf x)
def sortF : List D → Option D
  | [.lst ds] => if ds.length < 2 then some (.lst ds) else match toPs ds with
    | some ps => if sortOk ps then some (.lst (isort leD' ds)) else none
    | none => none
  | _ => none
section
variable {K : PySem.W.Frag} {Hf H : Hp}
theorem toPs_map : ∀ {ds : List D} {ps : List PyData}, toPs ds = some ps → ps = ds.map pOf
  | [], _, e => by unfold toPs at e; cases e; rfl
  | d :: ds, _, e => by
    unfold toPs at e
    cases e1 : toP d with
    | none => rw [e1] at e; cases e
    | some p =>
      cases e2 : toPs ds with
      | none => rw [e1, e2] at e; cases e
      | some qs =>
        rw [e1, e2] at e; cases e
        rw [List.map_cons, toPs_map e2]
        unfold pOf
        rw [e1]; rfl
/-- rows of (value, data) sorted by the data: the values stand for the sorted data -/
theorem reps_zip : ∀ {ds : List D} {vs : List V}, Reps K Hf ds vs → ∀ b ∈ vs.zip ds, Rep K Hf b.2 b.1
  | [], vs, _, b, h => by simp at h
  | d :: ds, vs, r, b, h => by
    unfold Reps at r
    obtain ⟨v, r', rfl, h1, h2⟩ := r
    rw [List.zip_cons_cons] at h
    rcases List.mem_cons.mp h with e | h
    · subst e; exact h1
    · exact reps_zip h2 b h
theorem reps_of_pairs : ∀ {bs : List (V × D)}, (∀ b ∈ bs, Rep K Hf b.2 b.1) → Reps K Hf (bs.map (·.2)) (bs.map (·.1))
  | [], _ => by simp [Reps]
  | b :: bs, h => reps_cons (h b List.mem_cons_self) (reps_of_pairs fun c hc => h c (List.mem_cons_of_mem _ hc))
theorem mem_insD {α : Type} {le : α → α → Bool} {x y : α} : ∀ {l : List α}, y ∈ insD le x l → y = x ∨ y ∈ l
  | [], h => by simp [insD] at h; exact .inl h
  | z :: l, h => by
    unfold insD at h
    split at h
    · rcases List.mem_cons.mp h with e | h
      · exact .inl e
      · exact .inr h
    · rcases List.mem_cons.mp h with e | h
      · exact .inr (e ▸ List.mem_cons_self)
      · rcases mem_insD h with e | h
        · exact .inl e
        · exact .inr (List.mem_cons_of_mem _ h)
theorem mem_isort {α : Type} {le : α → α → Bool} {y : α} : ∀ {l : List α}, y ∈ isort le l → y ∈ l
  | [], h => h
  | x :: l, h => by
    rcases mem_insD (show y ∈ insD le x (isort le l) from h) with e | h
    · exact e ▸ List.mem_cons_self
    · exact List.mem_cons_of_mem _ (mem_isort h)
theorem reps_sort {ds : List D} {vs : List V} (r : Reps K Hf ds vs) : Reps K Hf (isort leD' ds) ((isort leP (vs.zip (ds.map pOf))).map (·.1)) := by
  have hl := reps_len r
  have e1 : isort leD' ds = (isort (fun a b : V × D => leD' a.2 b.2) (vs.zip ds)).map (·.2) := by
    rw [isort_map (fun b : V × D => b.2) leD', List.map_snd_zip (by omega)]
  have e2 : (isort leP (vs.zip (ds.map pOf))).map (·.1) = (isort (fun a b : V × D => leD' a.2 b.2) (vs.zip ds)).map (·.1) := by
    have e3 : vs.zip (ds.map pOf) = (vs.zip ds).map fun b => (b.1, pOf b.2) := by rw [List.zip_map_right]; rfl
    have e4 : isort leP ((vs.zip ds).map fun b => (b.1, pOf b.2)) = (isort (fun a b : V × D => leD' a.2 b.2) (vs.zip ds)).map fun b => (b.1, pOf b.2) :=
      (isort_map (fun b : V × D => (b.1, pOf b.2)) leP (vs.zip ds)).symm
    rw [e3, e4, List.map_map]; rfl
  rw [e1, e2]
  exact reps_of_pairs fun b hb => reps_zip r b (mem_isort hb)
theorem rdc_sort : RDCF K (rSortA K) sortF := by
  intro Hf H xs ds dz s r e Q k
  match ds, e, r with
  | [.lst es], e, r =>
    obtain ⟨v, rfl, r1⟩ := reps1 r
    obtain ⟨a, vs, rfl, g1, g2⟩ := rep_lst r1
    simp only [sortF] at e
    split at e
    · rename_i h2
      cases e
      exact .inl ⟨a, vs, rfl, rdSeq s g1, by rw [← reps_len g2]; exact h2, fun p hp => k p _ _ (New.fresh s hp) hp (none_sub s hp) ⟨vs, upd_same, g2⟩⟩
    · cases e1 : toPs es with
      | none => rw [e1] at e; cases e
      | some ps =>
        rw [e1] at e
        simp only at e
        split at e
        · rename_i ok
          cases e
          refine .inr ⟨a, vs, ps, rfl, rdSeq s g1, dps_of s e1 g2, ok, fun p hp => k p _ _ (New.fresh s hp) hp (none_sub s hp) ⟨_, upd_same, ?_⟩⟩
          rw [toPs_map e1]
          exact reps_sort g2
        · cases e
end

/-! ### rules for the text -/
section
variable {X : Cx} {W : XK} {a b c e : Expr} {fa fb fc fe : EM D} {ba bb : EM Bool} {pos pos' : Pos} {es : List Expr} {st : Stmt} {sts : List Stmt} {f g : SM} {i j : Nat} {x y : Str} {fr : EM (List D)} {p : Pos} {id T : String}
theorem d_callB {r : List V → Hp → VK → Prop} {g : List D → Option D} (hc : CallR X (.builtin id) r) (hr : RDC X.K r g) (hg : Gl X x) (hm : X.mg x = none) (hv : bootBuiltins x = some (.builtin id)) (ha : PAD X W (e :: es) fr)
    (he : starEach (e :: es) X.env = (false, eval e X.env) :: starEach es X.env) (hpl : (backTo pos (starEach es X.env)).any (·.1) = false) (hn : x ≠ "__name__" := by decide) (hdb : (x == ("__debug__" : Str)) = false := by decide) :
    PD X W (.Call (.Name x p) (e :: es) [] pos) (callB g fr) := let ⟨_, a1, a2⟩ := ha.ex; ⟨_, pe_callB hc hg hm hv a1 hn hdb he hpl, TD.callB hr a2⟩
theorem f_callB {r : List V → Hp → VK → Prop} {g : List D → Option D} (hc : CallR X (.builtin id) r) (hr : RDCF X.K r g) (hg : Gl X x) (hm : X.mg x = none) (hv : bootBuiltins x = some (.builtin id)) (ha : PAD X W (e :: es) fr)
    (he : starEach (e :: es) X.env = (false, eval e X.env) :: starEach es X.env) (hpl : (backTo pos (starEach es X.env)).any (·.1) = false) (hn : x ≠ "__name__" := by decide) (hdb : (x == ("__debug__" : Str)) = false := by decide) :
    PF X W (.Call (.Name x p) (e :: es) [] pos) (callB g fr) := let ⟨_, a1, a2⟩ := ha.ex; ⟨_, pe_callB hc hg hm hv a1 hn hdb he hpl, TF.callB hr a2⟩
theorem d_callTy {r : List V → Hp → VK → Prop} {g : List D → Option D} (hc : CallR X (.type T) r) (hr : RDC X.K r g) (hg : Gl X x) (hm : X.mg x = none) (hv : bootBuiltins x = some (.type T)) (ha : PAD X W (e :: es) fr)
    (he : starEach (e :: es) X.env = (false, eval e X.env) :: starEach es X.env) (hpl : (backTo pos (starEach es X.env)).any (·.1) = false) (hn : x ≠ "__name__" := by decide) (hdb : (x == ("__debug__" : Str)) = false := by decide) :
    PD X W (.Call (.Name x p) (e :: es) [] pos) (callB g fr) := let ⟨_, a1, a2⟩ := ha.ex; ⟨_, pe_callTy hc hg hm hv a1 hn hdb he hpl, TD.callB hr a2⟩
theorem f_callTy {r : List V → Hp → VK → Prop} {g : List D → Option D} (hc : CallR X (.type T) r) (hr : RDCF X.K r g) (hg : Gl X x) (hm : X.mg x = none) (hv : bootBuiltins x = some (.type T)) (ha : PAD X W (e :: es) fr)
    (he : starEach (e :: es) X.env = (false, eval e X.env) :: starEach es X.env) (hpl : (backTo pos (starEach es X.env)).any (·.1) = false) (hn : x ≠ "__name__" := by decide) (hdb : (x == ("__debug__" : Str)) = false := by decide) :
    PF X W (.Call (.Name x p) (e :: es) [] pos) (callB g fr) := let ⟨_, a1, a2⟩ := ha.ex; ⟨_, pe_callTy hc hg hm hv a1 hn hdb he hpl, TF.callB hr a2⟩
/-- a built-in type as a value; a module's constant -/
theorem d_ty {n : String} (hg : Gl X x) (hm : X.mg x = none) (hv : bootBuiltins x = some (.type n)) (hn : x ≠ "__name__" := by decide) (hd : (x == ("__debug__" : Str)) = false := by decide) : PD X W (.Name x pos) (retE (.ty n)) :=
  ⟨_, pe_bltn (v := .ty n) hg hm hv rfl hn hd, TD.con fun _ => by unfold Rep; rfl⟩
theorem d_glob {u : Value} {d : D} {v : V} (hg : Gl X x) (hm : X.mg x = some u) (r : RelV v u) (rd : ∀ Hf, Rep X.K Hf d v) (hd : (x == ("__debug__" : Str)) = false := by decide) : PD X W (.Name x pos) (retE d) := ⟨_, pe_glob hg hm r hd, TD.con rd⟩
theorem d_isiT {tp : Expr} (ns : List String) (hg : Gl X "isinstance") (hm : X.mg "isinstance" = none) (hv : bootBuiltins "isinstance" = some (.builtin "isinstance")) (ha : PD X W a fa) (ht : PE X tp (tTup (tTys ns)))
    (hs1 : starEach [a, tp] X.env = (false, eval a X.env) :: starEach [tp] X.env) (hs2 : starEach [tp] X.env = (false, eval tp X.env) :: starEach [] X.env) (hpl : (backTo pos (starEach [tp] X.env)).any (·.1) = false) :
    PD X W (.Call (.Name "isinstance" p) [a, tp] [] pos) (isiTE ns fa) := let ⟨_, a1, a2⟩ := ha.ex; ⟨_, pe_callB call_isiT hg hm hv (pa_cons a1 (pa_cons ht pa_nil hs2) hs1) (by decide) (by decide) hs1 hpl, TD.isiT ns a2⟩
theorem pa_tys_nil : PA X [] (tTys []) := pa_nil
theorem pa_tys {n : String} {ns : List String} (hg : Gl X x) (hm : X.mg x = none) (hv : bootBuiltins x = some (.type n)) (hr : PA X es (tTys ns)) (hs : starEach (.Name x pos :: es) X.env = (false, eval (.Name x pos) X.env) :: starEach es X.env)
    (hn : x ≠ "__name__" := by decide) (hd : (x == ("__debug__" : Str)) = false := by decide) : PA X (.Name x pos :: es) (tTys (n :: ns)) := pa_cons (pe_bltn (v := .ty n) hg hm hv rfl hn hd) hr hs
theorem d_ix (hu : X.A.units + 64 < cLine) (ha : PD X W a fa) (hb : PD X W b fb) (hs : PlainIx b) : PD X W (.Subscript a b pos) (bin2 ixD fa fb) := let ⟨_, a1, a2⟩ := ha.ex; let ⟨_, b1, b2⟩ := hb.ex; ⟨_, pe_ix (ix_all hu) a1 b1 hs, TD.op rd_ix a2 b2⟩
structure POD (X : Cx) (W : XK) (e : Option Expr) (f : EM (Option Int)) : Prop where
  ex : ∃ t, PO X e t ∧ TOD X.K X.mg W t f
theorem od_none : POD X W none (retE none) := ⟨_, po_none, TOD.none⟩
theorem od_some (h : PD X W e fe) : POD X W (some e) (partE fe) := let ⟨_, a1, a2⟩ := h.ex; ⟨_, po_some a1, TOD.some a2⟩
theorem d_sl {lo hi : Option Expr} {fl fh : EM (Option Int)} {p2 : Pos} (he : PD X W e fe) (hl : POD X W lo fl) (hh : POD X W hi fh) : PD X W (.Subscript e (.Slice lo hi none p2) pos) (slE fe fl fh) :=
  let ⟨_, a1, a2⟩ := he.ex; let ⟨_, b1, b2⟩ := hl.ex; let ⟨_, c1, c2⟩ := hh.ex; ⟨_, pe_slice sl_X a1 b1 c1, TD.sl a2 b2 c2⟩
theorem d_revL {k : Nat} {p1 p2 p3 : Pos} (he : PD X W e fe) : PD X W (.Subscript e (.Slice none none (some (.UnaryOp .USub (.Constant (.int 1) k p1) p2)) p3) pos) (un1 revD fe) := let ⟨_, a1, a2⟩ := he.ex; ⟨_, pe_revL a1, TD.revL a2⟩
theorem d_tup {k} (ha : PAD X W es fr) : PD X W (.Tuple es k pos) (tupE fr) := let ⟨_, a1, a2⟩ := ha.ex; ⟨_, pe_tupX a1, TD.tup a2⟩
theorem f_lst (ha : PAD X W es fr) : PF X W (.List es pos) (lstE fr) := let ⟨_, a1, a2⟩ := ha.ex; ⟨_, pe_lst a1, TF.lst a2⟩
/-! what is walked -/
variable {tg it : Expr}
theorem i_lst (he : PD X W it fe) : PID X W tg it (lstI fe) := let ⟨_, a1, a2⟩ := he.ex; ⟨_, pi_list a1, TID.lst a2⟩
theorem i_tup (he : PD X W it fe) : PID X W tg it (tupI fe) := let ⟨_, a1, a2⟩ := he.ex; ⟨_, pi_tup a1, TID.tup a2⟩
theorem i_rng1 (hg : Gl X "range") (hm : X.mg "range" = none) (ha : PAD X W [a] fr) (hs : starEach [a] X.env = [(false, eval a X.env)]) : PID X W tg (.Call (.Name "range" p) [a] [] pos) (rng1I fr) := let ⟨_, a1, a2⟩ := ha.ex; ⟨_, pi_range1 hg hm a1 hs, TID.rng1 a2⟩
theorem i_rng2 (hg : Gl X "range") (hm : X.mg "range" = none) (ha : PAD X W [a, b] fr) (hs : starEach [a, b] X.env = [(false, eval a X.env), (false, eval b X.env)]) (hs2 : starEach [b] X.env = [(false, eval b X.env)]) :
    PID X W tg (.Call (.Name "range" p) [a, b] [] pos) (rng2I fr) := let ⟨_, a1, a2⟩ := ha.ex; ⟨_, pi_range2 hg hm a1 hs hs2, TID.rng2 a2⟩
theorem i_enum {elts : List Expr} {kk : Nat} {tpos : Pos} (hg : Gl X "enumerate") (hm : X.mg "enumerate" = none) (ha : PAD X W [a] fr) (hs : starEach [a] X.env = [(false, eval a X.env)]) :
    PID X W (.Tuple elts kk tpos) (.Call (.Name "enumerate" p) [a] [] pos) (enumI fr) := let ⟨_, a1, a2⟩ := ha.ex; ⟨_, pi_enum hg hm a1 hs, TID.enum a2⟩
theorem i_zip {elts : List Expr} {kk : Nat} {tpos : Pos} (hg : Gl X "zip") (hm : X.mg "zip" = none) (ha : PAD X W [a, b] fr) (hs : starEach [a, b] X.env = (false, eval a X.env) :: starEach [b] X.env) (hpl : (backTo pos (starEach [b] X.env)).any (·.1) = false) :
    PID X W (.Tuple elts kk tpos) (.Call (.Name "zip" p) [a, b] [] pos) (zipI fr) := let ⟨_, a1, a2⟩ := ha.ex; ⟨_, RZ.pi_zipA hg hm a1 hs hpl, TID.zip a2⟩
/-! owned lists -/
theorem d_lenO (i : Nat) {p2 : Pos} (hN : X.N[i]? = some y) (hv : Vis X.env.scope y) (hg : Gl X "len") (hm : X.mg "len" = none) (hb : bootBuiltins "len" = some (.builtin "len"))
    (hs : starEach [.Name y p2] X.env = (false, eval (.Name y p2) X.env) :: starEach [] X.env) (hpl : (backTo pos (starEach [] X.env)).any (·.1) = false) (hd : (y == ("__debug__" : Str)) = false := by decide) (hcd : (y == ("__classdict__" : Str)) = false := by decide) :
    PD X W (.Call (.Name "len" p) [.Name y p2] [] pos) (lenO i) := ⟨_, pe_callB call_len hg hm hb (pa_cons (pe_var hN hv hd hcd) pa_nil hs) (by decide) (by decide) hs hpl, TD.lenO⟩
theorem d_ixO (i : Nat) {p2 : Pos} (hN : X.N[i]? = some y) (hv : Vis X.env.scope y) (hb : PD X W b fb) (hs : PlainIx b) (hd : (y == ("__debug__" : Str)) = false := by decide) (hcd : (y == ("__classdict__" : Str)) = false := by decide) :
    PD X W (.Subscript (.Name y p2) b pos) (ixO i fb) := let ⟨_, b1, b2⟩ := hb.ex; ⟨_, pe_ix ix_seq (pe_var hN hv hd hcd) b1 hs, TD.ixO b2⟩
theorem s_setO (i : Nat) {p2 : Pos} (hN : X.N[i]? = some y) (hv : Vis X.env.scope y) (hb : PD X W b fb) (he : PD X W e fe)
    (ha : ∀ v, assign (.Subscript (.Name y p2) b pos) X.env v = (do
      let ov ← holding [v] (eval (.Name y p2) X.env)
      let iv ← holding [v, ov] (eval b X.env)
      standAt pos
      holding [v, ov, iv] (setItem ov iv v)
      release [v, ov, iv] []))
    (hs : swapsWithSole [.Subscript (.Name y p2) b pos] e pos'.line X.env = pure false) (hw : swappedStores [.Subscript (.Name y p2) b pos] e X.env = pure none) (h1 : (assignEach [.Subscript (.Name y p2) b pos] X.env).map (·.2) = [assign (.Subscript (.Name y p2) b pos) X.env])
    (hd : (y == ("__debug__" : Str)) = false := by decide) (hcd : (y == ("__classdict__" : Str)) = false := by decide) :
    PSD X W (.Assign [.Subscript (.Name y p2) b pos] e pos') (setO i fb fe) := let ⟨_, b1, b2⟩ := hb.ex; let ⟨_, e1, e2⟩ := he.ex; ⟨_, ps_asg e1 (pg_sub (pe_var hN hv hd hcd) b1 set_list ha) hs hw h1, TSD.setO b2 e2⟩
theorem s_appO (i : Nat) {p2 p3 p4 : Pos} (hN : X.N[i]? = some y) (hv : Vis X.env.scope y) (he : PD X W e fe) (hbase : attributeBase (.Name y p2) "append" X.env (eval (.Name y p2) X.env) = eval (.Name y p2) X.env)
    (hfew : ((backTo p4 (starEach [e] X.env)).all (fun x => !x.1) && (backToKw p4 (keywordEach [] X.env)).all (fun x => x.1.isSome) && decide (([e] : List Expr).length + ([] : List Keyword).length + (if ([] : List Keyword).isEmpty then 0 else 1) < 30)) = true)
    (hline : (p3.endLine == p4.line) = true) (hs : starEach [e] X.env = (false, eval e X.env) :: starEach [] X.env) (hplain : (backTo p4 (starEach [] X.env)).any (·.1) = false)
    (hsw : swapsWith (.Call (.Attribute (.Name y p2) "append" p3) [e] [] p4) none pos.line X.env = pure false) (hd : (y == ("__debug__" : Str)) = false := by decide) (hcd : (y == ("__classdict__" : Str)) = false := by decide) :
    PSD X W (.Expr (.Call (.Attribute (.Name y p2) "append" p3) [e] [] p4) pos) (appS i fe) :=
  let ⟨_, e1, e2⟩ := he.ex; ⟨_, ps_expr (pe_bm PySem.F.plainAttrs_list PySem.F.slot_list_append PySem.F.type_list_append mt_append (pe_var hN hv hd hcd) (pa_cons e1 pa_nil hs) hbase hfew hline hs hplain) hsw, TSD.appO e2⟩
theorem d_popO (i : Nat) {p2 p3 p4 : Pos} (hN : X.N[i]? = some y) (hv : Vis X.env.scope y) (he : PD X W e fe) (hbase : attributeBase (.Name y p2) "pop" X.env (eval (.Name y p2) X.env) = eval (.Name y p2) X.env)
    (hfew : ((backTo p4 (starEach [e] X.env)).all (fun x => !x.1) && (backToKw p4 (keywordEach [] X.env)).all (fun x => x.1.isSome) && decide (([e] : List Expr).length + ([] : List Keyword).length + (if ([] : List Keyword).isEmpty then 0 else 1) < 30)) = true)
    (hline : (p3.endLine == p4.line) = true) (hs : starEach [e] X.env = (false, eval e X.env) :: starEach [] X.env) (hplain : (backTo p4 (starEach [] X.env)).any (·.1) = false)
    (hd : (y == ("__debug__" : Str)) = false := by decide) (hcd : (y == ("__classdict__" : Str)) = false := by decide) :
    PD X W (.Call (.Attribute (.Name y p2) "pop" p3) [e] [] p4) (popO i fe) :=
  let ⟨_, e1, e2⟩ := he.ex; ⟨_, pe_bm PySem.F.plainAttrs_list PySem.F.slot_list_pop PySem.F.type_list_pop mt_popAt (pe_var hN hv hd hcd) (pa_cons e1 pa_nil hs) hbase hfew hline hs hplain, TD.popO e2⟩
theorem d_neO (i : Nat) {p2 p3 : Pos} (hu : X.A.units + 64 < cLine) (hN : X.N[i]? = some y) (hv : Vis X.env.scope y) (hd : (y == ("__debug__" : Str)) = false := by decide) (hcd : (y == ("__classdict__" : Str)) = false := by decide) :
    PD X W (.Compare (.Name y p2) [.NotEq] [.List [] p3] pos) (neO i) := ⟨_, pe_cmpR (op_neD hu) (pe_var hN hv hd hcd) (pe_lst pa_nil) (nomark _), TD.neO⟩
theorem b_neO (i : Nat) {p2 p3 : Pos} (hu : X.A.units + 64 < cLine) (hN : X.N[i]? = some y) (hv : Vis X.env.scope y) (hd : (y == ("__debug__" : Str)) = false := by decide) (hcd : (y == ("__classdict__" : Str)) = false := by decide) :
    PB X W (.Compare (.Name y p2) [.NotEq] [.List [] p3] pos) (testE (neO i)) := ⟨_, pt_cmpR (op_neD hu) (pe_var hN hv hd hcd) (pe_lst pa_nil) (nomark _), TB.test TD.neO⟩
end
end DL

/-! The D layer, 11: passing on, reversed tuples, ranges as values, walks of either kind, sets of ints. -/
namespace DL
open PySem L2 PySem.W PySem.Calls PyProof.Rows

section
variable {P : Program} {w : World} {K : PySem.W.Frag} {mg : Str → Option Value} {base : Heap} {N : List Str} {qual : Str} {sc : Scope} {f : Addr} {cdv : Value} {A : Around} {outer : List Env} {s : Shared} {H : Hp} {E : XK}
theorem takesF : Takes (cxOf (L2.CX P w) P w K mg base N qual sc f cdv A outer s H E) (fun cls d _ H' => E cls d H') := takes_of rfl rfl rfl rfl
theorem passF : Passes (L2.CX P w) (cxOf (L2.CX P w) P w K mg base N qual sc f cdv A outer s H E) E := passes_call takesF (fun _ _ _ _ h => h)
theorem ownF : PassesOwn (model P w) (cxOf (L2.CX P w) P w K mg base N qual sc f cdv A outer s H E).A (cxOf (L2.CX P w) P w K mg base N qual sc f cdv A outer s H E).env (cxOf (L2.CX P w) P w K mg base N qual sc f cdv A outer s H E).xe := passes_of rfl
end
theorem passL {X : Cx} : Passes (L2.CX X.prog X.w) X E00 := passes_call (takes0 (X := X)) (fun _ _ _ _ h => h)
theorem bb_len : bootBuiltins "len" = some (.builtin "len") := boot_len
theorem bb_isinstance : bootBuiltins "isinstance" = some (.builtin "isinstance") := boot_isinstance
theorem bb_all : bootBuiltins "all" = some (.builtin "all") := boot_all
theorem bb_any : bootBuiltins "any" = some (.builtin "any") := boot_any
theorem bb_sorted : bootBuiltins "sorted" = some (.builtin "sorted") := boot_sorted
theorem bb_tuple : bootBuiltins "tuple" = some (.type "tuple") := boot_tuple
theorem bb_list : bootBuiltins "list" = some (.type "list") := boot_list
theorem bb_int : bootBuiltins "int" = some (.type "int") := boot_int
theorem bb_bool : bootBuiltins "bool" = some (.type "bool") := boot_bool
theorem bb_str : bootBuiltins "str" = some (.type "str") := boot_str
theorem bb_set : bootBuiltins "set" = some (.type "set") := boot_set
theorem bb_dict : bootBuiltins "dict" = some (.type "dict") := boot_dict
theorem bb_range : bootBuiltins "range" = some (.type "range") := boot_range

section
variable {X : Cx} {W : XK} {a b c e : Expr} {fa fb fc fe : EM D} {pos : Pos} {K : PySem.W.Frag} {mg : Str → Option Value} {Hf H : Hp}
theorem s_retN : PSD X W (.Return none pos) retNS := ⟨_, ps_retN, TSD.retN⟩
end

/-! ### x[::-1] of a tuple or a list -/
section
variable {prog : Program} {w : World} {A : Around} {E : Value → Shared → Prop} {s : Shared}
theorem adjRev (n : Nat) : Builtin.Slice.sliceAdjust none none (-1) (n : Int) = ((n : Int) - 1, -1) := rfl
theorem plcRev (n : Nat) : Builtin.Slice.slicePlaces ((n : Int) - 1) (-1) (-1) = n := by
  unfold Builtin.Slice.slicePlaces
  rw [if_neg (by decide)]
  by_cases h : (n : Int) - 1 > -1
  · rw [if_pos h, show (-(-1 : Int)) = 1 from rfl, Int.ediv_one]; omega
  · rw [if_neg h]; omega
theorem applRev {sl : Addr} {u : Tok} {n : Nat} {Q : Int × Int × Nat → Shared → Prop} (hs : s.heap.IsSliceOf sl .none .none (.int (-1) u)) (h : Q ((n : Int) - 1, -1, n) s) :
    wpAny (model prog w) A (Builtin.Slice.sliceApplied (.ref sl) (pure (n : Int))) Q E s := by
  obtain ⟨o1, g1, _, g2⟩ := id hs
  unfold Builtin.Slice.sliceApplied Builtin.Slice.sliceFields
  refine wpAny_bind (wpAny_bind (wpAny_field g1 g2 (x := .none) rfl (wpAny_bind (wpAny_field g1 g2 (x := .none) rfl (wpAny_bind (wpAny_field g1 g2 (x := .int (-1) u) rfl (wpAny_pure ?_)))))))
  refine wpAny_bind (slicePart_int ?_)
  show wpAny _ _ (if ((-1 : Int) == 0) = true then _ else _) _ _ s
  rw [if_neg (by decide)]
  refine wpAny_bind (slicePart_none (wpAny_bind (slicePart_none (wpAny_bind (wpAny_pure ?_)))))
  show wpAny _ _ (match Builtin.Slice.sliceAdjust none none (-1) (n : Int) with | (i, j) => pure (i, (-1 : Int), Builtin.Slice.slicePlaces i j (-1))) _ _ s
  rw [adjRev n]
  show wpAny _ _ (pure ((n : Int) - 1, (-1 : Int), Builtin.Slice.slicePlaces ((n : Int) - 1) (-1) (-1))) _ _ s
  rw [plcRev n]
  exact wpAny_pure h
theorem fm_congr {α β : Type} {f g : α → Option β} : ∀ {l : List α}, (∀ k ∈ l, f k = g k) → l.filterMap f = l.filterMap g
  | [], _ => rfl
  | a :: l, h => by rw [List.filterMap_cons, List.filterMap_cons, h a List.mem_cons_self, fm_congr fun k hk => h k (List.mem_cons_of_mem _ hk)]
theorem filt_rev (l : List Value) : ∀ n, n = l.length → (List.range n).filterMap (fun k => l[n - 1 - k]?) = l.reverse := by
  intro n hn
  subst hn
  apply List.ext_getElem?
  intro i
  have e : (List.range l.length).filterMap (fun k => l[l.length - 1 - k]?) = (List.range l.length).map fun k => l.getD (l.length - 1 - k) .none := by
    rw [← List.filterMap_eq_map]
    refine fm_congr fun k hk => ?_
    have hk' := List.mem_range.mp hk
    have hlt : l.length - 1 - k < l.length := by omega
    show l[l.length - 1 - k]? = some (l.getD (l.length - 1 - k) .none)
    rw [List.getD_eq_getElem?_getD, List.getElem?_eq_getElem hlt]; rfl
  rw [e, List.getElem?_map]
  by_cases hi : i < l.length
  · have hlt : l.length - 1 - i < l.length := by omega
    rw [List.getElem?_range hi, List.getElem?_reverse hi, List.getElem?_eq_getElem hlt, Option.map_some, List.getD_eq_getElem?_getD, List.getElem?_eq_getElem hlt]; rfl
  · rw [List.getElem?_eq_none (by simp; omega), List.getElem?_eq_none (by simp; omega)]; rfl
theorem pickRev (xs : Array Value) : ((List.range xs.size).filterMap fun (k : Nat) => xs[((xs.size : Int) - 1 + (k : Int) * -1).toNat]?).toArray = xs.toList.reverse.toArray := by
  rw [← filt_rev xs.toList xs.size (by simp)]
  congr 1
  refine fm_congr fun k hk => ?_
  have hk' := List.mem_range.mp hk
  have : ((xs.size : Int) - 1 + (k : Int) * -1).toNat = xs.size - 1 - k := by omega
  rw [this, Array.getElem?_toList]
theorem getRevT {t sl : Addr} {items : Array Value} {u : Tok} {Q : Value → Shared → Prop} (ht : IsTup s.heap t items) (hs : s.heap.IsSliceOf sl .none .none (.int (-1) u))
    (h : Q (.ref s.heap.objs.size) { s with heap := s.heap.push { cls := .type "tuple", data := .seq items.toList.reverse.toArray } }) (hz : items.size ≤ sizeLine) : wpAny (model prog w) A (getItem (.ref t) (.ref sl)) Q E s := by
  have room : sizeOk (.seq items.toList.reverse.toArray) := by show items.toList.reverse.toArray.size ≤ sizeLine; simpa using hz
  obtain ⟨o1, g1, g0, g2⟩ := id hs
  unfold getItem
  try with_reducible refine wpAny_holding ?_
  first | refine wpAny_bind (wpAny_pure ?_) | skip
  refine wpAny_bind (wpAny_sequenceKey ht.typeIs (by decide) ?_)
  refine wpAny_bind (wpAny_callSpecial?_slot (name := Str.ofString "__getitem__") ht.typeIs slot_tuple_getitem (wpAny_call_entry slot_tuple_getitem ht.typeIs entry_tuple_getitem ?_ (args_tuple_getitem _ _)))
  show wpAny _ _ (Builtin.Tuple.tupleItemsOf (.ref t) >>= _) _ _ s
  refine wpAny_bind (tupleItemsOf_ ht (wpAny_bind (wpAny_typeOf (T := "slice") ⟨o1, g1, g0⟩ ?_)))
  rw [if_pos (by decide)]
  refine wpAny_bind (applRev hs ?_)
  show wpAny _ _ (if (((items.size : Int) - 1) == 0 && (-1 : Int) == 1 && items.size == items.size) = true then _ else _) _ _ s
  rw [if_neg (by simp), pickRev items]
  first
    | exact wpAny_bind (m := Builtin.Tuple.tupleExact _) (wpAny_newObj_type (wpAny_pure ⟨_, rfl, wpAny_pure h⟩) room)
    | exact wpAny_bind (m := Builtin.Tuple.tupleExact _) (wpAny_newObj_type (wpAny_bind (wpAny_pure (wpAny_pure ⟨_, rfl, wpAny_pure h⟩))) room)
    | exact wpAny_bind (wpAny_bind (m := Builtin.Tuple.tupleExact _) (wpAny_newObj_type (wpAny_pure (wpAny_pure ⟨_, rfl, wpAny_pure h⟩)) room))
    | exact wpAny_bind (wpAny_bind (m := Builtin.Tuple.tupleExact _) (wpAny_newObj_type (wpAny_pure ⟨_, rfl, wpAny_pure h⟩) room))
end
section
variable {X : Cx} {W : XK} {a b c e : Expr} {fa fb fc fe : EM D} {pos : Pos} {K : PySem.W.Frag} {mg : Str → Option Value} {Hf H : Hp} {te : TE}
def tRevA (K : PySem.W.Frag) (te : TE) : TE := fun σ H Q => te σ H fun x H1 => ∃ a xs, x = .ref a ∧ (SqL K H1 a xs ∧ (∀ p, H1 p = none → Q (.ref p) (upd H1 p (.lst xs.reverse))) ∨ SqT K H1 a xs ∧ ∀ p o, H1 p = none → o.dict = none → Q (.ref p) (upd H1 p (.frz o (.tup xs.reverse))))
theorem pe_revA {k : Nat} {p1 p2 p3 : Pos} (he : PE X e te) : PE X (.Subscript e (.Slice none none (some (.UnaryOp .USub (.Constant (.int 1) k p1) p2)) p3) pos) (tRevA X.K te) := by
  refine ⟨fun pins s σ H Q I h => Subscript_ (thn (he.run pins s σ H _ I h) fun v s1 ⟨x, H1, I1, r1, a, xs, ex, q⟩ => ?_)⟩
  subst ex
  cases r1
  have step : PO X (some (.UnaryOp .USub (.Constant (.int 1) k p1) p2)) (tPart (tUn (rU fun i => .int (-i)) (tC (.int 1)))) := po_some (pe_un un_neg pe_int)
  refine wpAny_Slice (thn (po_none.run pins s1 σ H1 (fun o G => o = none ∧ G = H1) I1 ⟨rfl, rfl⟩) fun vl s2 ⟨l, H2, I2, pl, el, e2⟩ => ?_)
  subst el e2
  refine thn (po_none.run pins s2 σ H2 (fun o G => o = none ∧ G = H2) I2 ⟨rfl, rfl⟩) fun vu s3 ⟨l3, H3, I3, pu, eu, e3⟩ => ?_
  subst eu e3
  refine thn (step.run pins s3 σ H3 (fun o G => o = some (-1) ∧ G = H3) I3 ⟨1, rfl, -1, rfl, rfl, rfl⟩) fun vs s4 ⟨o4, H4, I4, ps, eo, e4⟩ => ?_
  subst eo e4
  have I5 : Inv X pins σ H4 { s4 with heap := s4.heap.push { cls := .type "slice", data := .fields #[vl, vu, vs] } } := I4.kept (t' := s4.toks) fun b ob q => Heap.get?_push_of_some _ q
  show wpAny (model X.prog X.w) X.A (subscriptTail e (.Slice none none (some (.UnaryOp .USub (.Constant (.int 1) k p1) p2)) p3) (.ref a) (.ref s4.heap.objs.size)) (EP X pins σ Q) X.xe { s4 with heap := s4.heap.push { cls := .type "slice", data := .fields #[vl, vu, vs] } }
  rcases q with ⟨hx, q⟩ | ⟨hx, q⟩
  · obtain ⟨its, r, ht, hz⟩ := I5.list hx
    have hlen := r.length
    refine tail_any (ops := [.ref a, .ref s4.heap.objs.size]) ht.isList.typeIs slot_list_getitem.lookup ?_ (by with_unfolding_all rfl)
    refine wpAny_getItem_list_slice ht.isList (Heap.IsSliceOf.new _ vl vu vs) pl pu ps (by decide) ?_ (by rw [List.size_toArray]; omega)
    rw [krv_pick]
    exact ⟨.ref _, _, I5.laid (t' := s4.toks) (o := .lst xs.reverse) (fun b ob q => Heap.get?_push_of_some _ q) (Nat.le_refl _) ⟨by rw [List.length_reverse]; exact hz, _, 0, r.reverse, Heap.get?_push_size _ rfl⟩, rfl, q _ (I5.hok.fresh (Nat.le_refl _))⟩
  · obtain ⟨its, r, ht, hz⟩ := I5.tuple hx
    have hlen := r.length
    cases pl
    cases pu
    cases ps with
    | int i tk =>
    refine tail_any (ops := [.ref a, .ref s4.heap.objs.size]) ht.typeIs slot_tuple_getitem.lookup ?_ (by with_unfolding_all rfl)
    refine getRevT ht (Heap.IsSliceOf.new _ _ _ _) ?_ (by rw [List.size_toArray]; omega)
    exact ⟨.ref _, _, I5.laid (t' := s4.toks) (o := .frz _ (.tup xs.reverse)) (fun b ob q => Heap.get?_push_of_some _ q) (Nat.le_refl _) ⟨Heap.get?_push_size _ rfl, by rw [List.length_reverse]; exact hz, _, r.reverse, IsTup.new _ _⟩, rfl, q _ _ (I5.hok.fresh (Nat.le_refl _)) rfl⟩
def revA : D → Option D
  | .lst ds => some (.lst ds.reverse)
  | .tup ds => some (.tup ds.reverse)
  | _ => none
theorem TD.revA (he : TD K mg W te fe) : TD K mg W (tRevA K te) (un1 DL.revA fe) := by
  intro Hf σ ρ H S Q h
  refine he Hf σ ρ H S _ ((Wp.bind h).mono fun d ρ1 h1 v Hf1 H1 s1 S1 r1 => ?_)
  obtain ⟨dz, e, h2⟩ := Wp.lift h1
  match d, e, r1 with
  | .lst ds, e, r1 =>
    obtain ⟨a, vs, rfl, g1, g2⟩ := rep_lst r1
    cases e
    refine ⟨a, vs, rfl, .inl ⟨rdSeq S1.sub g1, fun p hp => ?_⟩⟩
    obtain ⟨n, r⟩ := lay_lst S1.sub hp (reps_rev g2)
    exact h2 _ _ _ (s1.trans n.stp) (n.sr S1) r
  | .tup ds, e, r1 =>
    obtain ⟨a, vs, rfl, g1, g2⟩ := rep_tup r1
    cases e
    refine ⟨a, vs, rfl, .inr ⟨Same.sqT S1.sub g1, fun p o hp ho => ?_⟩⟩
    obtain ⟨n, r⟩ := lay_tup S1.sub hp ho (reps_rev g2)
    exact h2 _ _ _ (s1.trans n.stp) (n.sr S1) r
theorem d_rev {k : Nat} {p1 p2 p3 : Pos} (he : PD X W e fe) : PD X W (.Subscript e (.Slice none none (some (.UnaryOp .USub (.Constant (.int 1) k p1) p2)) p3) pos) (un1 revA fe) := let ⟨_, a1, a2⟩ := he.ex; ⟨_, pe_revA a1, TD.revA a2⟩

/-! ### list(range(n)), tuple(range(n)) -/
def rg1 (d : D) : Option (List D) := match d with
  | .int n => if smallI n then some (rngD 0 n.toNat) else none
  | _ => none
def tupRgE (fe : EM D) : EM D := bindM fe fun d => liftO ((rg1 d).map .tup)
def lstRgE (fe : EM D) : EM D := bindM fe fun d => liftO ((rg1 d).map .lst)
theorem reps_rg {n : Int} : Reps K Hf (rngD 0 n.toNat) (rgV 0 n) := by
  unfold rngD rgV
  rw [Int.sub_zero]
  induction List.range n.toNat with
  | nil => simp [Reps]
  | cons i l ih => exact reps_cons (by unfold Rep; rfl) ih
theorem rgOk_small {n : Int} (h : smallI n = true) : RgOk 0 n := by
  obtain ⟨h1, h2⟩ := smallI_ok h
  have : n ≤ 1000000 := by unfold smallI at h; simp at h; omega
  exact ⟨by decide, by decide, h1, h2, by omega⟩
theorem rg1_inv {d : D} {l : List D} (h : rg1 d = some l) : ∃ n, d = .int n ∧ smallI n = true ∧ l = rngD 0 n.toNat := by
  unfold rg1 at h
  split at h
  · split at h
    · cases h; exact ⟨_, rfl, by assumption, rfl⟩
    · cases h
  · cases h
theorem map_inv {α β : Type} {o : Option α} {f : α → β} {b : β} (h : o.map f = some b) : ∃ a, o = some a ∧ b = f a := by
  cases o with
  | none => cases h
  | some a => cases h; exact ⟨a, rfl, rfl⟩
theorem TD.tupRg (he : TD K mg W te fe) : TD K mg W (tTupRgX (tRg1 te)) (tupRgE fe) := by
  intro Hf σ ρ H S Q h
  refine he Hf σ ρ H S _ ((Wp.bind h).mono fun d ρ1 h1 v Hf1 H1 s1 S1 r1 => ?_)
  obtain ⟨dz, e, h2⟩ := Wp.lift h1
  obtain ⟨l, e1, rfl⟩ := map_inv e
  obtain ⟨n, rfl, hn, rfl⟩ := rg1_inv e1
  unfold Rep at r1
  refine ⟨n, r1, rgOk_small hn, fun p o hp ho => ?_⟩
  obtain ⟨n, r⟩ := lay_tup S1.sub hp ho reps_rg
  exact h2 _ _ _ (s1.trans n.stp) (n.sr S1) r
theorem TF.lstRg (he : TD K mg W te fe) : TF K mg W (tLstRg (tRg1 te)) (lstRgE fe) := by
  intro Hf σ ρ H S Q h
  refine he Hf σ ρ H S _ ((Wp.bind h).mono fun d ρ1 h1 v Hf1 H1 s1 S1 r1 => ?_)
  obtain ⟨dz, e, h2⟩ := Wp.lift h1
  obtain ⟨l, e1, rfl⟩ := map_inv e
  obtain ⟨n, rfl, hn, rfl⟩ := rg1_inv e1
  unfold Rep at r1
  refine ⟨n, r1, rgOk_small hn, fun p hp => ?_⟩
  have m : New Hf1 H1 Hf1 (upd H1 p (.lst (rgV 0 n))) := New.fresh S1.sub hp
  refine h2 p Hf1 _ (s1.trans m.stp) (m.sr S1) ?_ (none_sub S1.sub hp) ⟨_, upd_same, reps_rg⟩ (fresh_no S1 hp)
  cases e : H p with
  | none => rfl
  | some o => exact absurd hp (s1.there p (by rw [e]; simp))
section
variable {p p2 q : Pos}
theorem d_tupRg (hg : Gl X "tuple") (hm : X.mg "tuple" = none) (hg2 : Gl X "range") (hm2 : X.mg "range" = none) (ha : PD X W a fa) (n1 : starEach [a] X.env = (false, eval a X.env) :: starEach [] X.env)
    (n2 : starEach [.Call (.Name "range" p2) [a] [] q] X.env = (false, eval (.Call (.Name "range" p2) [a] [] q) X.env) :: starEach [] X.env) (hc : X.calm = true := by rfl) : PD X W (.Call (.Name "tuple" p) [.Call (.Name "range" p2) [a] [] q] [] pos) (tupRgE fa) :=
  let ⟨_, a1, a2⟩ := ha.ex; ⟨_, pe_tupRgX hc hg hm (prg_1 hg2 hm2 a1 n1) n2, TD.tupRg a2⟩
theorem f_lstRg (hg : Gl X "list") (hm : X.mg "list" = none) (hg2 : Gl X "range") (hm2 : X.mg "range" = none) (ha : PD X W a fa) (n1 : starEach [a] X.env = (false, eval a X.env) :: starEach [] X.env)
    (n2 : starEach [.Call (.Name "range" p2) [a] [] q] X.env = (false, eval (.Call (.Name "range" p2) [a] [] q) X.env) :: starEach [] X.env) (hc : X.calm = true := by rfl) : PF X W (.Call (.Name "list" p) [.Call (.Name "range" p2) [a] [] q] [] pos) (lstRgE fa) :=
  let ⟨_, a1, a2⟩ := ha.ex; ⟨_, pe_listRg hc hg hm (prg_1 hg2 hm2 a1 n1) n2, TF.lstRg a2⟩
end

/-! ### a walk over a list or a tuple -/
def iSeq (K : PySem.W.Frag) (te : TE) : TI := fun σ H R => te σ H fun x H1 => ∃ a, x = .ref a ∧ ((∃ xs, SqL K H1 a xs) ∧ R (Itl K a) H1 ∨ (∃ xs, SqT K H1 a xs) ∧ R (Itt K a) H1 ∨ ∃ o vs, H1 a = some (.frz o (.dK vs)) ∧ R (Itk a o vs) H1)
theorem pi_seq {tg : Expr} (he : PE X e te) : PI X tg e (iSeq X.K te) := by
  refine ⟨fun pins s σ H R I h => thn (he.run pins s σ H _ I h) fun v s1 ⟨x, H1, I1, r1, a, ex, q⟩ => ?_⟩
  subst ex
  cases r1
  have fp : ∀ b ∈ [s1.heap.objs.size], b = s1.heap.objs.size := fun b hb => by simpa using hb
  rcases q with ⟨⟨xs, hq⟩, q⟩ | ⟨⟨xs, hq⟩, q⟩ | ⟨od, vs, hq, q⟩
  · obtain ⟨its, rv, pl, hz⟩ := I1.list hq
    refine wpAny_pyIter_list pl.isList ⟨s1.heap.objs.size, [s1.heap.objs.size], _, _, H1, rfl, I1.kept (t' := s1.toks) fun b o z => Heap.get?_push_of_some _ z, turn_list a _, ⟨_, Heap.get?_push_size _ rfl, rfl, rfl⟩, fun b hb => ?_, q⟩
    cases fp b hb
    exact I1.fpOk (Nat.le_refl _) (I1.hok.fresh (Nat.le_refl _))
  · obtain ⟨its, rv, pl, hz⟩ := I1.tuple hq
    refine wpAny_pyIter_tuple (show s1.heap.IsTuple a its.toArray from pl) ⟨s1.heap.objs.size, [s1.heap.objs.size], _, _, H1, rfl, I1.kept (t' := s1.toks) fun b o z => Heap.get?_push_of_some _ z, turn_tuple a _, ⟨_, Heap.get?_push_size _ rfl, rfl, rfl⟩, fun b hb => ?_, q⟩
    cases fp b hb
    exact I1.fpOk (Nat.le_refl _) (I1.hok.fresh (Nat.le_refl _))
  · obtain ⟨g1, g2, g3, _, _, _, g6, g7, _, _⟩ := I1.frzK hq
    exact iter_keys g1 g2 g3 g6 (pi_one (tk := s1.toks) I1 _ (turn_keys _ g6) ⟨_, Heap.get?_push_size _ rfl, rfl, by rw [g7] <;> rfl⟩ q)
theorem rep_key {d : D} {k : Key} (h : keyD d = some k) : Rep K Hf d (kV k) := by
  cases d <;> simp [keyD] at h <;> subst h <;> unfold Rep <;> rfl
theorem repk_get : ∀ {kvs : List (D × D)} {vs : List (Key × V)} {i : Nat} {d : D}, Repk K Hf kvs vs → (kvs.map (·.1))[i]? = some d → ∃ k v, vs[i]? = some (k, v) ∧ keyD d = some k
  | [], vs, i, d, r, h => by simp at h
  | (ke, e) :: kvs, vs, i, d, r, h => by
    unfold Repk at r
    obtain ⟨k', u, r', rfl, h1, h2, h3⟩ := r
    cases i with
    | zero =>
      have : ke = d := by simpa using h
      subst this
      exact ⟨k', u, rfl, h1⟩
    | succ i =>
      rw [List.map_cons, List.getElem?_cons_succ] at h
      obtain ⟨k2, v2, q1, q2⟩ := repk_get h3 h
      exact ⟨k2, v2, by rw [List.getElem?_cons_succ]; exact q1, q2⟩
theorem itd_keys {a : Addr} {o : Obj} {vs : List (Key × V)} {kvs : List (D × D)} (h : Hf a = some (.frz o (.dK vs))) (r : Repk K Hf kvs vs) : Itd K (Itk a o vs) Hf (kvs.map (·.1)) where
  go := fun i d Hf1 H1 s1 s2 e => by
    obtain ⟨k, v, g1, g2⟩ := repk_get r e
    refine ⟨⟨s2 _ _ (s1 _ _ h), (List.getElem?_eq_some_iff.mp g1).1⟩, fun x H2 ⟨e2, k', v', g3, ex⟩ => ?_⟩
    rw [g1] at g3
    cases g3
    subst e2 ex
    exact ⟨Hf1, New.refl s2, rep_key g2⟩
  stop := fun Hf1 H1 s1 s2 => ⟨s2 _ _ (s1 _ _ h), by rw [List.length_map, repk_len r]; exact Nat.le_refl _⟩
def seqI (fe : EM D) : EM (List D) := bindM fe fun d => liftO (match d with | .lst ds => some ds | .tup ds => some ds | .dct kvs => some (kvs.map (·.1)) | _ => none)
theorem TID.seq (he : TD K mg W te fe) : TID K mg W (iSeq K te) (seqI fe) := by
  intro Hf σ ρ H S R h
  refine he Hf σ ρ H S _ ((Wp.bind h).mono fun d ρ1 h1 v Hf1 H1 s1 S1 r1 => ?_)
  obtain ⟨ds, e, h2⟩ := Wp.lift h1
  match d, e, r1 with
  | .tup es, e, r1 =>
    cases e
    obtain ⟨a, vs, rfl, g1, g2⟩ := rep_tup r1
    exact ⟨a, rfl, .inr (.inl ⟨⟨vs, Same.sqT S1.sub g1⟩, h2 _ Hf1 H1 s1 S1 (itd_tup g1 g2)⟩)⟩
  | .dct kvs, e, r1 =>
    cases e
    obtain ⟨a, o, vs, rfl, g1, g2⟩ := rep_dct r1
    exact ⟨a, rfl, .inr (.inr ⟨o, vs, S1.sub _ _ g1, h2 _ Hf1 H1 s1 S1 (itd_keys g1 g2)⟩)⟩
  | .lst es, e, r1 =>
    cases e
    obtain ⟨a, vs, rfl, g1, g2⟩ := rep_lst r1
    exact ⟨a, rfl, .inl ⟨⟨vs, rdSeq S1.sub g1⟩, h2 _ Hf1 H1 s1 S1 (itd_list g1 g2)⟩⟩
theorem i_seq {tg : Expr} (he : PD X W e fe) : PID X W tg e (seqI fe) := let ⟨_, a1, a2⟩ := he.ex; ⟨_, pi_seq a1, TID.seq a2⟩
end
end DL

/-! The D layer, 12: sorted(set(ints)), len(set(ints)). -/
namespace DL
open PySem L2 PySem.W PySem.Calls PyProof.Rows

/-- the empty set, just made -/
abbrev set00 (w : World) : Obj := { cls := .type "set", dict := none, data := .set #[] 0 (.fresh 0 0 (!w.params.followText "set-order")) }
section
variable {P : Program} {w : World} {A : Around} {E : Value → Shared → Prop} {s : Shared}
set_option maxHeartbeats 3200000 in
theorem setLst {l : Addr} {xs : Array Value} (ns : List Int) {Q : Value → Shared → Prop} (hh : A.handled = none) (hl : s.heap.IsList l xs) (hi : IntsAre xs.toList ns) (room : ns.length + 1 < scanBound)
    (h : ∀ (h' : Heap) (tk c : Nat), SetR w h' s.heap.objs.size (fun j => decide (j ∈ ns)) c → c ≤ ns.length → (∀ b o, s.heap.get? b = some o → h'.get? b = some o) → Q (.ref s.heap.objs.size) { s with heap := h', toks := tk }) :
    wpAny (model P w) A (call (.type "set") [.ref l]) Q E s := by
  have hxs : xs.size = ns.length := by rw [← Array.length_toList]; exact IntsAre.length hi
  obtain ⟨c0, t0, g0⟩ := F.called_set.mro
  have g1 := F.called_set.made
  have g2 := F.called_set.sub
  have g3 := F.called_set.notType
  have g4 := F.called_set.canCreate
  have g5 := F.typeCall_set_1 (.ref l)
  refine wpAny_call (codeAny_of_tree ?_)
  show wpAny _ _ (callAny (.type "set") _) _ _ _
  refine wpAny_pure ⟨Code.quiet_builtin _ (by decide +kernel), codeAny_builtin F.entry_type_call ?_⟩
  rw [Around.under_plain (weight_type_call_type "set" [.ref l] []) rfl]
  repeat (any_goals (first | assumption | wp_step))
  refine codeAny_mono (code_set_led1 (.ref l) (E := E) (Q₁ := fun z z1 => z = .ref s.heap.objs.size ∧ z1 = { s with heap := s.heap.push (set00 w) }) ⟨rfl, rfl⟩) fun r s₁ hr => ?_
  cases r with
  | error e => exact hr
  | ok fl =>
    cases fl with
    | ret obj =>
      obtain ⟨rfl, rfl⟩ := hr
      have n0 : (s.heap.push (set00 w)).get? s.heap.objs.size = some (set00 w) := Heap.get?_push_size _ rfl
      have hT : Shared.TypeIs { s with heap := s.heap.push (set00 w) } (.ref s.heap.objs.size) "set" := ⟨_, n0, rfl⟩
      have hli := F.called_set.init.lookup
      have hbi := F.called_set.init.bind (.ref s.heap.objs.size)
      repeat (any_goals (first | assumption | wp_step))
      refine codeAny_mono (codeAny_call_builtin (R := wants (fun r z => r = .none ∧ ∃ h' tk c, z = { s with heap := h', toks := tk } ∧ SetR w h' s.heap.objs.size (fun j => decide (j ∈ ns)) c ∧ c ≤ ns.length ∧ (∀ b o, s.heap.get? b = some o → h'.get? b = some o)) E)
        F.called_set.init.plain F.entry_set_init (check_set_init_1 hT ?_)) fun r₂ s₂ hr₂ => ?_
      · obtain ⟨ol, hol, hcl, nl, hdl⟩ := hl
        obtain ⟨ocls, odict, odata, oslots⟩ := ol
        simp only at hcl hdl
        subst hcl; subst hdl
        have q0 : (s.heap.push (set00 w)).get? l = some { cls := .type "list", dict := odict, data := .seq xs nl, slots := oslots } := Heap.get?_push_of_some _ hol
        have q1 := F.sub_list_set
        have q2 := F.sub_list_frozenset
        have q3 : (Value.type "list" == Value.type "dict") = false := by decide
        have q4 : (s.heap.push (set00 w)).IsList l xs := ⟨_, q0, rfl, nl, rfl⟩
        unfold Builtin.«set.__init__» noKeywords Builtin.Frozenset.updateFrom
        generalize hPI : pyIter = PI
        wp_walk
        subst hPI
        refine wpAny_pyIter_list q4 (wpAny_bind (wpAny_runValue ?_))
        have lt0 : l < s.heap.objs.size := Heap.lt_size hol
        have hA : A.in1.in1.in1.handled = none := by simp [hh]
        have sz1 : (s.heap.push (set00 w)).objs.size = s.heap.objs.size + 1 := Heap.size_push ..
        have ne1 : l ≠ (s.heap.push (set00 w)).objs.size := fun z => Nat.lt_irrefl l (by have := Nat.lt_succ_of_lt lt0; rw [sz1] at z; exact z ▸ this)
        have no1 : s.heap.objs.size ∉ [(s.heap.push (set00 w)).objs.size, l] := by
          intro z
          rcases List.mem_cons.mp z with z | z
          · rw [sz1] at z; exact Nat.ne_of_lt (Nat.lt_succ_self _) z
          · exact Nat.ne_of_gt lt0 (List.mem_singleton.mp z)
        have at1 : ∀ (i : Nat) (v : Value), xs[i]? = some v → ∃ k t, ns[i]? = some k ∧ v = .int k t := fun i v hv => by
          have hi' : i < ns.length := by rw [← hxs]; exact (Array.getElem?_eq_some_iff.mp hv).1
          obtain ⟨t, e⟩ := PyProof.Rows.IntsAre.int_at hi i v (by rw [Array.getElem?_toList]; exact hv)
          rw [List.getD_eq_getElem?_getD, List.getElem?_eq_getElem hi'] at e
          exact ⟨ns[i], t, List.getElem?_eq_getElem hi', e⟩
        refine set_update_ints ((Walks.list hA _ l ne1 xs).toS) s.heap.objs.size no1 ns hxs room at1 (xs.size - 0) 0 _ (by omega) (Nat.zero_le _) ⟨⟨_, Heap.get?_push_size _ rfl, rfl, rfl⟩, (q4.push _)⟩ ?_ fun s' c' hm hc' hS' => ?_
        · exact ⟨0, Nat.le_refl 0, setR_new_at (Heap.get?_push_of_some _ n0)⟩
        · obtain ⟨h', g', d', tk', os'⟩ := s'
          obtain rfl : g' = s.gens := hm.gens
          obtain rfl : d' = s.drawn := hm.drawn
          obtain rfl : os' = s.os := hm.os
          show wpAny _ _ _ _ _ _
          refine wpAny_pure ?_
          show wpAny _ _ (ret Value.none) _ _ _
          rw [hxs] at hc'
          refine wpAny_pure ⟨rfl, h', tk', c', rfl, hS', hc', fun b o e => ?_⟩
          have hb0 : b < s.heap.objs.size := Heap.lt_size e
          exact hm.heap b o (fun z => by
            rcases List.mem_cons.mp z with z | z
            · exact Nat.ne_of_lt hb0 z
            · have z2 := List.mem_singleton.mp z
              rw [sz1] at z2
              exact Nat.ne_of_lt (Nat.lt_succ_of_lt hb0) z2) (Heap.get?_push_of_some _ (Heap.get?_push_of_some _ e))
      · cases r₂ with
        | error e => exact hr₂
        | ok fl₂ =>
          cases fl₂ with
          | ret r =>
            obtain ⟨rfl, h', tk, c', rfl, a1, a2, a3⟩ := hr₂
            repeat (any_goals (first | assumption | wp_step))
            exact h _ _ _ a1 a2 a3
          | _ => exact hr₂.elim
    | _ => exact hr.elim
end
section
variable {X : Cx} {W : XK} {a b c e : Expr} {fa fb fc fe : EM D} {pos : Pos} {K : PySem.W.Frag} {mg : Str → Option Value} {Hf H : Hp} {te : TE} {p p2 q : Pos}
/-- set(xs), xs a list or a tuple of ints: the set, held by nobody -/
theorem setSeq {pins : List (Addr × Obj)} {σ : L2.St} {s1 : Shared} {Q : Value → Shared → Prop} {E : Value → Shared → Prop} {l : Addr} {ns : List Int} (hc : X.calm = true) (I : Inv X pins σ H s1) (hq : SqL X.K H l (ns.map V.int) ∨ SqT X.K H l (ns.map V.int)) (hn : ns.length ≤ 4000)
    (h : ∀ (b : Addr) (s2 : Shared) (c : Nat), Inv X pins σ H s2 → SetR X.w s2.heap b (fun j => decide (j ∈ ns)) c → c ≤ ns.length → Q (.ref b) s2) : wpAny (model X.prog X.w) X.A (call (.type "set") [.ref l]) Q E s1 := by
  rcases hq with hq | hq
  · obtain ⟨its, r, pl, hz⟩ := I.list hq
    exact setLst ns (I.ok.hd hc) pl.isList (by simpa using RZ.intsAre_vals r) (by unfold scanBound; omega) fun h' tk c R hcn k => h _ _ c (I.kept k) R hcn
  · obtain ⟨its, r, pl, hz⟩ := I.tuple hq
    exact call_set_tupI ns (I.ok.hd hc) (show s1.heap.IsTuple l its.toArray from pl) (by simpa using RZ.intsAre_vals r) (by unfold scanBound; omega) fun h' tk c R hcn k => h _ _ c (I.kept k) R hcn
/-- ints in order, each once -/
def insU (k : Int) : List Int → List Int
  | [] => [k]
  | j :: l => if k < j then k :: j :: l else if k = j then j :: l else j :: insU k l
def sortU : List Int → List Int
  | [] => []
  | k :: l => insU k (sortU l)
theorem mem_insU {k j : Int} : ∀ {l : List Int}, j ∈ insU k l ↔ j = k ∨ j ∈ l
  | [] => by simp [insU]
  | x :: l => by
    unfold insU
    split
    · simp
    · split
      · rename_i h; subst h; simp
      · rw [List.mem_cons, List.mem_cons, mem_insU]
        constructor
        · rintro (h | h | h)
          · exact .inr (.inl h)
          · exact .inl h
          · exact .inr (.inr h)
        · rintro (h | h | h)
          · exact .inr (.inl h)
          · exact .inl h
          · exact .inr (.inr h)
theorem mem_sortU {j : Int} : ∀ {l : List Int}, j ∈ sortU l ↔ j ∈ l
  | [] => by simp [sortU]
  | x :: l => by unfold sortU; rw [mem_insU, mem_sortU, List.mem_cons]
theorem insU_pw {k : Int} : ∀ {l : List Int}, l.Pairwise (· < ·) → (insU k l).Pairwise (· < ·)
  | [], _ => by simp [insU]
  | x :: l, h => by
    have h1 := List.pairwise_cons.mp h
    unfold insU
    split
    · rename_i lt
      refine List.pairwise_cons.mpr ⟨fun y hy => ?_, h⟩
      rcases List.mem_cons.mp hy with e | hy
      · exact e ▸ lt
      · exact Int.lt_trans lt (h1.1 y hy)
    · split
      · exact h
      · refine List.pairwise_cons.mpr ⟨fun y hy => ?_, insU_pw h1.2⟩
        rcases mem_insU.mp hy with e | hy
        · subst e; omega
        · exact h1.1 y hy
theorem sortU_pw : ∀ {l : List Int}, (sortU l).Pairwise (· < ·)
  | [] => .nil
  | _ :: l => insU_pw sortU_pw
theorem pw_uniq : ∀ {l m : List Int}, l.Pairwise (· < ·) → m.Pairwise (· < ·) → (∀ k, k ∈ l ↔ k ∈ m) → l = m
  | [], [], _, _, _ => rfl
  | [], x :: m, _, _, h => absurd ((h x).mpr List.mem_cons_self) (by simp)
  | x :: l, [], _, _, h => absurd ((h x).mp List.mem_cons_self) (by simp)
  | x :: l, y :: m, h1, h2, h => by
    have a1 := List.pairwise_cons.mp h1
    have a2 := List.pairwise_cons.mp h2
    have e : x = y := by
      rcases List.mem_cons.mp ((h x).mp List.mem_cons_self) with e | e
      · exact e
      · rcases List.mem_cons.mp ((h y).mpr List.mem_cons_self) with e2 | e2
        · exact e2.symm
        · have := a1.1 y e2
          have := a2.1 x e
          omega
    subst e
    rw [pw_uniq a1.2 a2.2 fun k => ⟨fun hk => ?_, fun hk => ?_⟩]
    · rcases List.mem_cons.mp ((h k).mp (List.mem_cons_of_mem _ hk)) with e | e
      · have := a1.1 k hk; omega
      · exact e
    · rcases List.mem_cons.mp ((h k).mpr (List.mem_cons_of_mem _ hk)) with e | e
      · have := a2.1 k hk; omega
      · exact e
def intsD : List D → Option (List Int)
  | [] => some []
  | .int k :: ds => (intsD ds).map (k :: ·)
  | _ => none
theorem ints_rep : ∀ {ds : List D} {ns : List Int} {vs : List V}, intsD ds = some ns → Reps K Hf ds vs → vs = ns.map V.int
  | [], _, vs, e, r => by cases e; unfold Reps at r; subst r; rfl
  | .int k :: ds, ns, vs, e, r => by
    unfold intsD at e
    obtain ⟨ms, e1, rfl⟩ := map_inv e
    unfold Reps at r
    obtain ⟨v, us, rfl, h1, h2⟩ := r
    unfold Rep at h1
    rw [h1, ints_rep e1 h2]; rfl
theorem reps_ints : ∀ {ns : List Int}, Reps K Hf (ns.map D.int) (ns.map V.int)
  | [] => by simp [Reps]
  | k :: ns => reps_cons (by unfold Rep; rfl) reps_ints
/-- the ints of a list or a tuple -/
def seqInts : D → Option (List Int)
  | .lst ds => intsD ds
  | .tup ds => intsD ds
  | _ => none
theorem seqInts_rep {d : D} {ns : List Int} {v : V} (s : Same Hf H) (e : seqInts d = some ns) (r : Rep K Hf d v) : ∃ l, v = .ref l ∧ (SqL K H l (ns.map V.int) ∨ SqT K H l (ns.map V.int)) := by
  match d, e, r with
  | .lst ds, e, r =>
    obtain ⟨a, vs, rfl, g1, g2⟩ := rep_lst r
    rw [← ints_rep e g2]
    exact ⟨a, rfl, .inl (rdSeq s g1)⟩
  | .tup ds, e, r =>
    obtain ⟨a, vs, rfl, g1, g2⟩ := rep_tup r
    rw [← ints_rep e g2]
    exact ⟨a, rfl, .inr (Same.sqT s g1)⟩
def sortSetE (fe : EM D) : EM D := bindM fe fun d => liftO (match seqInts d with | some ns => if ns.length < 64 then some (.lst ((sortU ns).map .int)) else none | none => none)
def lenSetE (fe : EM D) : EM D := bindM fe fun d => liftO (match seqInts d with | some ns => if ns.length < 4000 then some (.int (sortU ns).length) else none | none => none)
def tSortSet (K : PySem.W.Frag) (te : TE) : TE := fun σ H Q => te σ H fun x H1 => ∃ l ns, x = .ref l ∧ (SqL K H1 l (ns.map V.int) ∨ SqT K H1 l (ns.map V.int)) ∧ ns.length < 64 ∧ ∀ p, H1 p = none → Q (.ref p) (upd H1 p (.lst ((sortU ns).map V.int)))
def tLenSet (K : PySem.W.Frag) (te : TE) : TE := fun σ H Q => te σ H fun x H1 => ∃ l ns, x = .ref l ∧ (SqL K H1 l (ns.map V.int) ∨ SqT K H1 l (ns.map V.int)) ∧ ns.length < 4000 ∧ Q (.int ((sortU ns).length : Nat)) H1
theorem perm_uniq {l m : List Int} (h1 : l.Nodup) (h2 : m.Nodup) (h : ∀ k, k ∈ l ↔ k ∈ m) : l.length = m.length := ((List.perm_ext_iff_of_nodup h1 h2).mpr h).length_eq
theorem pe_sortSet (hg : Gl X "sorted") (hm : X.mg "sorted" = none) (hg2 : Gl X "set") (hm2 : X.mg "set" = none) (ha : PE X a te) (n1 : starEach [a] X.env = (false, eval a X.env) :: starEach [] X.env) (hc : X.calm = true := by rfl) :
    PE X (.Call (.Name "sorted" p) [.Call (.Name "set" p2) [a] [] q] [] pos) (tSortSet X.K te) := by
  refine ⟨fun pins s σ H Q I h => Call_ (ld_blt I hg hm boot_sorted (PyProof.Rows.callWith_builtin1 (PyProof.Rows.args_cons (Call_ (ld_blt I hg2 hm2 boot_set (PyProof.Rows.callWith_type1 (PyProof.Rows.args_cons (thn (ha.run pins s σ H _ I h) fun v s1 ⟨x, H1, I1, r1, l, ns, ex, hq, hn, q⟩ => PyProof.Rows.args_nil ?_) n1) n1 rfl))) rfl) rfl rfl))⟩
  subst ex
  cases r1
  refine setSeq hc I1 hq (by omega) fun b s2 c I2 R hcn => PyProof.Rows.args_nil ?_
  refine sorted_set R (I2.ok.hd hc) (by omega) fun s' p3 out c2 ms k g o hp hg3 hi hs hmm hl => ?_
  have e : ms = sortU ns := pw_uniq hs sortU_pw fun k => by rw [hmm k, mem_sortU, decide_eq_true_eq]
  subst e
  have small : ((sortU ns).map V.int).length ≤ sizeLine := by rw [List.length_map, hl, sizeLine_eq]; omega
  have free : H1 p3 = none := I2.hok.fresh hp
  have J : Inv X pins σ (upd H1 p3 (.lst ((sortU ns).map V.int))) { s2 with heap := s'.heap, gens := s'.gens, drawn := s'.drawn, toks := s'.toks } :=
    I2.call (ch := []) (Un.laid k hp free) (I2.hok.laid k hp ⟨small, out.toList, c2, vals_of_ints hi, hg3⟩) (by rw [g]; exact I2.bare) (fun _ z => nomatch z)
  have e : s' = { s2 with heap := s'.heap, gens := s'.gens, drawn := s'.drawn, toks := s'.toks } := by
    cases s'; cases s2; cases o; rfl
  rw [e]
  exact ⟨.ref p3, _, J, rfl, q p3 free⟩
theorem pe_lenSet (hg : Gl X "len") (hm : X.mg "len" = none) (hg2 : Gl X "set") (hm2 : X.mg "set" = none) (ha : PE X a te) (n1 : starEach [a] X.env = (false, eval a X.env) :: starEach [] X.env) (hc : X.calm = true := by rfl) :
    PE X (.Call (.Name "len" p) [.Call (.Name "set" p2) [a] [] q] [] pos) (tLenSet X.K te) := by
  refine ⟨fun pins s σ H Q I h => Call_ (ld_blt I hg hm boot_len (PyProof.Rows.callWith_builtin1 (PyProof.Rows.args_cons (Call_ (ld_blt I hg2 hm2 boot_set (PyProof.Rows.callWith_type1 (PyProof.Rows.args_cons (thn (ha.run pins s σ H _ I h) fun v s1 ⟨x, H1, I1, r1, l, ns, ex, hq, hn, q⟩ => PyProof.Rows.args_nil ?_) n1) n1 rfl))) rfl) rfl rfl))⟩
  subst ex
  cases r1
  refine setSeq hc I1 hq (by omega) fun b s2 c I2 R hcn => PyProof.Rows.args_nil ?_
  obtain ⟨o, es, ep, t, ho, hex, hd, _, nd, hmem, _, hf, hn2, _⟩ := R
  have e : es.size = (sortU ns).length := by
    rw [show es.size = (es.toList.map keyOf).length by simp]
    exact perm_uniq nd (List.Pairwise.imp (fun h => by omega) sortU_pw) fun k => by rw [← hmem k, mem_sortU, decide_eq_true_eq]
  exact call_len_set ho hex hd hf (by omega) ⟨.int (sortU ns).length, H1, I2.tok _, ⟨_, by rw [e]⟩, q⟩
theorem TF.sortSet (he : TD K mg W te fe) : TF K mg W (tSortSet K te) (sortSetE fe) := by
  intro Hf σ ρ H S Q h
  refine he Hf σ ρ H S _ ((Wp.bind h).mono fun d ρ1 h1 v Hf1 H1 s1 S1 r1 => ?_)
  obtain ⟨dz, e, h2⟩ := Wp.lift h1
  cases e1 : seqInts d with
  | none => rw [e1] at e; cases e
  | some ns =>
    rw [e1] at e
    simp only at e
    split at e
    · rename_i hn
      cases e
      obtain ⟨l, ev, hq⟩ := seqInts_rep S1.sub e1 r1
      refine ⟨l, ns, ev, hq, hn, fun p hp => ?_⟩
      have m : New Hf1 H1 Hf1 (upd H1 p (.lst ((sortU ns).map V.int))) := New.fresh S1.sub hp
      refine h2 p Hf1 _ (s1.trans m.stp) (m.sr S1) ?_ (none_sub S1.sub hp) ⟨_, upd_same, reps_ints⟩ (fresh_no S1 hp)
      cases e : H p with
      | none => rfl
      | some o => exact absurd hp (s1.there p (by rw [e]; simp))
    · cases e
theorem TD.lenSet (he : TD K mg W te fe) : TD K mg W (tLenSet K te) (lenSetE fe) := by
  intro Hf σ ρ H S Q h
  refine he Hf σ ρ H S _ ((Wp.bind h).mono fun d ρ1 h1 v Hf1 H1 s1 S1 r1 => ?_)
  obtain ⟨dz, e, h2⟩ := Wp.lift h1
  cases e1 : seqInts d with
  | none => rw [e1] at e; cases e
  | some ns =>
    rw [e1] at e
    simp only at e
    split at e
    · rename_i hn
      cases e
      obtain ⟨l, ev, hq⟩ := seqInts_rep S1.sub e1 r1
      exact ⟨l, ns, ev, hq, hn, h2 _ Hf1 H1 s1 S1 (by unfold Rep; rfl)⟩
    · cases e
theorem f_sortSet (hg : Gl X "sorted") (hm : X.mg "sorted" = none) (hg2 : Gl X "set") (hm2 : X.mg "set" = none) (ha : PD X W a fa) (n1 : starEach [a] X.env = (false, eval a X.env) :: starEach [] X.env) (hc : X.calm = true := by rfl) :
    PF X W (.Call (.Name "sorted" p) [.Call (.Name "set" p2) [a] [] q] [] pos) (sortSetE fa) := let ⟨_, a1, a2⟩ := ha.ex; ⟨_, pe_sortSet hg hm hg2 hm2 a1 n1 hc, TF.sortSet a2⟩
theorem d_lenSet (hg : Gl X "len") (hm : X.mg "len" = none) (hg2 : Gl X "set") (hm2 : X.mg "set" = none) (ha : PD X W a fa) (n1 : starEach [a] X.env = (false, eval a X.env) :: starEach [] X.env) (hc : X.calm = true := by rfl) :
    PD X W (.Call (.Name "len" p) [.Call (.Name "set" p2) [a] [] q] [] pos) (lenSetE fa) := let ⟨_, a1, a2⟩ := ha.ex; ⟨_, pe_lenSet hg hm hg2 hm2 a1 n1 hc, TD.lenSet a2⟩
end
/-! ### what the text's top has written -/
def Glob (K : PySem.W.Frag) (mg : Str → Option Value) (x : Str) (d : D) : Prop := ∃ (u : Value) (v : V), mg x = some u ∧ RelV v u ∧ ∀ Hf, Rep K Hf d v
def excBases : List Value := [.type "ValueError", .type "Exception", .type "BaseException", .type "object"]
def ExcOk (K : PySem.W.Frag) (mg : Str → Option Value) (x : Str) : Prop :=
  ∃ C, mg x = some (.ref C) ∧ PySem.W.excIn K C excBases "ValueError.__new__" = true ∧ PySem.W.keepIn K (.ref C) = true ∧ PySem.W.subIn K (.ref C) (.type "BaseException") = some true ∧ PySem.W.typeIn K (.ref C) = some (.type "type")
def DefAt (K : PySem.W.Frag) (mg : Str → Option Value) (x : Str) (st : Stmt) (ps : List Str) : Prop := ∃ f fd, Fun K x x st f fd ∧ mg x = some (.ref f) ∧ Binds K fd ps []
section
variable {X : Cx} {W : XK} {pos : Pos} {x : Str}
theorem d_glb {d : D} (hg : Gl X x) (h : Glob X.K X.mg x d) (hd : (x == ("__debug__" : Str)) = false := by decide) : PD X W (.Name x pos) (retE d) := let ⟨_, _, h1, h2, h3⟩ := h; d_glob hg h1 h2 h3 hd
theorem s_raiseX {m : Str} {k : Nat} {p p2 p3 : Pos} (hc : X.calm = true) (tk : Takes X fun cls d _ H => W cls d H) (h : ExcOk X.K X.mg x) (hg : Gl X x) (hdb : (x == ("__debug__" : Str)) = false := by decide) :
    PSD X W (.Raise (some (.Call (.Name x p) [.Constant (.str m) k p2] [] p3)) none pos) (raiseS x) := let ⟨_, h1, h2, h3, h4, h5⟩ := h; s_raise hc tk PySem.F.excBase_ValueError h2 h1 h3 (raises_own h4 h5) hg hdb
end
section
variable {P : Program} {w : World} {K : PySem.W.Frag} {mg : Str → Option Value} {base : Heap} {x : Str} {st : Stmt} {N ps : List Str} {k n l : Nat} {b : SM}
theorem fnD (h : DefAt K mg x st ps) (S : FnScope N ps (defScope st)) (hn : ps.length = n) (hl : N.length = l)
    (hb : ∀ (f : Addr) (cdv : Value) (A : Around) (outer : List Env) (s : Shared) (H : Hp) (E : XK), Room k (A.deeper (PyProof.Rows.envOfC x (defScope st) s.heap.objs.size f cdv)) →
      PSsD (cxOf (L2.CX P w) P w K mg base N x (defScope st) f cdv A outer s H E) E (defBody st) b) : FnD P w K mg base (k + 1) x n (runB n l b) := by
  subst hl
  obtain ⟨f, fd, F, hm, B⟩ := h
  exact ⟨f, fd, ps, fn_d F S hn (hb f), hm, F.kp, B⟩
/-- no wish at all -/
theorem fnD0 (h : DefAt K mg x st ps) (S : FnScope N ps (defScope st)) (hn : ps.length = n) : FnD P w K mg base (k + 1) x n (fun _ => .bad) := by
  obtain ⟨f, fd, F, hm, B⟩ := h
  exact ⟨f, fd, ps, F.okX S (fun vs H Q E h => h.1.trans hn.symm) (fun cdv A outer s H vs Q E hr h => by
    obtain ⟨_, _, _, _, _, w⟩ := h
    exact w.elim), hm, F.kp, B⟩
end
end DL

/-! The D layer, 13: a law: for bag in bags: body; tail. -/
namespace DL
open PySem L2

/-- a bag: three ints -/
structure Bag where
  a : Int
  b : Int
  c : Int
def Bag.d (w : Bag) : D := .lst [.int w.a, .int w.b, .int w.c]
def Bag.v (w : Bag) : List V := [.int w.a, .int w.b, .int w.c]
section
variable {K : PySem.W.Frag} {mg : Str → Option Value} {W : XK} {Hf H : Hp}
theorem bag_rep {w : Bag} {v : V} (r : Rep K Hf w.d v) : ∃ b, v = .ref b ∧ Hf b = some (.lst w.v) := by
  unfold Bag.d Rep at r
  obtain ⟨a, vs, rfl, h1, h2⟩ := r
  refine ⟨a, rfl, ?_⟩
  have : vs = w.v := by
    have e := ints_rep (ds := [.int w.a, .int w.b, .int w.c]) (ns := [w.a, w.b, w.c]) rfl h2
    exact e
  rw [h1, this]
theorem bags_rep : ∀ {ws : List Bag} {vs : List V}, Reps K Hf (ws.map Bag.d) vs → ∃ bs : List Addr, vs = bs.map V.ref ∧ bs.length = ws.length ∧ ∀ (j : Nat) (b : Addr) (w : Bag), bs[j]? = some b → ws[j]? = some w → Hf b = some (.lst w.v)
  | [], vs, r => by
    rw [List.map_nil] at r
    unfold Reps at r
    subst r
    exact ⟨[], rfl, rfl, fun j b w h => by simp at h⟩
  | w :: ws, vs, r => by
    rw [List.map_cons] at r
    unfold Reps at r
    obtain ⟨v, r', rfl, h1, h2⟩ := r
    obtain ⟨b, rfl, h3⟩ := bag_rep h1
    obtain ⟨bs, rfl, h4, h5⟩ := bags_rep h2
    refine ⟨b :: bs, rfl, by simp [h4], fun j c u e1 e2 => ?_⟩
    cases j with
    | zero => cases e1; cases e2; exact h3
    | succ j => exact h5 j c u e1 e2
theorem rep_get {n i : Nat} {x : Sl} (h : (List.replicate n Sl.u)[i]? = some x) : x = .u := List.eq_of_mem_replicate (List.mem_of_getElem? h)
theorem tail_sr {σ : L2.St} {n : Nat} (h : σ.length = n) : SR K (fun _ => none) σ (List.replicate n .u) H where
  sub := fun _ _ h => by cases h
  len := by rw [h]; simp
  val := fun i d e => by cases rep_get e
  own := fun i d e => by rcases e with e | e <;> cases rep_get e
  inj := fun i j a ⟨_, d, e⟩ _ => by rcases e with e | e <;> cases rep_get e
def bagRo (w : Bag) (n : Nat) : Ro := .u :: .o w.d :: List.replicate n .u
theorem bagRo_own {w : Bag} {n i : Nat} {d : D} (h : (bagRo w n)[i]? = some (.o d) ∨ (bagRo w n)[i]? = some (.p d)) : i = 1 ∧ d = w.d := by
  match i, h with
  | 0, h => rcases h with h | h <;> cases h
  | 1, h => rcases h with h | h <;> cases h; exact ⟨rfl, rfl⟩
  | i + 2, h => rcases h with h | h <;> cases rep_get (show (List.replicate n Sl.u)[i]? = some _ from h)
theorem bag_sr {w : Bag} {n : Nat} {σ : L2.St} {b : Addr} (hl : σ.length = n + 2) (hσ : σ[1]? = some (some (V.ref b))) (hb : H b = some (.lst w.v)) : SR K (fun _ => none) σ (bagRo w n) H where
  sub := fun _ _ h => by cases h
  len := by rw [hl]; simp [bagRo]
  val := fun i d e => by
    match i, e with
    | 0, e => cases e
    | 1, e => cases e
    | i + 2, e => cases rep_get (show (List.replicate n Sl.u)[i]? = some _ from e)
  own := fun i d e => by
    obtain ⟨rfl, rfl⟩ := bagRo_own e
    exact ⟨b, hσ, rfl, w.v, hb, by
      unfold Bag.v
      exact reps_cons (by unfold Rep; rfl) (reps_cons (by unfold Rep; rfl) (reps_cons (by unfold Rep; rfl) (by unfold Reps; rfl)))⟩
  inj := fun i j a ⟨_, d, h2⟩ ⟨_, d2, h4⟩ => (bagRo_own h2).1.trans (bagRo_own h4).1.symm
theorem law_sem {N : List Str} {n : Nat} {t : TE} {fit : EM D} {tb tt : TS} {f g : SM} {a : Addr} {ns : List Int} {ws : List Bag} (ht : TD K mg W t fit) (hb : TSD K mg W tb f) (htl : TSD K mg W tt g) (hN : N.length = n + 2) (hS : SqL K H a (ns.map V.int))
    (hfit : ∃ ρ', fit (.v (.scr ns) :: List.replicate (n + 1) .u) = .ok (.lst (ws.map Bag.d)) ρ') (hne : ∀ (i j : Nat) (w u : Bag), ws[i]? = some w → ws[j]? = some u → w.c = u.c → i = j)
    (hbody : ∀ w ∈ ws, ∃ ρ', f (bagRo w n) = .ok .nx ρ') (htail : ∃ ρ', g (List.replicate (n + 2) .u) = .ok (.ret (.bl true)) ρ') {Q : VK} {nx : L2.St → Hp → Prop} (hQ : ∀ H', Q (.bl true) H') :
    tSeq (tFor (iList K t) (gName 1) tb) tt { nx := nx, rt := Q } (L2.start N [.ref a]) H := by
  obtain ⟨ρ1, hfit⟩ := hfit
  have hst : L2.start N [V.ref a] = some (V.ref a) :: List.replicate (n + 1) none := by
    unfold L2.start
    rw [hN]; rfl
  have S0 : SR K H (L2.start N [.ref a]) (.v (.scr ns) :: List.replicate (n + 1) .u) H := by
    rw [hst]
    refine ⟨fun _ _ h => h, by simp, fun i d e => ?_, fun i d e => ?_, fun i j b ⟨_, d, e⟩ _ => ?_⟩
    · match i, e with
      | 0, e => cases e; exact ⟨_, rfl, by unfold Rep; exact ⟨a, rfl, hS⟩⟩
      | i + 1, e => cases rep_get (show (List.replicate (n + 1) Sl.u)[i]? = some _ from e)
    · match i, e with
      | 0, e => rcases e with e | e <;> cases e
      | i + 1, e => rcases e with e | e <;> cases rep_get (show (List.replicate (n + 1) Sl.u)[i]? = some _ from e)
    · match i, e with
      | 0, e => rcases e with e | e <;> cases e
      | i + 1, e => rcases e with e | e <;> cases rep_get (show (List.replicate (n + 1) Sl.u)[i]? = some _ from e)
  have hlen0 : (L2.start N [V.ref a]).length = n + 2 := by rw [hst]; simp
  refine ht H _ _ H S0 _ ?_
  rw [hfit]
  intro v Hf' H' s1 S1 r
  unfold Rep at r
  obtain ⟨l, vs, rfl, hl, rs⟩ := r
  obtain ⟨bs, rfl, hbl, hbs⟩ := bags_rep rs
  have hl' := S1.sub _ _ hl
  have apart : ∀ (j : Nat) (b : Addr) (w : Bag), bs[j]? = some b → ws[j]? = some w → l ≠ b := fun j b w e1 e2 eq => by
    have q := hbs j b w e1 e2
    rw [← eq, hl] at q
    have q' : bs.map V.ref = w.v := by simpa using q
    cases bs with
    | nil => simp at e1
    | cons x xs => simp [Bag.v] at q'
  have uniq : ∀ (i j : Nat) (b : Addr) (w u : Bag), bs[i]? = some b → bs[j]? = some b → ws[i]? = some w → ws[j]? = some u → i = j := fun i j b w u e1 e2 e3 e4 => by
    have q1 := hbs i b w e1 e3
    have q2 := hbs j b u e2 e4
    rw [q1] at q2
    have q' : w.v = u.v := by simpa using q2
    unfold Bag.v at q'
    simp at q'
    exact hne i j w u e3 e4 q'.2.2
  refine ⟨l, rfl, ⟨_, SqL.of hl'⟩, for_list (K := K) (a := l) (xs := bs.map V.ref) (fun i σ H2 => σ.length = n + 2 ∧ H2 l = some (.lst (bs.map V.ref)) ∧ ∀ (j : Nat) (b : Addr) (w : Bag), i ≤ j → bs[j]? = some b → ws[j]? = some w → H2 b = some (.lst w.v))
    ⟨hlen0, hl', fun j b w _ e1 e2 => S1.sub _ _ (hbs j b w e1 e2)⟩ (fun i σ H2 _ P => SqL.of P.2.1) ?_ ?_⟩
  · intro i x σ H2 hx ⟨P1, P2, P3⟩
    rw [List.getElem?_map] at hx
    cases eb : bs[i]? with
    | none => rw [eb] at hx; cases hx
    | some b =>
      rw [eb] at hx
      cases hx
      have hi : i < ws.length := by rw [← hbl]; exact (List.getElem?_eq_some_iff.mp eb).1
      have ew : ws[i]? = some ws[i] := List.getElem?_eq_getElem hi
      have hH := P3 i b ws[i] (Nat.le_refl _) eb ew
      have l1 : (σ.set 1 (some (V.ref b))).length = n + 2 := by rw [List.length_set]; exact P1
      have g1 : (σ.set 1 (some (V.ref b)))[1]? = some (some (V.ref b)) := by rw [List.getElem?_set_self (by omega)]
      obtain ⟨ρ', hf⟩ := hbody ws[i] (List.getElem_mem hi)
      show tb _ _ _
      refine hb (fun _ => none) (σ.set 1 (some (V.ref b))) (bagRo ws[i] n) H2 (bag_sr l1 g1 hH) _ ?_
      rw [hf]
      intro Hf3 σ3 H3 s3 S3
      have noA : ∀ c, c ≠ b → ¬ OA (σ.set 1 (some (V.ref b))) (bagRo ws[i] n) c := fun c hc ⟨k, h1, d, h2⟩ => by
        obtain ⟨rfl, _⟩ := bagRo_own h2
        rw [g1] at h1
        cases h1
        exact hc rfl
      refine ⟨?_, s3.keep l _ P2 (noA l (apart i b ws[i] eb ew)), fun j c w hj e1 e2 => ?_⟩
      · rw [S3.len, s3.len]; simp [bagRo]
      · refine s3.keep c _ (P3 j c w (by omega) e1 e2) (noA c fun z => ?_)
        subst z
        have := uniq i j c ws[i] w eb e1 ew e2
        omega
  · intro σ H2 ⟨P1, _, _⟩
    obtain ⟨ρ', hg⟩ := htail
    refine htl (fun _ => none) σ (List.replicate (n + 2) .u) H2 (tail_sr P1) _ ?_
    rw [hg]
    intro Hf3 σ3 H3 s3 S3 v r
    unfold Rep at r
    subst r
    exact hQ H3
/-- a law's promise -/
def spLaw (K : PySem.W.Frag) : Sp := fun vs H Q _ => ∃ (a : Addr) (ns : List Int), vs = [.ref a] ∧ SqL K H a (ns.map V.int) ∧ ns.length ≤ 63 ∧ ∀ H', Q (.bl true) H'
end
/-! the parts of a law's text: for target in iter: body; tail -/
def forIter (st : Stmt) : Expr := match defBody st with
  | .For _ it _ _ _ :: _ => it
  | _ => .Constant .none 0 ⟨0, 0, 0, 0⟩
def forBody (st : Stmt) : List Stmt := match defBody st with
  | .For _ _ b _ _ :: _ => b
  | _ => []
def forTail (st : Stmt) : List Stmt := (defBody st).drop 1
def p61 : Int := 2305843009213693951
/-- a bag as the laws begin with it -/
def Bag.ok (w : Bag) : Prop := 0 ≤ w.a ∧ 0 ≤ w.b ∧ w.b < p61 ∧ 0 ≤ w.c ∧ w.c ≤ 100000
theorem glob_int {K : PySem.W.Frag} {h : Heap} {mg : Str → Option Value} {x : Str} {i : Int} {t : Tok} (X : K.In h) (G : h.Ns mainGlobals mg) (e : PySem.W.nsIn K mainGlobals x = some (some (.int i t))) : Glob K mg x (.int i) :=
  ⟨_, .int i, PySem.W.mg_of X G e, ⟨t, rfl⟩, fun _ => by unfold Rep; rfl⟩
/-- a written tuple of texts -/
theorem glob_strs {K : PySem.W.Frag} {h : Heap} {mg : Str → Option Value} {x : Str} {c : Addr} {o : Obj} {its : Array Value} {n : Nat} {ss : List Str} (X : K.In h) (G : h.Ns mainGlobals mg) (e : PySem.W.nsIn K mainGlobals x = some (some (.ref c)))
    (l : K.lookup c = some o) (hc : o.cls = .type "tuple") (ho : o.dict = none) (hd : o.data = .seq its n) (hz : its.size ≤ sizeLine) (hv : Vals (ss.map V.str) its.toList) : Glob K mg x (.tup (ss.map .str)) :=
  ⟨_, .ref c, PySem.W.mg_of X G e, rfl, fun Hf => by
    unfold Rep
    refine ⟨c, ss.map V.str, rfl, .inr ⟨o, its, n, l, hc, ho, hd, hz, hv⟩, ?_⟩
    clear hv
    induction ss with
    | nil => simp [Reps]
    | cons s ss ih => exact reps_cons (by unfold Rep; rfl) ih⟩
theorem exc_mk {K : PySem.W.Frag} {h : Heap} {mg : Str → Option Value} {x : Str} {C : Addr} (X : K.In h) (G : h.Ns mainGlobals mg) (e : PySem.W.nsIn K mainGlobals x = some (some (.ref C))) (q : PySem.W.excIn K C excBases "ValueError.__new__" = true)
    (k : PySem.W.keepIn K (.ref C) = true) (b : PySem.W.subIn K (.ref C) (.type "BaseException") = some true) (t : PySem.W.typeIn K (.ref C) = some (.type "type")) : ExcOk K mg x := ⟨C, PySem.W.mg_of X G e, q, k, b, t⟩
theorem cx_no {P : Program} {w : World} {st : List Env} {H : Hp} {s s' : Shared} {e : Value} (z : L2.CX P w st H s (fun _ _ _ => False) e s') : False := by
  unfold L2.CX at z
  obtain ⟨_, _, _, _, _, _, _, _, _, _, _, _, _, _, _, k⟩ := z
end DL

/-! The D layer, 14: dicts whose keys are ints and texts. -/
namespace DL
open PySem L2

section
variable {K : PySem.W.Frag} {mg : Str → Option Value} {W : XK} {Hf H Hf' H' Hf1 H1 : Hp} {σ : L2.St} {ρ : Ro}
/-- {} -/
theorem TF.dnew : TF K mg W tDNewK (retE (.dct [])) := by
  intro Hf σ ρ H S Q h p hp
  have n : New Hf H Hf (upd H p (.dK [])) := New.fresh S.sub hp
  exact h p Hf _ n.stp (n.sr S) hp (none_sub S.sub hp) ⟨[], upd_same, by unfold Repk; rfl⟩ (fresh_no S hp)
/-- d.get(k, x) -/
def getF (d kd z : D) : Option D := match d with
  | .dct kvs => (keyD kd).map fun k => (valD kvs k).getD z
  | _ => none
def getE (fd fk fx : EM D) : EM D := bindM fd fun d => bindM fk fun k => bindM fx fun z => liftO (getF d k z)
def isDct : D → Bool
  | .dct _ => true
  | _ => false
def getE' (fd fk fx : EM D) : EM D := bindM fd fun d => if isDct d then bindM fk fun k => bindM fx fun z => liftO (getF d k z) else fun _ => .bad
theorem TD.get {td tk tx : TE} {fd fk fx : EM D} (hd : TD K mg W td fd) (hk : TD K mg W tk fk) (hx : TD K mg W tx fx) : TD K mg W (tDGet2 td tk tx) (DL.getE' fd fk fx) := by
  intro Hf σ ρ H S Q h
  refine hd Hf σ ρ H S _ ((Wp.bind h).mono fun d ρ1 h1 v Hf1 H1 s1 S1 r1 => ?_)
  cases d <;> simp only [isDct] at h1 <;> (try exact h1.elim)
  rename_i kvs
  obtain ⟨a, o, vs, rfl, g1, g2⟩ := rep_dct r1
  refine ⟨a, rfl, .inl ⟨vs, .inr ⟨o, S1.sub _ _ g1⟩⟩, hk Hf1 σ ρ1 H1 S1 _ ((Wp.bind h1).mono fun kd ρ2 h2 w Hf2 H2 s2 S2 r2 => ?_)⟩
  refine hx Hf2 σ ρ2 H2 S2 _ ((Wp.bind h2).mono fun z ρ3 h3 u Hf3 H3 s3 S3 r3 => ?_)
  obtain ⟨dz, e, h4⟩ := Wp.lift h3
  unfold getF at e
  simp only at e
  obtain ⟨key, ek, rfl⟩ := map_inv e
  have hg := S3.sub _ _ (s3.fz _ _ (s2.fz _ _ g1))
  have hkv := keyD_rep ek r2
  obtain ⟨i1, i2⟩ := repk_val (k := key) g2
  refine ⟨valV vs key, .inl ⟨vs, key, .inr ⟨o, hg⟩, hkv, rfl⟩, ?_⟩
  cases ev : valD kvs key with
  | none =>
    rw [i2 ev]
    rw [ev] at h4
    exact h4 _ Hf3 H3 ((s1.trans s2).trans s3) S3 r3
  | some y =>
    obtain ⟨q, q1, q2⟩ := i1 y ev
    rw [q1]
    rw [ev] at h4
    exact h4 _ Hf3 H3 ((s1.trans s2).trans s3) S3 (Rep.mono s3.fz (Rep.mono s2.fz q2))
/-- the dict that slot i owns -/
def ownK (i : Nat) : EM (List (D × D)) := fun ρ => match ρ[i]? with
  | some (.o (.dct kvs)) => .ok kvs ρ
  | some (.p (.dct kvs)) => .ok kvs ρ
  | _ => .bad
theorem ownK_inv {i : Nat} {α : Type} {f : List (D × D) → EM α} {k : α → Ro → Prop} (S : SR K Hf σ ρ H) (h : Wp K mg W (bindM (ownK i) f ρ) k) :
    ∃ a kvs vs, σ[i]? = some (some (V.ref a)) ∧ (ρ[i]? = some (Sl.o (.dct kvs)) ∨ ρ[i]? = some (Sl.p (.dct kvs))) ∧ Hf a = none ∧ H a = some (.dK vs) ∧ Repk K Hf kvs vs ∧ Wp K mg W (f kvs ρ) k := by
  have h := Wp.bind h
  unfold ownK at h
  cases e : ρ[i]? with
  | none => rw [e] at h; exact h.elim
  | some x =>
    rw [e] at h
    match x, e, h with
    | .o (.dct kvs), e, h =>
      obtain ⟨a, h1, h2, vs, h3, h4⟩ := S.own i _ (.inl e)
      exact ⟨a, kvs, vs, h1, .inl rfl, h2, h3, h4, h⟩
    | .p (.dct kvs), e, h =>
      obtain ⟨a, h1, h2, vs, h3, h4⟩ := S.own i _ (.inr e)
      exact ⟨a, kvs, vs, h1, .inr rfl, h2, h3, h4, h⟩
/-- d[k] = x, d owned -/
def setKF (kvs : List (D × D)) (d kd : D) : Option (List (D × D)) := match keyD kd with
  | some k => if kvs.length ≤ 1000000 then some (putD kvs kd k d) else none
  | none => none
def setK (i : Nat) (fk fv : EM D) : SM := doS (bindM fv fun d => bindM (ownS i) fun _ => bindM fk fun j => bindM (ownK i) fun kvs => bindM (liftO (setKF kvs d j)) fun es => fun ρ => .ok () (putO i (.dct es) ρ))
theorem TSD.setK {i : Nat} {ti tv : TE} {fk fv : EM D} (he : TD K mg W ti fk) (hv : TD K mg W tv fv) : TSD K mg W (tAsg tv (gSub (tVar i) ti rSetD)) (DL.setK i fk fv) := by
  intro Hf σ ρ H S E h
  have h := Wp.rbind (show Wp K mg W (Res.bind ((bindM fv fun d => bindM (ownS i) fun _ => bindM fk fun j => bindM (ownK i) fun kvs => bindM (liftO (setKF kvs d j)) fun es => fun ρ => .ok () (putO i (.dct es) ρ)) ρ) fun _ ρ1 => .ok Fl.nx ρ1) _ from h)
  refine hv Hf σ ρ H S _ ((Wp.bind h).mono fun d ρ1 h1 v Hf1 H1 s1 S1 r1 => ?_)
  obtain ⟨⟨a, d0, k1, _⟩, h2⟩ := ownS_inv S1 h1
  refine ⟨.ref a, k1, he Hf1 σ ρ1 H1 S1 _ ((Wp.bind h2).mono fun j ρ2 h3 u Hf2 H2 s2 S2 r2 => ?_)⟩
  obtain ⟨b, kvs, vs, g1, g2, g3, g4, g5, g6⟩ := ownK_inv S2 h3
  cases own_same k1 g1
  obtain ⟨es, e, h4⟩ := Wp.lift (Wp.bind g6)
  unfold setKF at e
  cases ek : keyD j with
  | none => rw [ek] at e; cases e
  | some key =>
    rw [ek] at e
    simp only at e
    split at e
    · rename_i hl
      cases e
      refine ⟨a, upd H2 a (.dK (putK vs key v)), rfl, .inl ⟨vs, key, g4, keyD_rep ek r2, ?_, rfl⟩, ?_⟩
      · rw [← repk_len g5]; exact Nat.lt_of_le_of_lt hl (by decide)
      · obtain ⟨s3, S3⟩ := own_upd (o := .dK (putK vs key v)) (d' := .dct (putD kvs j key d)) S2 g1 g2 ⟨_, upd_same, repk_put ek (Rep.mono s2.fz r1) g5⟩
        exact h4 Hf2 σ _ ((s1.trans s2).trans s3) S3
    · cases e
/-- dict(d) -/
def rDictC : List V → Hp → VK → Prop := fun xs H Q => ∃ (a : Addr) (kvs : List (Key × V)), xs = [.ref a] ∧ Rd H a (.dK kvs) ∧ ∀ p, H p = none → Q (.ref p) (upd H p (.dK kvs))
theorem cr_dictC {X : Cx} : CallR X (.type "dict") rDictC := call_dictD
def dictF : List D → Option D
  | [.dct kvs] => some (.dct kvs)
  | _ => none
theorem rdc_dictC : RDCF K rDictC dictF := by
  intro Hf H xs ds dz s r e Q k
  match ds, e, r with
  | [.dct kvs], e, r =>
    cases e
    obtain ⟨v, rfl, r1⟩ := reps1 r
    obtain ⟨a, o, vs, rfl, g1, g2⟩ := rep_dct r1
    exact ⟨a, vs, rfl, .inr ⟨o, s _ _ g1⟩, fun p hp => k p _ _ (New.fresh s hp) hp (none_sub s hp) ⟨vs, upd_same, g2⟩⟩
/-- {k: x} -/
def disp1E (fk fv : EM D) : EM D := bindM fk fun kd => bindM fv fun d => liftO ((keyD kd).map fun _ => .dct [(kd, d)])
theorem TF.disp1 {tk tv : TE} {fk fv : EM D} (hk : TD K mg W tk fk) (hv : TD K mg W tv fv) : TF K mg W (tDisp [(tk, tv)]) (disp1E fk fv) := by
  intro Hf σ ρ H S Q h p hp
  have n : New Hf H Hf (upd H p (.dK [])) := New.fresh S.sub hp
  have S0 := n.sr S
  have no0 : ¬ OA σ ρ p := fresh_no S hp
  refine hk Hf σ ρ _ S0 _ ((Wp.bind h).mono fun kd ρ1 h1 w Hf1 H1 s1 S1 r1 => ?_)
  refine hv Hf1 σ ρ1 H1 S1 _ ((Wp.bind h1).mono fun d ρ2 h2 u Hf2 H2 s2 S2 r2 => ?_)
  obtain ⟨dz, e, h3⟩ := Wp.lift h2
  obtain ⟨key, ek, rfl⟩ := map_inv e
  have s12 := s1.trans s2
  have hp2 : H2 p = some (.dK []) := s12.keep p _ upd_same no0
  have hf2 : Hf2 p = none := s12.out p (by rw [upd_same]; simp) (none_sub S.sub hp) fun z => no0 z.oa
  have no2 : ¬ OA σ ρ2 p := fun z => by
    rcases s12.oa z with z | z
    · rw [upd_same] at z; cases z
    · exact no0 z
  refine ⟨hp2, [(key, u)], by rw [keyD_rep ek r1]; rfl, by simp, ?_⟩
  have me : mergeK [] [(key, u)] = [(key, u)] := rfl
  rw [me]
  have st : Stp Hf σ ρ H Hf2 σ ρ2 H2 := n.stp.trans s12
  refine h3 p Hf2 (upd H2 p (.dK [(key, u)])) ⟨st.fz, fun b o z1 z2 => ?_, fun b z => ?_, st.out, st.pin, st.pin', st.oo, st.len⟩ ⟨fun b o z => ?_, S2.len, S2.val, fun i x z => ?_, S2.inj⟩ hp hf2 ⟨[(key, u)], upd_same, ?_⟩ no2
  · rw [upd_ne (fun eb => by rw [eb, hp] at z1; cases z1)]; exact st.keep b o z1 z2
  · by_cases eb : b = p
    · rw [eb, upd_same]; simp
    · rw [upd_ne eb]; exact st.there b z
  · rw [upd_ne (fun eb => by rw [eb, hf2] at z; cases z)]; exact S2.sub b o z
  · obtain ⟨a, g1, g2, g3⟩ := S2.own i x z
    have na : a ≠ p := fun ea => no2 ⟨i, by rw [← ea]; exact g1, x, z⟩
    exact ⟨a, g1, g2, RepO.mono (fun _ _ h => h) (upd_ne na) g3⟩
  · unfold Repk
    exact ⟨key, u, [], rfl, ek, r2, by unfold Repk; rfl⟩
/-- x in range(n) -/
def rRng1 : List V → Hp → VK → Prop := fun vs H Q => ∃ j, vs = [V.int j] ∧ ∀ p, H p = none → Q (.ref p) (upd H p (.rng 0 j))
theorem cr_rng1 {X : Cx} : CallR X (.type "range") rRng1 := by
  intro pins s σ H vs us Q I r ⟨j, e, q⟩
  subst e
  cases r with
  | cons h t =>
  cases t
  obtain ⟨t, rfl⟩ := h
  refine PySem.call_range_1 ⟨.ref s.heap.objs.size, upd H s.heap.objs.size (.rng 0 j), I.laid (t' := s.toks + 1 + 1) (fun b o e => Heap.get?_push_of_some _ e) (Nat.le_refl _) ?_, rfl, q _ (I.hok.fresh (Nat.le_refl _))⟩
  exact ⟨s.toks, t, s.toks + 1, Heap.get?_push_size _ rfl⟩
def rInRng : R2 := fun x y H Q => ∃ i a lo hi, x = V.int i ∧ y = V.ref a ∧ H a = some (.rng lo hi) ∧ Q (.bl (decide (lo ≤ i ∧ i < hi))) H
def inRgE (fa fb : EM D) : EM D := bindM fa fun x => bindM fb fun y => liftO (match x, y with | .int i, .int n => some (.bl (decide (0 ≤ i) && decide (i < n))) | _, _ => none)
theorem TD.inRg {ta tb : TE} {fa fb : EM D} (ha : TD K mg W ta fa) (hb : TD K mg W tb fb) : TD K mg W (tOp rInRng ta (tCB rRng1 (tCons tb tNil))) (inRgE fa fb) := by
  intro Hf σ ρ H S Q h
  refine ha Hf σ ρ H S _ ((Wp.bind h).mono fun x ρ1 h1 v Hf1 H1 s1 S1 r1 => ?_)
  refine hb Hf1 σ ρ1 H1 S1 _ ((Wp.bind h1).mono fun y ρ2 h2 u Hf2 H2 s2 S2 r2 => ?_)
  obtain ⟨dz, e, h3⟩ := Wp.lift h2
  match x, y, e, r1, r2 with
  | .int i, .int n, e, r1, r2 =>
    cases e
    cases rep_int r1
    cases rep_int r2
    refine ⟨n, rfl, fun p hp => ?_⟩
    have m : New Hf2 H2 Hf2 (upd H2 p (.rng 0 n)) := New.fresh S2.sub hp
    refine ⟨i, p, 0, n, rfl, rfl, upd_same, ?_⟩
    have eb : decide (0 ≤ i ∧ i < n) = (decide (0 ≤ i) && decide (i < n)) := by simp
    rw [eb]
    exact h3 _ Hf2 _ ((s1.trans s2).trans m.stp) (m.sr S2) (by unfold Rep; rfl)
end
section
variable {X : Cx} {W : XK} {a b c e : Expr} {fa fb fc fe : EM D} {pos pos' : Pos} {x y : Str}
theorem d_inRg {p q : Pos} (hg : Gl X "range") (hm : X.mg "range" = none) (ha : PD X W a fa) (hb : PD X W b fb) (n1 : starEach [b] X.env = (false, eval b X.env) :: starEach [] X.env) (h1 : behindInMarks .In (.Call (.Name "range" p) [b] [] q) = false) :
    PD X W (.Compare a [.In] [.Call (.Name "range" p) [b] [] q] pos) (inRgE fa fb) :=
  let ⟨_, a1, a2⟩ := ha.ex; let ⟨_, b1, b2⟩ := hb.ex; ⟨_, pe_cmpR op_in_rng a1 (pe_callTy cr_rng1 hg hm bb_range (pa_cons b1 pa_nil n1) (by decide) (by decide) n1 rfl) h1, TD.inRg a2 b2⟩
theorem f_disp1 (ha : PD X W a fa) (hb : PD X W b fb) : PF X W (.Dict [some a] [b] pos) (disp1E fa fb) := let ⟨_, a1, a2⟩ := ha.ex; let ⟨_, b1, b2⟩ := hb.ex; ⟨_, pe_disp (pps_cons a1 b1 pps_nil) rfl rfl (by simp) (by simp), TF.disp1 a2 b2⟩
theorem f_dnew : PF X W (.Dict [] [] pos) (retE (.dct [])) := ⟨_, pe_dnewK, TF.dnew⟩
theorem d_get {apos cpos : Pos} (hu : X.A.units + 64 < cLine) (ha : PD X W a fa) (hb : PD X W b fb) (hc : PD X W c fc) (m : M2 X a "get" apos b c cpos) : PD X W (.Call (.Attribute a "get" apos) [b, c] [] cpos) (getE' fa fb fc) :=
  let ⟨_, a1, a2⟩ := ha.ex; let ⟨_, b1, b2⟩ := hb.ex; let ⟨_, c1, c2⟩ := hc.ex; ⟨_, pe_dget2 (by omega) a1 b1 c1 m, TD.get a2 b2 c2⟩
theorem s_setK (i : Nat) {p2 : Pos} (hu : X.A.units + 64 < cLine) (hN : X.N[i]? = some y) (hv : Vis X.env.scope y) (hb : PD X W b fb) (he : PD X W e fe)
    (ha : ∀ v, assign (.Subscript (.Name y p2) b pos) X.env v = (do
      let ov ← holding [v] (eval (.Name y p2) X.env)
      let iv ← holding [v, ov] (eval b X.env)
      standAt pos
      holding [v, ov, iv] (setItem ov iv v)
      release [v, ov, iv] []))
    (hs : swapsWithSole [.Subscript (.Name y p2) b pos] e pos'.line X.env = pure false) (hw : swappedStores [.Subscript (.Name y p2) b pos] e X.env = pure none) (h1 : (assignEach [.Subscript (.Name y p2) b pos] X.env).map (·.2) = [assign (.Subscript (.Name y p2) b pos) X.env])
    (hd : (y == ("__debug__" : Str)) = false := by decide) (hcd : (y == ("__classdict__" : Str)) = false := by decide) :
    PSD X W (.Assign [.Subscript (.Name y p2) b pos] e pos') (setK i fb fe) := let ⟨_, b1, b2⟩ := hb.ex; let ⟨_, e1, e2⟩ := he.ex; ⟨_, ps_asg e1 (pg_sub (pe_var hN hv hd hcd) b1 (set_dict (by omega)) ha) hs hw h1, TSD.setK b2 e2⟩
end
end DL

/-! The D layer, 15: list(d.values()). -/
namespace DL
open PySem L2 PySem.W PySem.Calls

section
variable {X : Cx} {e : Expr} {td : TE} {p pos apos cpos : Pos}
def tListVals (td : TE) : TE := fun σ H Q => td σ H fun x H1 => ∃ d o kvs, x = .ref d ∧ H1 d = some (.frz o (.dK kvs)) ∧ kvs.length ≤ 1000000 ∧ ∀ q, H1 q = none → Q (.ref q) (upd H1 q (.lst (kvs.map (·.2))))
theorem kv_vals : ∀ {kvs : List (Key × V)} {vs : List (Key × Value)}, KV kvs vs → Vals (kvs.map (·.2)) (vs.map (·.2))
  | _, _, .nil => .nil
  | _, _, .cons h t => .cons h.2 (kv_vals t)
theorem pe_listVals (hc : X.calm = true) (he : PE X e td) (hg : Gl X "list") (hm : X.mg "list" = none) (hbase : attributeBase e "values" X.env (eval e X.env) = eval e X.env) (hline : (apos.endLine == cpos.line) = true)
    (na : starEach [.Call (.Attribute e "values" apos) [] [] cpos] X.env = (false, eval (.Call (.Attribute e "values" apos) [] [] cpos) X.env) :: starEach [] X.env) :
    PE X (.Call (.Name "list" p) [.Call (.Attribute e "values" apos) [] [] cpos] [] pos) (tListVals td) := by
  refine ⟨fun pins s σ H Q I h => PyProof.Rows.Call_ (ld_blt I hg hm PyProof.Rows.boot_list (PyProof.Rows.callWith_type1 (PyProof.Rows.args_cons ?_ na) na rfl))⟩
  refine wpAny_Call_method (T := "dict") (id := "dict.values") hbase rfl hline F.plainAttrs_dict F.slot_dict_values F.type_dict_values (thn (he.run pins s σ H _ I h) fun u s1 ⟨x, H1, I1, rx, d, o, kvs, ex, hd, hn, q⟩ => ?_)
  subst ex
  cases rx
  obtain ⟨g1, g2, g3, es, ep, vs, g4, g5, g6, g7⟩ := I1.frzK hd
  refine ⟨g7.dictOf.typeIs, g7.dictOf.mapOf.noDict, ?_⟩
  have I2 : Inv X pins σ H1 { s1 with heap := s1.heap.push { cls := .type "dict_values", data := .fields #[.ref d] } } := I1.kept (t' := s1.toks) fun b ob z => Heap.get?_push_of_some _ z
  show wpAny _ _ (callWith cpos (.builtin "dict.values") [.ref d] [] []) _ X.xe s1
  refine method_meetsIn F.slot_dict_values F.entry_dict_values rfl (PySem.evalArgs_none ⟨rfl, g7.dictOf.typeIs, F.args_dict_values_1 _, _, meets_dict_values (mixKind X.prog X.w) d g1, ⟨vs, g7.dictOf⟩, PyProof.Rows.args_nil ?_⟩)
  have hlen : vs.length = kvs.length := (Paired.length g6).symm
  refine kdl_call (kdl_values (knd := mixKind X.prog X.w) (kvs := vs) (ep := ep) (d := d)) (I2.ok.hd hc) ⟨⟨_, Heap.get?_push_size _ rfl, rfl, rfl⟩, g7.push _⟩ (by rw [hlen, sizeLine_eq]; omega) fun h' tk acc c k hD hacc => ?_
  have ea : acc.toList = vs.map (·.2) := by
    apply List.ext_getElem?
    intro j
    rcases Nat.lt_or_ge j vs.length with hj | hj
    · have hj2 : j < acc.size := by rw [hacc.1]; exact hj
      obtain ⟨key, hk⟩ := hacc.2 j acc[j] (Array.getElem?_eq_getElem hj2)
      rw [List.getElem?_map, hk, Array.getElem?_toList, Array.getElem?_eq_getElem hj2]; rfl
    · rw [List.getElem?_eq_none (by rw [Array.length_toList, hacc.1]; exact hj), List.getElem?_eq_none (by simpa using hj)]
  have J := I2.laid (t' := tk) (h' := h') (o := .lst (kvs.map (·.2))) k (Nat.le_refl _) ⟨by rw [List.length_map, sizeLine_eq]; omega, acc.toList, c, by rw [ea]; exact kv_vals g6, by rw [Array.toArray_toList]; exact hD⟩
  exact ⟨.ref _, _, J, rfl, q _ (I2.hok.fresh (Nat.le_refl _))⟩
end
section
variable {K : PySem.W.Frag} {mg : Str → Option Value} {W : XK} {Hf H : Hp} {td : TE} {fe : EM D}
theorem repk_vals : ∀ {kvs : List (D × D)} {vs : List (Key × V)}, Repk K Hf kvs vs → Reps K Hf (kvs.map (·.2)) (vs.map (·.2))
  | [], vs, r => by unfold Repk at r; subst r; simp [Reps]
  | (k, d) :: kvs, vs, r => by
    unfold Repk at r
    obtain ⟨k', v, r', rfl, h1, h2, h3⟩ := r
    rw [List.map_cons, List.map_cons]
    exact reps_cons h2 (repk_vals h3)
def valsE (fe : EM D) : EM D := bindM fe fun d => liftO (match d with | .dct kvs => if kvs.length ≤ 1000000 then some (.lst (kvs.map (·.2))) else none | _ => none)
theorem TF.vals (he : TD K mg W td fe) : TF K mg W (tListVals td) (valsE fe) := by
  intro Hf σ ρ H S Q h
  refine he Hf σ ρ H S _ ((Wp.bind h).mono fun d ρ1 h1 v Hf1 H1 s1 S1 r1 => ?_)
  obtain ⟨dz, e, h2⟩ := Wp.lift h1
  match d, e, r1 with
  | .dct kvs, e, r1 =>
    simp only at e
    split at e
    · rename_i hl
      cases e
      obtain ⟨a, o, vs, rfl, g1, g2⟩ := rep_dct r1
      refine ⟨a, o, vs, rfl, S1.sub _ _ g1, by rw [← repk_len g2]; exact hl, fun p hp => ?_⟩
      have m : New Hf1 H1 Hf1 (upd H1 p (.lst (vs.map (·.2)))) := New.fresh S1.sub hp
      refine h2 p Hf1 _ (s1.trans m.stp) (m.sr S1) ?_ (none_sub S1.sub hp) ⟨_, upd_same, repk_vals g2⟩ (fresh_no S1 hp)
      cases e : H p with
      | none => rfl
      | some o => exact absurd hp (s1.there p (by rw [e]; simp))
    · cases e
end
section
variable {X : Cx} {W : XK} {a : Expr} {fa : EM D} {p pos apos cpos : Pos}
theorem f_vals (hg : Gl X "list") (hm : X.mg "list" = none) (ha : PD X W a fa) (hbase : attributeBase a "values" X.env (eval a X.env) = eval a X.env) (hline : (apos.endLine == cpos.line) = true)
    (na : starEach [.Call (.Attribute a "values" apos) [] [] cpos] X.env = (false, eval (.Call (.Attribute a "values" apos) [] [] cpos) X.env) :: starEach [] X.env) (hc : X.calm = true := by rfl) :
    PF X W (.Call (.Name "list" p) [.Call (.Attribute a "values" apos) [] [] cpos] [] pos) (valsE fa) := let ⟨_, a1, a2⟩ := ha.ex; ⟨_, pe_listVals hc a1 hg hm hbase hline na, TF.vals a2⟩
end
end DL

/-! The D layer, 16: a, b = new, x. -/
namespace DL
open PySem L2

section
variable {K : PySem.W.Frag} {mg : Str → Option Value} {W : XK} {Hf H : Hp}
/-- a, b = a new list or dict, x: a owns it -/
def parNewS (i j : Nat) (fa fb : EM D) : SM := fun ρ => (fa ρ).bind fun d ρ1 => (fb ρ1).bind fun e ρ2 => match ρ2[i]? with
  | none => .bad
  | some (.p _) => .bad
  | some _ => match setT j e (ρ2.set i (.o d)) with
    | some ρ3 => .ok .nx ρ3
    | none => .bad
theorem TSD.parNew {i j : Nat} {ta tb : TE} {fa fb : EM D} (ha : TF K mg W ta fa) (hb : TD K mg W tb fb) : TSD K mg W (tPar i j (tCons ta (tCons tb tNil))) (parNewS i j fa fb) := by
  intro Hf σ ρ H S E h
  refine ha Hf σ ρ H S _ ((Wp.rbind h).mono fun d ρ1 h1 a Hf1 H1 s1 S1 ha0 hf1 ro no1 => ?_)
  refine hb Hf1 σ ρ1 H1 S1 _ ((Wp.rbind h1).mono fun e ρ2 h2 v Hf2 H2 s2 S2 r2 => ?_)
  refine ⟨.ref a, v, rfl, ?_⟩
  obtain ⟨o, ea⟩ : ∃ o, H1 a = some o := by
    cases e : H1 a with
    | none => exact absurd e ro.there
    | some o => exact ⟨o, rfl⟩
  have k2 : H2 a = some o := s2.keep a o ea no1
  have hf2 : Hf2 a = none := s2.out a ro.there hf1 fun z => no1 z.oa
  have ro2 : RepO K Hf2 H2 d a := RepO.mono s2.fz (by rw [k2, ea]) ro
  have no2 : ¬ OA σ ρ2 a := fun z => by
    rcases s2.oa z with z | z
    · exact ro.there z
    · exact no1 z
  cases e1 : ρ2[i]? with
  | none => rw [e1] at h2; exact h2.elim
  | some x =>
    have hl : i < ρ2.length := (List.getElem?_eq_some_iff.mp e1).1
    rw [e1] at h2
    have go : (∀ d' : D, x ≠ Sl.p d') → Wp K mg W ((match setT j e (ρ2.set i (.o d)) with | some ρ3 => .ok .nx ρ3 | none => .bad : Res Fl)) (Cont K E Hf σ ρ H) → E.nx ((σ.set i (some (.ref a))).set j (some v)) H2 := fun hx h2 => by
      obtain ⟨s3, S3⟩ := set_o S2 hf2 ro2 no2 hl (fun d' z => by rw [e1] at z; exact hx d' (Option.some.inj z)) (s1.trans s2) ha0
      cases e2 : setT j e (ρ2.set i (.o d)) with
      | none => rw [e2] at h2; exact h2.elim
      | some ρ3 =>
        rw [e2] at h2
        obtain ⟨b1, b2, rfl⟩ := setT_inv e2
        obtain ⟨s4, S4⟩ := set_v S3 r2 b1 b2
        exact h2 Hf2 _ H2 (s3.trans s4) S4
    cases x with
    | p d' => exact h2.elim
    | u => exact go (fun _ z => by cases z) h2
    | v d' => exact go (fun _ z => by cases z) h2
    | o d' => exact go (fun _ z => by cases z) h2
end
section
variable {X : Cx} {W : XK} {a b : Expr} {fa fb : EM D} {pos : Pos}
theorem s_parNew (i j : Nat) {x y : Str} {px py pt : Pos} {kt k2 pt2} (hc : X.calm = true) (hN : X.N.Nodup) (hi : X.N[i]? = some x) (hj : X.N[j]? = some y) (hij : i ≠ j)
    (hx : X.env.scope.names.lookup x = some .local) (hy : X.env.scope.names.lookup y = some .local) (ha : PF X W a fa) (hb : PD X W b fb) (n1 : starEach [a, b] X.env = (false, eval a X.env) :: starEach [b] X.env) (n2 : starEach [b] X.env = (false, eval b X.env) :: starEach [] X.env)
    (hw : swappedStores [.Tuple [.Name x px, .Name y py] kt pt] (.Tuple [a, b] k2 pt2) X.env = pure (some [x, y]))
    (hs : swapsWithSole [.Tuple [.Name x px, .Name y py] kt pt] (.Tuple [a, b] k2 pt2) pos.line X.env = pure false) :
    PSD X W (.Assign [.Tuple [.Name x px, .Name y py] kt pt] (.Tuple [a, b] k2 pt2) pos) (parNewS i j fa fb) := let ⟨_, a1, a2⟩ := ha.ex; let ⟨_, b1, b2⟩ := hb.ex; ⟨_, ps_par hc hN hi hj hij hx hy (pa_cons a1 (pa_cons b1 pa_nil n2) n1) hw hs, TSD.parNew a2 b2⟩
end
end DL

/-! The D layer, 17: enumerate(tuple), dict(tuple of pairs). -/
namespace DL
open PySem L2 PySem.W PySem.Calls PyProof.Rows
open Sem (wp)
open AutoSeq1 (wpAny_loadPart')

theorem meets_enumT (l : Addr) (items : Array Value) (n : Nat) (dct : Option Addr) (sl : Array (Option Value)) :
    Meets (Builtin.«enumerate.__new__» ⟨[.type "enumerate", .ref l], []⟩) (fun _ R s => s.heap.get? l = some { cls := .type "tuple", dict := dct, data := .seq items n, slots := sl } ∧
      R (.ok (.ret (.ref (s.heap.push { cls := .type "tuple_iterator", data := .fields #[.ref l, .int 0 0] }).objs.size)))
        { s with heap := (s.heap.push { cls := .type "tuple_iterator", data := .fields #[.ref l, .int 0 0] }).push { cls := .type "enumerate", data := .fields #[.none, .bool false, .ref s.heap.objs.size, rawInt 0, .none, .none] } }) :=
  .of_wp fun prog w A R s h => by
    obtain ⟨hp, g, d, tk, os⟩ := s; obtain ⟨hl, h⟩ := h
    have hsub := sub_enumerate
    have hL : Heap.IsTuple (Shared.heap ⟨hp, g, d, tk, os⟩) l items := ⟨_, hl, rfl, n, rfl⟩
    wp_walk using wpAny_loadPart' hl
    refine wpAny_stack_any fun st => wpAny_pure ?_
    split
    · rename_i c _ _ _ _ _
      cases (c == Value.type "enumerate")
      · wp_walk using wpAny_loadPart' hl, wpAny_pyIter_tuple hL
        exact ⟨_, rfl, h⟩
      · wp_walk using wpAny_loadPart' hl, wpAny_pyIter_tuple hL
        exact ⟨_, rfl, h⟩
    · wp_walk using wpAny_loadPart' hl, wpAny_pyIter_tuple hL
      exact ⟨_, rfl, h⟩
section
variable {prog : Program} {w : World} {A : Around} {E : Value → Shared → Prop} {s : Shared}
theorem call_enumT {l : Addr} {items : Array Value} {Q : Value → Shared → Prop} (hL : s.heap.IsTuple l items)
    (h : ∀ h', IsEnum h' (s.heap.objs.size + 1) s.heap.objs.size 0 .none → h'.IsTupleIter s.heap.objs.size l 0 → h'.objs.size = s.heap.objs.size + 2 →
      (∀ b o, s.heap.get? b = some o → h'.get? b = some o) → Q (.ref (s.heap.objs.size + 1)) { s with heap := h' }) :
    wpAny (model prog w) A (call (.type "enumerate") [.ref l]) Q E s := by
  obtain ⟨⟨c, dct, dt, sl⟩, hl, hc, n, hd⟩ := hL
  replace hc : c = .type "tuple" := hc
  replace hd : dt = .seq items n := hd
  subst hc hd
  refine callType_new F.called_enumerate (by decide) (F.typeCall_enumerate_1 _) (F.newCall_enumerate_1 _) (fun obj => F.args_object_init_2 obj _) F.entry_enumerate_new
    (meets_enumT l items n dct sl) ⟨hl, ?_⟩
  have hz : (s.heap.push { cls := .type "tuple_iterator", data := .fields #[.ref l, .int 0 0] }).objs.size = s.heap.objs.size + 1 := Heap.size_push ..
  show _ ∧ _
  rw [hz]
  have he : IsEnum ((s.heap.push { cls := .type "tuple_iterator", data := .fields #[.ref l, .int 0 0] }).push
      { cls := .type "enumerate", data := .fields #[.none, .bool false, .ref s.heap.objs.size, rawInt 0, .none, .none] }) (s.heap.objs.size + 1) s.heap.objs.size 0 .none := by
    have := Heap.get?_push_size (s.heap.push { cls := .type "tuple_iterator", data := .fields #[.ref l, .int 0 0] })
      (o := { cls := .type "enumerate", data := .fields #[.none, .bool false, .ref s.heap.objs.size, rawInt 0, .none, .none] }) rfl
    rw [hz] at this; exact this
  exact ⟨⟨_, he, rfl⟩, h _ he ⟨_, Heap.get?_push_of_some _ (Heap.get?_push_size _ rfl), rfl, rfl⟩ (by rw [Heap.size_push, hz]) fun b o x => Heap.get?_push_of_some _ (Heap.get?_push_of_some _ x)⟩
end

/-- the tuple at a as it stands at each turn, each item in a new pair -/
def IteT (K : PySem.W.Frag) (a : Addr) : It :=
  ⟨fun i H => ∃ (xs : List V) (x : V), SqT K H a xs ∧ xs[i]? = some x, fun i H v H' => ∃ T x, v = .ref T ∧ H T = none ∧ H' = upd H T (.tup [.int (i : Nat), x]) ∧ ∀ xs, SqT K H a xs → xs[i]? = some x, fun i H => ∃ xs : List V, SqT K H a xs ∧ xs.length ≤ i⟩
theorem turn_enumT {P : Program} {w : World} {K : PySem.W.Frag} {elts : List Expr} {kk : Nat} {tpos : Pos} (a e it : Addr) :
    Turn P w K (.Tuple elts kk tpos) (IteT K a) [e, it] e (fun i h => (∃ old, IsEnum h e it ((i : Nat) : Int) old) ∧ h.IsTupleIter it a i ∧ e ≠ it) where
  mem := by simp
  obj := fun i h st b hb => by
    obtain ⟨⟨old, he⟩, ⟨o, ho, hc, hd⟩, _⟩ := st
    have e' : b = e ∨ b = it := by simpa using hb
    rcases e' with z | z
    · rw [z]; exact ⟨_, he, fun v q => nomatch q⟩
    · rw [z]; exact ⟨o, ho, fun v q => by rw [hd] at q; cases q⟩
  keep := fun i h h' st k => let ⟨⟨old, he⟩, hi, hne⟩ := st; ⟨⟨old, k e (by simp) _ he⟩, hi.at fun o q => k it (by simp) o q, hne⟩
  item := by
    intro X hP hw hK hc i pins s σ H E I hf st hg
    subst hP hw hK
    obtain ⟨⟨old, he⟩, hit, hne⟩ := st
    obtain ⟨xs, x, hq, hx⟩ := hg
    obtain ⟨its, rv, p, hz⟩ := I.tuple hq
    obtain ⟨u, hu, ru⟩ := rv.get hx
    have hp : s.heap.IsTuple a its.toArray := p
    have hel : e < s.heap.objs.size := Heap.lt_size he
    have hil : it < s.heap.objs.size := by obtain ⟨_, q, _⟩ := hit; exact Heap.lt_size q
    have hai : a ≠ it := fun z => by
      obtain ⟨o, q1, q2, _⟩ := p
      obtain ⟨o', q3, q4, _⟩ := hit
      rw [z, q3] at q1; cases q1; rw [q4] at q2; simp at q2
    have hae : e ≠ a := fun z => by
      obtain ⟨o, q1, q2, _⟩ := p
      rw [← z, he] at q1; cases q1; simp at q2
    have hlt : i < its.toArray.size := by
      have := (List.getElem?_eq_some_iff.mp hu).1
      simpa using this
    refine wpAny_pyNext_enum_itemD (Draws.tuple (A := X.A.in1) (I.ok.hd hc) it a hai its.toArray) he ⟨hit, hp⟩ hlt hne (by simp [hne, hae]) fun x' h' tk hx' ho hst' hT hsz hk => ?_
    have ex : x' = u := by
      have h1 : its.toArray[i]? = some u := by simpa using hu
      rw [h1] at hx'; exact (Option.some.inj hx').symm
    subst ex
    refine ⟨_, rfl, wpAny_letOwnedTupleGo_enum (s := { s with heap := h', toks := tk + 1 }) ho fun h'' he' sb => ?_⟩
    have hT2 : h''.get? s.heap.objs.size = some { cls := .type "tuple", data := .seq #[.int i tk, x'] } := (sb.2 _ (Nat.ne_of_gt hel)).trans hT
    have new : ObjOk X.prog X.w (upd H s.heap.objs.size (.tup [.int (i : Nat), x])) h'' s.heap.objs.size (.tup [.int (i : Nat), x]) :=
      ⟨by show 2 ≤ sizeLine; decide, [.int i tk, x'], .cons ⟨_, rfl⟩ (.cons ru .nil), ⟨_, hT2, rfl, _, rfl⟩⟩
    have I1 : Inv X pins σ (upd H s.heap.objs.size (.tup [.int (i : Nat), x])) { s with heap := h'', toks := tk + 1 } :=
      I.turnedNew (ch := [e, it]) (fun b ob hb q => (sb.2 b (fun z => hb (by simp [z]))).trans (hk b ob (fun z => hb (by simp [z])) (fun z => hb (by simp [z])) q)) hf (Nat.le_refl _) new
    refine ⟨.ref s.heap.objs.size, _, I1, rfl, ⟨_, x, rfl, I.hok.fresh (Nat.le_refl _), rfl, fun ys hy => by rw [I.tuple_inj hy hq]; exact hx⟩, ⟨⟨x', ?_⟩, hst'.1.at fun o q => (sb.2 it (Ne.symm hne)).trans q, hne⟩, fun b hb => ?_⟩
    · have e1 : ((i + 1 : Nat) : Int) = (i : Int) + 1 := by omega
      rw [e1]; exact he'
    · have hb' : b < s.heap.objs.size := by
        have e' : b = e ∨ b = it := by simpa using hb
        rcases e' with z | z
        · rw [z]; exact hel
        · rw [z]; exact hil
      rw [upd_ne (Nat.ne_of_lt hb')]
      exact (hf b hb).1
  done := by
    intro X hP hw hK hc i pins s σ H E I hf st hg
    subst hP hw hK
    obtain ⟨⟨old, he⟩, hit, hne⟩ := st
    obtain ⟨xs, hq, hx⟩ := hg
    obtain ⟨its, rv, p, hz⟩ := I.tuple hq
    have hp : s.heap.IsTuple a its.toArray := p
    obtain ⟨f0, f1, f2, f3, f4, f5⟩ := hf it (by simp)
    have hl := rv.length
    have hT : s.TypeIs (.ref e) "enumerate" := ⟨_, he, rfl⟩
    unfold pyNext
    refine wpAny_bind (wpAny_attempt (wpAny_callSpecial?_slot (name := Str.ofString "__next__") hT F.slot_enumerate_next
      (wpAny_call_entry F.slot_enumerate_next hT F.entry_enumerate_next ?_ (F.args_enumerate_next_1 _))))
    show wpAny _ _ (field (.ref e) 2 >>= _) _ _ _
    refine wpAny_bind (wpAny_field he rfl (x := .ref it) rfl ?_)
    refine wpAny_bind (wpAny_nextOf_tuple_end (I.ok.hd hc) hit hp (by simp; omega) fun h' x he' hx' => ?_)
    obtain ⟨o, ho, hcc⟩ := hx'
    refine wpAny_bind (wpAny_isInstance (T := "StopIteration") (b := true) ⟨o, ho, hcc⟩ isSubtype_stop ?_)
    exact wpAny_pure ⟨rfl, I.turned (t' := s.toks) (fun b o hb q => he' b o hb q) f0 f1 f3 f4 f5⟩
  self := fun A i s Q E st h => let ⟨⟨_, he⟩, _⟩ := st; wpAny_pyIter_enum he h
/-- enumerate of a list or tuple -/
def iEnumA (K : PySem.W.Frag) (ta : TA) : TI := fun σ H R => ta σ H fun vs H1 => ∃ a xs, vs = [.ref a] ∧ ((SqL K H1 a xs ∧ R (Ite K a) H1) ∨ (SqT K H1 a xs ∧ R (IteT K a) H1))
theorem pi_enumA {X : Cx} {e : Expr} {ta : TA} {p pos tpos : Pos} {elts : List Expr} {kk : Nat} (hg : Gl X "enumerate") (hm : X.mg "enumerate" = none) (ha : PA X [e] ta) (hs : starEach [e] X.env = [(false, eval e X.env)] := by rfl) :
    PI X (.Tuple elts kk tpos) (.Call (.Name "enumerate" p) [e] [] pos) (iEnumA X.K ta) := by
  refine ⟨fun pins s σ H R I h => ?_⟩
  refine Call_ (ld_blt I hg hm boot_enumerate (PyProof.Rows.callWith_type1 (thn (ha.run pos pins s σ H _ I h) fun us s1 ⟨vs, H1, I1, r1, q1⟩ => ?_) hs rfl))
  obtain ⟨a, xs, ex, hq⟩ := q1
  subst ex
  cases r1 with
  | cons r rr =>
    cases rr
    cases r
    have fin : ∀ b, b = s1.heap.objs.size + 1 ∨ b = s1.heap.objs.size → s1.heap.objs.size ≤ b := fun b e' => by
      rcases e' with z | z
      · rw [z]; exact Nat.le_add_right _ _
      · rw [z]; exact Nat.le_refl _
    rcases hq with ⟨hq, q⟩ | ⟨hq, q⟩
    · obtain ⟨its, rv, p', hz⟩ := I1.list hq
      refine call_enumerate_list p'.isList fun h' he hit hsz hk => wpAny_pyIter_enum he ?_
      have I2 : Inv X pins σ H1 { s1 with heap := h' } := I1.kept (t' := s1.toks) hk
      refine ⟨s1.heap.objs.size + 1, [s1.heap.objs.size + 1, s1.heap.objs.size], _, _, H1, rfl, I2, turn_enum a (s1.heap.objs.size + 1) s1.heap.objs.size, ⟨⟨.none, he⟩, hit, Nat.succ_ne_self _⟩, fun b hb => ?_, q⟩
      have hle := fin b (by simpa using hb)
      exact I1.fpOk hle (I1.hok.fresh hle)
    · obtain ⟨its, rv, p', hz⟩ := I1.tuple hq
      have hp : s1.heap.IsTuple a its.toArray := p'
      refine call_enumT hp fun h' he hit hsz hk => wpAny_pyIter_enum he ?_
      have I2 : Inv X pins σ H1 { s1 with heap := h' } := I1.kept (t' := s1.toks) hk
      refine ⟨s1.heap.objs.size + 1, [s1.heap.objs.size + 1, s1.heap.objs.size], _, _, H1, rfl, I2, turn_enumT a (s1.heap.objs.size + 1) s1.heap.objs.size, ⟨⟨.none, he⟩, hit, Nat.succ_ne_self _⟩, fun b hb => ?_, q⟩
      have hle := fin b (by simpa using hb)
      exact I1.fpOk hle (I1.hok.fresh hle)
section
variable {K : PySem.W.Frag} {mg : Str → Option Value} {W : XK} {Hf H : Hp}
theorem itd_enumT {a : Addr} {vs : List V} {ds : List D} (h : SqT K Hf a vs) (r : Reps K Hf ds vs) : Itd K (IteT K a) Hf (enumD ds) where
  go := fun i d Hf1 H1 s1 s2 e => by
    unfold enumD at e
    rw [List.getElem?_map, List.getElem?_zipIdx] at e
    cases e1 : ds[i]? with
    | none => rw [e1] at e; cases e
    | some d0 =>
      rw [e1] at e
      simp only [Option.map_some, Nat.zero_add] at e
      cases e
      obtain ⟨v, g1, g2⟩ := reps_get r e1
      have q : SqT K H1 a vs := Same.sqT s2 (Same.sqT s1 h)
      refine ⟨⟨vs, v, q, g1⟩, fun x H2 ⟨T, x', e2, hT, e3, hx⟩ => ?_⟩
      subst e2; subst e3
      have := hx vs q
      rw [g1] at this; cases this
      obtain ⟨n, r3⟩ := pair_rep (K := K) s2 hT (show Rep K Hf1 (.int (i : Nat)) (.int (i : Nat)) by unfold Rep; rfl) (Rep.mono s1 g2)
      exact ⟨_, n, r3⟩
  stop := fun Hf1 H1 s1 s2 => ⟨vs, Same.sqT s2 (Same.sqT s1 h), by unfold enumD; simp [reps_len r]⟩
def enumA (fa : EM (List D)) : EM (List D) := bindM fa fun ds => liftO (match ds with | [.lst es] => some (enumD es) | [.tup es] => some (enumD es) | _ => none)
theorem TID.enumA {ta : TA} {fa : EM (List D)} (ha : TAD K mg W ta fa) : TID K mg W (iEnumA K ta) (enumA fa) := by
  intro Hf σ ρ H S R h
  refine ha Hf σ ρ H S _ ((Wp.bind h).mono fun ds ρ1 h1 vs Hf1 H1 s1 S1 r1 => ?_)
  obtain ⟨es, e, h2⟩ := Wp.lift h1
  match ds, e, r1 with
  | [.lst xs], e, r1 =>
    obtain ⟨v, rfl, r2⟩ := reps1 r1
    obtain ⟨a, us, rfl, g1, g2⟩ := rep_lst r2
    cases e
    exact ⟨a, us, rfl, .inl ⟨rdSeq S1.sub g1, h2 _ Hf1 H1 s1 S1 (itd_enumL g1 g2)⟩⟩
  | [.tup xs], e, r1 =>
    obtain ⟨v, rfl, r2⟩ := reps1 r1
    obtain ⟨a, us, rfl, g1, g2⟩ := rep_tup r2
    cases e
    exact ⟨a, us, rfl, .inr ⟨Same.sqT S1.sub g1, h2 _ Hf1 H1 s1 S1 (itd_enumT g1 g2)⟩⟩
end
theorem i_enumA {X : Cx} {W : XK} {a : Expr} {fr : EM (List D)} {p pos : Pos} {elts : List Expr} {kk : Nat} {tpos : Pos} (hg : Gl X "enumerate") (hm : X.mg "enumerate" = none) (ha : PAD X W [a] fr) (hs : starEach [a] X.env = [(false, eval a X.env)]) :
    PID X W (.Tuple elts kk tpos) (.Call (.Name "enumerate" p) [a] [] pos) (enumA fr) := let ⟨_, a1, a2⟩ := ha.ex; ⟨_, pi_enumA hg hm a1 hs, TID.enumA a2⟩

/-! ### dict(tuple of pairs) -/
section
variable {X : Cx}
theorem pairs_of2 {pins : List (Addr × Obj)} {σ : L2.St} {H : Hp} {s : Shared} (I : Inv X pins σ H s) : ∀ {ps : List Addr} {kvs : List (Key × V)}, Paired (fun p kv => SqT X.K H p [kV kv.1, kv.2]) ps kvs →
    ∃ (prs : List (Key × Value)) (vps : List (Value × Value)), KV kvs prs ∧ prs.length = ps.length ∧ vps.length = ps.length ∧
      ∀ (j : Nat) (u y : Value), vps[j]? = some (u, y) → ∃ (b : Addr) (key : Key), ps[j]? = some b ∧ IsTup s.heap b #[u, y] ∧ prs[j]? = some (key, y) ∧ keyIs key u = true
  | _, _, .nil => ⟨[], [], .nil, rfl, rfl, fun j u y e => by simp at e⟩
  | _, _, .cons (a := p) (b := kv) h t => by
    obtain ⟨prs, vps, r, hl, hl2, hp⟩ := pairs_of2 I t
    obtain ⟨its, rv, ht, _⟩ := I.tuple h
    obtain ⟨u, y, ei, ru, ry⟩ := vals2 rv
    subst ei
    refine ⟨(kv.1, y) :: prs, (u, y) :: vps, .cons ⟨rfl, ry⟩ r, by rw [List.length_cons, List.length_cons, hl], by rw [List.length_cons, List.length_cons, hl2], fun j u' y' e => ?_⟩
    cases j with
    | zero =>
      have e' : (u, y) = (u', y') := Option.some.inj e
      cases e'
      exact ⟨p, kv.1, rfl, ht, rfl, kV_is (P := X.prog) (w := X.w) ru⟩
    | succ j =>
      obtain ⟨b, key, e1, e2, e3, e4⟩ := hp j u' y' (by simpa using e)
      exact ⟨b, key, by simpa using e1, e2, by simpa using e3, e4⟩
/-- dict(t), t a plain tuple of pairs: later pairs win, the place is the first one's -/
def rDictT (K : PySem.W.Frag) : List V → Hp → VK → Prop := fun xs H Q => ∃ (a : Addr) (ps : List Addr) (kvs : List (Key × V)), xs = [.ref a] ∧ ExT K H a (ps.map V.ref) ∧ Paired (fun p kv => SqT K H p [kV kv.1, kv.2]) ps kvs ∧
  ∀ p, H p = none → Q (.ref p) (upd H p (.dK (mergeK [] kvs)))
theorem exT_at {pins : List (Addr × Obj)} {σ : L2.St} {H : Hp} {s : Shared} (I : Inv X pins σ H s) {a : Addr} {vs : List V} (h : ExT X.K H a vs) : ∃ (o : Obj) (its : List Value) (n : Nat), s.heap.get? a = some o ∧ o.cls = .type "tuple" ∧ o.dict = none ∧ o.data = .seq its.toArray n ∧ Vals vs its ∧ vs.length ≤ sizeLine := by
  rcases h with ⟨o, h, ho⟩ | ⟨o, its, n, h1, h2, h3, h4, h5, h6⟩
  · obtain ⟨e, z, its, r, o', e', c, n, d⟩ := I.hok a _ h
    rw [e] at e'; cases e'
    exact ⟨o, its, n, e, c, ho, d, r, z⟩
  · refine ⟨o, its.toList, n, I.kIn a o h1, h2, h3, by simpa using h4, h6, ?_⟩
    rw [h6.length]; simpa using h5
theorem call_dictT (hcalm : X.calm = true) : CallR X (.type "dict") (rDictT X.K) := by
  intro pins s σ H xs us Q I r q
  obtain ⟨a, ps, kvs, ex, hq, hp, q⟩ := q
  subst ex
  obtain ⟨u, eu, rx⟩ := vals1 r
  subst eu
  cases rx
  obtain ⟨o, its, n, ho, hc, hd, hdat, rv, hz⟩ := exT_at I hq
  have ei := refs_at rv
  subst ei
  rw [List.length_map] at hz
  obtain ⟨prs, vps, rel, hl, hl2, hpr⟩ := pairs_of2 I hp
  refine PySem.call_dict_pairs (knd := mixKind X.prog X.w) (kvs := prs) (PySem.PairArg.tuple a (ps.map Value.ref).toArray (fun j => ps.getD j 0) vps) (I.ok.hd hcalm)
    ⟨⟨o, n, ho, hc, hd, hdat⟩, by simp [hl2], fun j k v e => ?_⟩ ⟨by rw [hl, hl2], fun i key v e => ?_⟩ (by rw [hl2]; exact hz) fun h' tk hd' k => ?_
  · obtain ⟨b, key, e1, e2, e3, e4⟩ := hpr j k v e
    have e5 : ps.getD j 0 = b := by rw [List.getD_eq_getElem?_getD, e1]; rfl
    show (ps.map Value.ref).toArray[j]? = some (.ref (ps.getD j 0)) ∧ PairAt s.heap (ps.getD j 0) k v
    rw [e5]
    exact ⟨by simp [e1], .inl e2⟩
  · obtain ⟨b, key', e1, e2, e3, e4⟩ := hpr i key v e
    exact ⟨key', e3, e4⟩
  · have hm : (s.heap.objs.size == sysModules) = false := beq_eq_false_iff_ne.mpr (Nat.ne_of_gt I.big)
    have hlen : (mergeK [] kvs).length ≤ sizeLine := by
      refine Nat.le_trans (length_mergeK kvs []) ?_
      rw [List.length_nil, Nat.zero_add, rel.length, hl]
      exact hz
    exact ⟨.ref s.heap.objs.size, upd H s.heap.objs.size (.dK (mergeK [] kvs)), I.laid (t' := tk) (fun b o e => k b o (by simp) e) (Nat.le_refl _) (show ObjOk X.prog X.w _ _ _ (.dK (mergeK [] kvs)) from ⟨hlen, hm, merged [] prs, KV.merge rel .nil, hd'⟩), rfl, q _ (I.hok.fresh (Nat.le_refl _))⟩
end
section
variable {K : PySem.W.Frag} {mg : Str → Option Value} {W : XK} {Hf H : Hp}
def mergeD : List (D × D) → List D → Option (List (D × D))
  | acc, [] => some acc
  | acc, d :: ds => match d with
    | .tup [k, x] => match keyD k with
      | some key => mergeD (putD acc k key x) ds
      | none => none
    | _ => none
theorem merge_rep (s : Same Hf H) : ∀ {ds : List D} {vs : List V} {acc out : List (D × D)} {av : List (Key × V)}, Reps K Hf ds vs → Repk K Hf acc av → mergeD acc ds = some out →
    ∃ (ps : List Addr) (kvs : List (Key × V)), vs = ps.map V.ref ∧ Paired (fun p kv => SqT K H p [kV kv.1, kv.2]) ps kvs ∧ Repk K Hf out (mergeK av kvs)
  | [], vs, acc, out, av, r, ra, e => by
    unfold Reps at r
    subst r
    cases e
    exact ⟨[], [], rfl, .nil, ra⟩
  | d :: ds, vs, acc, out, av, r, ra, e => by
    unfold Reps at r
    obtain ⟨v, vr, rfl, r1, r2⟩ := r
    match d, e, r1 with
    | .tup [k, x], e, r1 =>
      unfold mergeD at e
      simp only at e
      cases ek : keyD k with
      | none => rw [ek] at e; cases e
      | some key =>
        rw [ek] at e
        obtain ⟨b, us, rfl, g1, g2⟩ := rep_tup r1
        obtain ⟨u, y, rfl, g3, g4⟩ := reps2 g2
        have hk := keyD_rep ek g3
        subst hk
        obtain ⟨ps, kvs, rfl, hp, hr⟩ := merge_rep s r2 (repk_put ek g4 ra) e
        exact ⟨b :: ps, (key, y) :: kvs, rfl, .cons (Same.sqT s g1) hp, hr⟩
def dictF2 : List D → Option D
  | [.dct kvs] => some (.dct kvs)
  | [.tup ds] => (mergeD [] ds).map .dct
  | _ => none
def rDictA (K : PySem.W.Frag) : List V → Hp → VK → Prop := fun xs H Q => rDictC xs H Q ∨ rDictT K xs H Q
theorem cr_dictA {X : Cx} (hc : X.calm = true) : CallR X (.type "dict") (rDictA X.K) := CallR.or cr_dictC (call_dictT hc)
theorem rdc_dictA : RDCF K (rDictA K) dictF2 := by
  intro Hf H xs ds dz s r e Q k
  match ds, e, r with
  | [.dct kvs], e, r => exact .inl (rdc_dictC Hf H xs _ dz s r e Q k)
  | [.tup es], e, r =>
    obtain ⟨out, e1, rfl⟩ := map_inv e
    obtain ⟨v, rfl, r1⟩ := reps1 r
    obtain ⟨a, vs, rfl, g1, g2⟩ := rep_tupX r1
    obtain ⟨ps, kvs, rfl, hp, hr⟩ := merge_rep s g2 (show Repk K Hf [] [] by unfold Repk; rfl) e1
    exact .inr ⟨a, ps, kvs, rfl, Same.exT s g1, hp, fun p hz => k p _ _ (New.fresh s hz) hz (none_sub s hz) ⟨_, upd_same, hr⟩⟩
end
end DL

/-! The D layer, 18: x in range(n) as a test; a, b = new, x of names that a block reads. -/
namespace DL
open PySem L2 PySem.W

section
variable {X : Cx} {W : XK} {a b : Expr} {fa fb : EM D} {pos : Pos}
theorem b_inRg {p q : Pos} (hg : Gl X "range") (hm : X.mg "range" = none) (ha : PD X W a fa) (hb : PD X W b fb) (n1 : starEach [b] X.env = (false, eval b X.env) :: starEach [] X.env) (h1 : behindInMarks .In (.Call (.Name "range" p) [b] [] q) = false) :
    PB X W (.Compare a [.In] [.Call (.Name "range" p) [b] [] q] pos) (testE (inRgE fa fb)) :=
  let ⟨_, a1, a2⟩ := ha.ex; let ⟨_, b1, b2⟩ := hb.ex; ⟨_, pt_cmpR op_in_rng a1 (pe_callTy cr_rng1 hg hm bb_range (pa_cons b1 pa_nil n1) (by decide) (by decide) n1 rfl) h1, TB.test (TD.inRg a2 b2)⟩
end

section
variable {K : PySem.W.Frag} {mg : Str → Option Value} {W : XK} {Hf H Hf2 H2 : Hp} {σ : L2.St} {ρ ρ2 : Ro}
/-- the end of a, b = new, x -/
theorem parNew_end {i j : Nat} {a : Addr} {d e : D} {v : V} {E : Ends} (S2 : SR K Hf2 σ ρ2 H2) (hf2 : Hf2 a = none) (ro2 : RepO K Hf2 H2 d a) (no2 : ¬ OA σ ρ2 a) (ha0 : H a = none) (s1 : Stp Hf σ ρ H Hf2 σ ρ2 H2) (r2 : Rep K Hf2 e v)
    (h2 : Wp K mg W ((match ρ2[i]? with
      | none => .bad
      | some (.p _) => .bad
      | some _ => match setT j e (ρ2.set i (.o d)) with
        | some ρ3 => .ok .nx ρ3
        | none => .bad : Res Fl)) (Cont K E Hf σ ρ H)) : E.nx ((σ.set i (some (.ref a))).set j (some v)) H2 := by
  cases e1 : ρ2[i]? with
  | none => rw [e1] at h2; exact h2.elim
  | some x =>
    have hl : i < ρ2.length := (List.getElem?_eq_some_iff.mp e1).1
    rw [e1] at h2
    have go : (∀ d' : D, x ≠ Sl.p d') → Wp K mg W ((match setT j e (ρ2.set i (.o d)) with | some ρ3 => .ok .nx ρ3 | none => .bad : Res Fl)) (Cont K E Hf σ ρ H) → E.nx ((σ.set i (some (.ref a))).set j (some v)) H2 := fun hx h2 => by
      obtain ⟨s3, S3⟩ := set_o S2 hf2 ro2 no2 hl (fun d' z => by rw [e1] at z; exact hx d' (Option.some.inj z)) s1 ha0
      cases e2 : setT j e (ρ2.set i (.o d)) with
      | none => rw [e2] at h2; exact h2.elim
      | some ρ3 =>
        rw [e2] at h2
        obtain ⟨b1, b2, rfl⟩ := setT_inv e2
        obtain ⟨s4, S4⟩ := set_v S3 r2 b1 b2
        exact h2 Hf2 _ H2 (s3.trans s4) S4
    cases x with
    | p d' => exact h2.elim
    | u => exact go (fun _ z => by cases z) h2
    | v d' => exact go (fun _ z => by cases z) h2
    | o d' => exact go (fun _ z => by cases z) h2
theorem TSD.parNewT {i j : Nat} {ta tb : TE} {fa fb : EM D} (ha : TF K mg W ta fa) (hb : TD K mg W tb fb) : TSD K mg W (tAsg (tTup (tCons ta (tCons tb tNil))) (gTup K 2 (gCons (gName i) (gCons (gName j) gNil)))) (parNewS i j fa fb) := by
  intro Hf σ ρ H S E h
  refine ha Hf σ ρ H S _ ((Wp.rbind h).mono fun d ρ1 h1 a Hf1 H1 s1 S1 ha0 hf1 ro no1 => ?_)
  refine hb Hf1 σ ρ1 H1 S1 _ ((Wp.rbind h1).mono fun e ρ2 h2 v Hf2 H2 s2 S2 r2 => ?_)
  obtain ⟨o, ea⟩ : ∃ o, H1 a = some o := by
    cases e : H1 a with
    | none => exact absurd e ro.there
    | some o => exact ⟨o, rfl⟩
  have k2 : H2 a = some o := s2.keep a o ea no1
  have hf2 : Hf2 a = none := s2.out a ro.there hf1 fun z => no1 z.oa
  have ro2 : RepO K Hf2 H2 d a := RepO.mono s2.fz (by rw [k2, ea]) ro
  have no2 : ¬ OA σ ρ2 a := fun z => by
    rcases s2.oa z with z | z
    · exact ro.there z
    · exact no1 z
  refine ⟨show 2 ≤ sizeLine by decide, fun p hp => ?_⟩
  have na : a ≠ p := fun z => by rw [z, hp] at k2; cases k2
  have n : New Hf2 H2 Hf2 (upd H2 p (.tup [.ref a, v])) := New.fresh S2.sub hp
  refine ⟨p, _, rfl, SqT.of upd_same, rfl, _, _, rfl, _, _, rfl, rfl, ?_⟩
  exact parNew_end (n.sr S2) hf2 (RepO.mono (fun _ _ h => h) (upd_ne na) ro2) no2 ha0 ((s1.trans s2).trans n.stp) r2 h2
end
section
variable {X : Cx} {W : XK} {a b : Expr} {fa fb : EM D} {pos : Pos}
theorem s_parNewT (i j : Nat) {x y : Str} {px py pt : Pos} {kt k2 pt2} (hc : X.calm = true) (hN : X.N.Nodup) (hi : X.N[i]? = some x) (hj : X.N[j]? = some y)
    (hx : Loc X.env.scope x) (hy : Loc X.env.scope y) (hfx : X.fn x = true ∨ X.env.scope.names.lookup x = some .local) (hfy : X.fn y = true ∨ X.env.scope.names.lookup y = some .local)
    (ha : PF X W a fa) (hb : PD X W b fb) (n1 : starEach [a, b] X.env = (false, eval a X.env) :: starEach [b] X.env) (n2 : starEach [b] X.env = (false, eval b X.env) :: starEach [] X.env)
    (g1 : (assignEach [.Name x px, .Name y py] X.env).map (·.2) = assign (.Name x px) X.env :: (assignEach [.Name y py] X.env).map (·.2)) (g2 : (assignEach [.Name y py] X.env).map (·.2) = assign (.Name y py) X.env :: (assignEach [] X.env).map (·.2))
    (hn : (assignEach [.Name x px, .Name y py] X.env).length = 2) (hst : (assignEach [.Name x px, .Name y py] X.env).findIdx? (·.1) = none)
    (hs : swapsWithSole [.Tuple [.Name x px, .Name y py] kt pt] (.Tuple [a, b] k2 pt2) pos.line X.env = pure false)
    (hw : swappedStores [.Tuple [.Name x px, .Name y py] kt pt] (.Tuple [a, b] k2 pt2) X.env = pure none)
    (h1 : (assignEach [.Tuple [.Name x px, .Name y py] kt pt] X.env).map (·.2) = [assign (.Tuple [.Name x px, .Name y py] kt pt) X.env]) :
    PSD X W (.Assign [.Tuple [.Name x px, .Name y py] kt pt] (.Tuple [a, b] k2 pt2) pos) (parNewS i j fa fb) := let ⟨_, a1, a2⟩ := ha.ex; let ⟨_, b1, b2⟩ := hb.ex;
  ⟨_, ps_asg (pe_tup (pa_cons a1 (pa_cons b1 pa_nil n2) n1)) (pg_tup hc (pgs_cons (pg_name hN hi hx hfx) (pgs_cons (pg_name hN hj hy hfy) pgs_nil g2) g1) hn hst) hs hw h1, TSD.parNewT a2 b2⟩
end
end DL

/-! The D layer, 19: dict(zip(t, u)) of two tuples or two lists. -/
namespace DL
open PySem L2 PySem.W PySem.Calls PyProof.Rows
open Sem (wp)

section
variable {prog : Program} {w : World} {A : Around} {E : Value → Shared → Prop} {s : Shared}
/-- the next pair while the one before is still held -/
theorem zt_item {z TI TO T i1 i2 t1 t2 : Addr} {f : Bool} {oT : Obj} {k1 k2 : Nat} {xs ys : Array Value} {x y : Value} {Q : Option Value → Shared → Prop} (D : ZipApart z TI TO i1 i2 t1 t2)
    (hz : IsZipHeld s.heap z TI TO T f) (hT : s.heap.get? T = some oT) (hTI : IsPair s.heap TI (.ref i1) (.ref i2))
    (j1 : s.heap.IsTupleIter i1 t1 k1) (j2 : s.heap.IsTupleIter i2 t2 k2) (ht1 : s.heap.IsTuple t1 xs) (ht2 : s.heap.IsTuple t2 ys) (hx : xs[k1]? = some x) (hy : ys[k2]? = some y)
    (hQ : ∀ g, IsZipHeld g z TI TO T true → g.IsTupleIter i1 t1 (k1 + 1) → g.IsTupleIter i2 t2 (k2 + 1) → IsPair g s.heap.objs.size x y → g.objs.size = s.heap.objs.size + 1 →
      (∀ c o, c ≠ z → c ≠ i1 → c ≠ i2 → s.heap.get? c = some o → g.get? c = some o) → Q (some (.ref s.heap.objs.size)) { s with heap := g }) :
    wpAny (model prog w) A (pyNext (.ref z)) Q E s := by
  have ty : s.TypeIs (.ref z) "zip" := ⟨_, hz, rfl⟩
  unfold pyNext
  refine wpAny_bind (wpAny_attempt (wpAny_callSpecial?_slot (name := Str.ofString "__next__") ty F.slot_zip_next (wpAny_call_entry F.slot_zip_next ty F.entry_zip_next ?_ (F.args_zip_next_1 _))))
  show wpAny _ _ (field (.ref z) 2 >>= _) _ _ _
  refine wpAny_bind (wpAny_field hz rfl (x := .bool false) rfl ?_)
  show wpAny _ _ (field (.ref z) 3 >>= _) _ _ _
  refine wpAny_bind (wpAny_field hz rfl (x := .ref TI) rfl (wpAny_bind (wpAny_seqItems hTI rfl ?_)))
  show wpAny _ _ (Builtin.SmallTypes.ownedTupleIsFree (.ref z) >>= _) _ _ _
  refine wpAny_bind (wpAny_tupleHeld_zip hz hT fun g1 z1 b1 => ?_)
  simp only [Bool.false_eq_true, if_false]
  refine wpAny_bind ?_
  rw [← Array.forIn_toList]
  simp only [List.forIn_cons, List.forIn_nil]
  refine wpAny_bind (wpAny_bind (wpAny_holding ?_))
  show wpAny _ _ (Builtin.SmallTypes.nextOf (.ref i1) >>= _) _ _ _
  refine wpAny_bind (RZ.nextOf_tuple_item (s := { s with heap := g1 }) (j1.extBut b1.extBut D.i1z) (ht1.extBut b1.extBut D.l1z) hx fun g2 j1' b2 => wpAny_pure ?_)
  refine wpAny_pure (wpAny_bind (wpAny_bind (wpAny_holding ?_)))
  show wpAny _ _ (Builtin.SmallTypes.nextOf (.ref i2) >>= _) _ _ _
  refine wpAny_bind (RZ.nextOf_tuple_item (s := { s with heap := g2 }) ((j2.extBut b1.extBut D.i2z).extBut b2.extBut D.i12.symm) ((ht2.extBut b1.extBut D.l2z).extBut b2.extBut D.l2i1) hy fun g3 j2' b3 => wpAny_pure ?_)
  refine wpAny_pure (wpAny_pure ?_)
  show wpAny _ _ (newTuple [x, y] >>= _) _ _ _
  refine wpAny_bind (wpAny_newTuple ?_)
  have sz : g3.objs.size = s.heap.objs.size := by rw [b3.1, b2.1, b1.1]
  have z3 : IsZipHeld g3 z TI TO T true := b3.extBut _ _ D.i2z.symm (b2.extBut _ _ D.i1z.symm z1)
  have kp : ∀ c o, c ≠ z → c ≠ i1 → c ≠ i2 → s.heap.get? c = some o → g3.get? c = some o := fun c o n1 n2 n3 e => b3.extBut _ _ n3 (b2.extBut _ _ n2 (b1.extBut _ _ n1 e))
  have j13 : g3.IsTupleIter i1 t1 (k1 + 1) := j1'.extBut b3.extBut D.i12
  refine wpAny_pure ⟨_, rfl, ?_⟩
  have pr : IsPair (g3.push { cls := .type "tuple", data := .seq #[x, y] }) g3.objs.size x y := Heap.get?_push_size _ rfl
  have s4 : (g3.push { cls := .type "tuple", data := .seq #[x, y] }).objs.size = g3.objs.size + 1 := Heap.size_push ..
  refine wpAny_pure ?_
  rw [sz] at pr s4
  show Q (some (.ref g3.objs.size)) _
  rw [sz]
  exact hQ _ (Heap.get?_push_of_some _ z3) (j13.at fun o e => Heap.get?_push_of_some _ e) (j2'.at fun o e => Heap.get?_push_of_some _ e) pr s4 fun c o n1 n2 n3 e => Heap.get?_push_of_some _ (kp c o n1 n2 n3 e)
theorem zt_end {z TI TO T i1 i2 t1 t2 : Addr} {f : Bool} {oT : Obj} {k1 k2 : Nat} {xs ys : Array Value} {Q : Option Value → Shared → Prop} (hh : A.handled = none) (D : ZipApart z TI TO i1 i2 t1 t2)
    (hz : IsZipHeld s.heap z TI TO T f) (hT : s.heap.get? T = some oT) (hTI : IsPair s.heap TI (.ref i1) (.ref i2))
    (j1 : s.heap.IsTupleIter i1 t1 k1) (j2 : s.heap.IsTupleIter i2 t2 k2) (ht1 : s.heap.IsTuple t1 xs) (ht2 : s.heap.IsTuple t2 ys) (over : xs[k1]? = none ∨ ys[k2]? = none)
    (hQ : ∀ g, (∀ c o, c ≠ z → c ≠ i1 → c ≠ i2 → s.heap.get? c = some o → g.get? c = some o) → Q none { s with heap := g }) : wpAny (model prog w) A (pyNext (.ref z)) Q E s := by
  have ty : s.TypeIs (.ref z) "zip" := ⟨_, hz, rfl⟩
  have fin : ∀ (g : Heap) (e : Addr), (∀ c o, c ≠ z → c ≠ i1 → c ≠ i2 → s.heap.get? c = some o → g.get? c = some o) → (∃ o, g.get? e = some o ∧ o.cls = .type "StopIteration") →
      wpAny (model prog w) A ((isInstance (.ref e) (.type "StopIteration")) >>= fun b => if b then pure none else throw (.ref e)) Q E { s with heap := g } := fun g e k ⟨o, ho, hc⟩ => by
    refine wpAny_bind (wpAny_isInstance (T := "StopIteration") (b := true) ⟨o, ho, hc⟩ isSubtype_stop ?_)
    exact wpAny_pure (hQ _ k)
  unfold pyNext
  refine wpAny_bind (wpAny_attempt (wpAny_callSpecial?_slot (name := Str.ofString "__next__") ty F.slot_zip_next (wpAny_call_entry F.slot_zip_next ty F.entry_zip_next ?_ (F.args_zip_next_1 _))))
  show wpAny _ _ (field (.ref z) 2 >>= _) _ _ _
  refine wpAny_bind (wpAny_field hz rfl (x := .bool false) rfl ?_)
  show wpAny _ _ (field (.ref z) 3 >>= _) _ _ _
  refine wpAny_bind (wpAny_field hz rfl (x := .ref TI) rfl (wpAny_bind (wpAny_seqItems hTI rfl ?_)))
  show wpAny _ _ (Builtin.SmallTypes.ownedTupleIsFree (.ref z) >>= _) _ _ _
  refine wpAny_bind (wpAny_tupleHeld_zip hz hT fun g1 z1 b1 => ?_)
  simp only [Bool.false_eq_true, if_false]
  refine wpAny_bind ?_
  rw [← Array.forIn_toList]
  simp only [List.forIn_cons, List.forIn_nil]
  refine wpAny_bind (wpAny_bind (wpAny_holding ?_))
  show wpAny _ _ (Builtin.SmallTypes.nextOf (.ref i1) >>= _) _ _ _
  cases hx : xs[k1]? with
  | none =>
    refine wpAny_bind (RZ.nextOf_tuple_end (s := { s with heap := g1 }) hh (j1.extBut b1.extBut D.i1z) (ht1.extBut b1.extBut D.l1z) hx fun g2 e b2 he => ?_)
    exact fin g2 e (fun c o n1 n2 _ q => b2 _ _ n2 (b1.extBut _ _ n1 q)) he
  | some x =>
    have hy : ys[k2]? = none := by
      rcases over with h | h
      · rw [hx] at h; cases h
      · exact h
    refine wpAny_bind (RZ.nextOf_tuple_item (s := { s with heap := g1 }) (j1.extBut b1.extBut D.i1z) (ht1.extBut b1.extBut D.l1z) hx fun g2 j1' b2 => wpAny_pure ?_)
    refine wpAny_pure (wpAny_bind (wpAny_bind (wpAny_holding ?_)))
    show wpAny _ _ (Builtin.SmallTypes.nextOf (.ref i2) >>= _) _ _ _
    refine wpAny_bind (RZ.nextOf_tuple_end (s := { s with heap := g2 }) hh ((j2.extBut b1.extBut D.i2z).extBut b2.extBut D.i12.symm) ((ht2.extBut b1.extBut D.l2z).extBut b2.extBut D.l2i1) hy fun g3 e b3 he => ?_)
    exact fin g3 e (fun c o n1 n2 n3 q => b3 _ _ n3 (b2.extBut _ _ n2 (b1.extBut _ _ n1 q))) he
end

/-- zip of two tuples as what dict() is given -/
theorem zipArg {prog : Program} {w : World} (z TI TO i1 i2 t1 t2 : Addr) (D : ZipApart z TI TO i1 i2 t1 t2) (xs ys : Array Value) :
    PySem.PairArg prog w "zip" z [z, TI, TO, i1, i2, t1, t2] [z, TO, i1, i2] (min xs.size ys.size) (fun i k v => xs[i]? = some k ∧ ys[i]? = some v)
      (fun h => IsZip h z TI TO .none ∧ IsPair h TI (.ref i1) (.ref i2) ∧ (∃ a b, IsPair h TO a b) ∧ h.IsTupleIter i1 t1 0 ∧ h.IsTupleIter i2 t2 0 ∧ h.IsTuple t1 xs ∧ h.IsTuple t2 ys) where
  type := fun _ ok => ⟨_, ok.1, rfl⟩
  notDict := by decide
  keep := fun g g' ok kp => by
    obtain ⟨q1, q2, ⟨a, b, q3⟩, q4, q5, q6, q7⟩ := ok
    exact ⟨kp _ _ q1, kp _ _ q2, ⟨a, b, kp _ _ q3⟩, q4.at fun o e => kp _ o e, q5.at fun o e => kp _ o e, q6.at fun o e => kp _ o e, q7.at fun o e => kp _ o e⟩
  there := fun g ok b hb => by
    obtain ⟨q1, q2, ⟨a, c, q3⟩, ⟨o1, q4, _⟩, ⟨o2, q5, _⟩, ⟨o3, q6, _⟩, ⟨o4, q7, _⟩⟩ := ok
    simp only [List.mem_cons, List.not_mem_nil, or_false] at hb
    rcases hb with rfl | rfl | rfl | rfl | rfl | rfl | rfl
    · exact ⟨_, q1⟩
    · exact ⟨_, q2⟩
    · exact ⟨_, q3⟩
    · exact ⟨_, q4⟩
    · exact ⟨_, q5⟩
    · exact ⟨_, q6⟩
    · exact ⟨_, q7⟩
  sub := fun b hb => by
    simp only [List.mem_cons, List.not_mem_nil, or_false] at hb ⊢
    rcases hb with q | q | q | q <;> simp [q]
  noKeys := fun A s Q E hA ok h => getAttrOr_miss_zip ok.1 rfl rfl rfl zip_no_keys (by decide +kernel) hA h
  iter := fun A s d Q E hA ok hd off h => by
    obtain ⟨q1, q2, ⟨a, b, q3⟩, q4, q5, q6, q7⟩ := ok
    simp only [List.mem_cons, List.not_mem_nil, or_false, not_or] at off
    obtain ⟨dz, dTI, dTO, di1, di2, dt1, dt2⟩ := off
    refine wpAny_pyIter_zip q1 (h z [z, TO, i1, i2] (fun i g => IsPair g TI (.ref i1) (.ref i2) ∧ g.IsTupleIter i1 t1 i ∧ g.IsTupleIter i2 t2 i ∧ g.IsTuple t1 xs ∧ g.IsTuple t2 ys ∧
      ((IsZip g z TI TO .none ∧ ∃ a b, IsPair g TO a b) ∨ ∃ T f oT, IsZipHeld g z TI TO T f ∧ g.get? T = some oT ∧ T ≠ z ∧ T ≠ i1 ∧ T ≠ i2 ∧ T ≠ d)) s.heap s.toks ?_
      ⟨q2, q4, q5, q6, q7, .inl ⟨q1, a, b, q3⟩⟩ (fun _ _ e => e) fun b hb => .inl hb)
    exact {
      off := fun hm => by
        simp only [List.mem_cons, List.not_mem_nil, or_false] at hm
        rcases hm with e | e | e | e
        · exact dz e
        · exact dTO e
        · exact di1 e
        · exact di2 e
      frame := fun i g g' st kp => by
        obtain ⟨p2, p4, p5, p6, p7, pz⟩ := st
        refine ⟨kp _ _ (Ne.symm dTI) p2, p4.at fun o e => kp _ o (Ne.symm di1) e, p5.at fun o e => kp _ o (Ne.symm di2) e, p6.at fun o e => kp _ o (Ne.symm dt1) e, p7.at fun o e => kp _ o (Ne.symm dt2) e, ?_⟩
        rcases pz with ⟨p1, a, b, p3⟩ | ⟨T, f, oT, p1, pT, r1, r2, r3, r4⟩
        · exact .inl ⟨kp _ _ (Ne.symm dz) p1, a, b, kp _ _ (Ne.symm dTO) p3⟩
        · exact .inr ⟨T, f, oT, kp _ _ (Ne.symm dz) p1, kp _ _ r4 pT, r1, r2, r3, r4⟩
      item := fun i st Q1 E1 hi ok hds hQ => by
        obtain ⟨p2, p4, p5, p6, p7, pz⟩ := ok
        have e1 := Array.getElem?_eq_getElem (show i < xs.size by omega)
        have e2 := Array.getElem?_eq_getElem (show i < ys.size by omega)
        have lt : ∀ {c o}, st.heap.get? c = some o → st.heap.objs.size ≠ c := fun e => Nat.ne_of_gt (Heap.lt_size e)
        have n1 : st.heap.objs.size ≠ i1 := let ⟨_, e, _⟩ := p4; lt e
        have n2 : st.heap.objs.size ≠ i2 := let ⟨_, e, _⟩ := p5; lt e
        rcases pz with ⟨p1, a, b, p3⟩ | ⟨T, f, oT, p1, pT, r1, r2, r3, r4⟩
        · refine RZ.pyNext_zipT_item D p1 p2 p3 p4 p5 p6 p7 e1 e2 fun g a1 a2 a3 a4 a5 a6 kp => ?_
          refine hQ st.heap.objs.size _ _ g st.toks ⟨e1, e2⟩ (.inl ⟨_, a5, rfl, _, rfl⟩) ⟨kp _ _ D.TIz D.TITO D.TIi1 D.TIi2 p2, a3, a4, p6.at fun o e => kp _ o D.l1z D.l1TO D.l1i1 D.l1i2 e, p7.at fun o e => kp _ o D.l2z D.l2TO D.l2i1 D.l2i2 e,
            .inr ⟨st.heap.objs.size, false, _, a1, a5, lt p1, n1, n2, Nat.ne_of_gt hds⟩⟩ fun c o hc e => ?_
          simp only [List.mem_cons, List.not_mem_nil, or_false, not_or] at hc
          exact kp c o hc.1 hc.2.1 hc.2.2.1 hc.2.2.2 e
        · refine zt_item D p1 pT p2 p4 p5 p6 p7 e1 e2 fun g a1 a3 a4 a5 a6 kp => ?_
          refine hQ st.heap.objs.size _ _ g st.toks ⟨e1, e2⟩ (.inl ⟨_, a5, rfl, _, rfl⟩) ⟨kp _ _ D.TIz D.TIi1 D.TIi2 p2, a3, a4, p6.at fun o e => kp _ o D.l1z D.l1i1 D.l1i2 e, p7.at fun o e => kp _ o D.l2z D.l2i1 D.l2i2 e,
            .inr ⟨T, true, oT, a1, kp _ _ r1 r2 r3 pT, r1, r2, r3, r4⟩⟩ fun c o hc e => ?_
          simp only [List.mem_cons, List.not_mem_nil, or_false, not_or] at hc
          exact kp c o hc.1 hc.2.2.1 hc.2.2.2 e
      done := fun st Q1 E1 ok hQ => by
        obtain ⟨p2, p4, p5, p6, p7, pz⟩ := ok
        have over : xs[min xs.size ys.size]? = none ∨ ys[min xs.size ys.size]? = none := by
          rcases Nat.le_total xs.size ys.size with h | h
          · exact .inl (Array.getElem?_eq_none (by omega))
          · exact .inr (Array.getElem?_eq_none (by omega))
        rcases pz with ⟨p1, a, b, p3⟩ | ⟨T, f, oT, p1, pT, r1, r2, r3, r4⟩
        · refine RZ.pyNext_zipT_end hA D p1 p2 p3 p4 p5 p6 p7 over fun g kp => hQ g st.toks fun c o hc e => ?_
          simp only [List.mem_cons, List.not_mem_nil, or_false, not_or] at hc
          exact kp c o hc.1 hc.2.1 hc.2.2.1 hc.2.2.2 e
        · refine zt_end hA D p1 pT p2 p4 p5 p6 p7 over fun g kp => hQ g st.toks fun c o hc e => ?_
          simp only [List.mem_cons, List.not_mem_nil, or_false, not_or] at hc
          exact kp c o hc.1 hc.2.2.1 hc.2.2.2 e }
/-- dict(zip(a, b)) -/
def tDictZip (K : PySem.W.Frag) (ta : TA) : TE := fun σ H Q => ta σ H fun vs H1 => ∃ (a b : Addr) (ks : List Key) (us : List V), vs = [.ref a, .ref b] ∧ ((SqL K H1 a (ks.map kV) ∧ SqL K H1 b us) ∨ (SqT K H1 a (ks.map kV) ∧ SqT K H1 b us)) ∧
  ∀ p, H1 p = none → Q (.ref p) (upd H1 p (.dK (mergeK [] (ks.zip us))))
theorem key_pairs {P : Program} {w : World} : ∀ {ks : List Key} {us : List V} {its its2 : List Value}, Vals (ks.map kV) its → Vals us its2 → ∃ prs : List (Key × Value), KV (ks.zip us) prs ∧ prs.length = min its.length its2.length ∧
    ∀ (i : Nat) (u y : Value), its[i]? = some u → its2[i]? = some y → ∃ k, prs[i]? = some (k, y) ∧ keyIs k u = true
  | [], us, its, its2, r1, r2 => by
    cases r1
    exact ⟨[], .nil, by simp, fun i u y h => by simp at h⟩
  | k :: ks, [], its, its2, r1, r2 => by
    cases r2
    exact ⟨[], .nil, by simp, fun i u y _ h => by simp at h⟩
  | k :: ks, v :: us, its, its2, r1, r2 => by
    rw [List.map_cons] at r1
    cases r1 with
    | cons h1 t1 =>
      cases r2 with
      | cons h2 t2 =>
        rename_i u0 _ y0 _
        obtain ⟨prs, a1, a2, a3⟩ := key_pairs (P := P) (w := w) t1 t2
        refine ⟨(k, y0) :: prs, .cons ⟨rfl, h2⟩ a1, by simp only [List.length_cons]; omega, fun i u y e1 e2 => ?_⟩
        cases i with
        | zero =>
          simp at e1 e2
          subst e1 e2
          exact ⟨k, rfl, kV_is (P := P) (w := w) h1⟩
        | succ i =>
          obtain ⟨k', b1, b2⟩ := a3 i u y (by simpa using e1) (by simpa using e2)
          exact ⟨k', by simpa using b1, b2⟩
theorem pe_dictZip {X : Cx} {e e2 : Expr} {ta : TA} {p p2 pos pos2 : Pos} (hc : X.calm = true) (hg : Gl X "dict") (hm : X.mg "dict" = none) (hg2 : Gl X "zip") (hm2 : X.mg "zip" = none) (ha : PA X [e, e2] ta)
    (hs : starEach [e, e2] X.env = (false, eval e X.env) :: starEach [e2] X.env) (hpl : (backTo pos2 (starEach [e2] X.env)).any (·.1) = false)
    (na : starEach [.Call (.Name "zip" p2) [e, e2] [] pos2] X.env = (false, eval (.Call (.Name "zip" p2) [e, e2] [] pos2) X.env) :: starEach [] X.env) :
    PE X (.Call (.Name "dict" p) [.Call (.Name "zip" p2) [e, e2] [] pos2] [] pos) (tDictZip X.K ta) := by
  refine ⟨fun pins s σ H Q I h => Call_ (ld_blt I hg hm boot_dict (PyProof.Rows.callWith_type1 (PyProof.Rows.args_cons (Call_ (ld_blt I hg2 hm2 boot_zip (PyProof.Rows.callWith_type1 (thn (ha.run pos2 pins s σ H _ I h) fun us s1 ⟨vs, H1, I1, r1, a, b, ks, ws, ex, hq, q⟩ => ?_) hs hpl))) na) na rfl))⟩
  subst ex
  cases r1 with
  | cons r rr =>
    cases rr with
    | cons r' rr =>
      cases rr
      cases r
      cases r'
      have ends : ∀ (g : Heap) (its its2 : List Value) (OK : Heap → Prop) (wr fp : List Addr), (∀ c o, s1.heap.get? c = some o → g.get? c = some o) → Inv X pins σ H1 { s1 with heap := g } → its.length ≤ sizeLine → Vals (ks.map kV) its → Vals ws its2 →
          (∀ b ∈ wr, s1.heap.get? b = none) → s1.heap.objs.size ≤ g.objs.size →
          PySem.PairArg X.prog X.w "zip" (s1.heap.objs.size + 4) fp wr (min its.toArray.size its2.toArray.size) (fun i k v => its.toArray[i]? = some k ∧ its2.toArray[i]? = some v) OK → OK g →
          wpAny (model X.prog X.w) X.A (call (.type "dict") [.ref (s1.heap.objs.size + 4)]) (EP X pins σ Q) X.xe { s1 with heap := g } := fun g its its2 OK wr fp kp I2 hz v1 v2 hwr hsz P ok => by
        obtain ⟨prs, rel, hl, hp⟩ := key_pairs (P := X.prog) (w := X.w) v1 v2
        refine PySem.call_dict_pairs (knd := mixKind X.prog X.w) (kvs := prs) P (I2.ok.hd hc) ok ⟨by rw [hl]; simp, fun i key v e => ?_⟩ (by simp; omega) fun h' tk hd' k => ?_
        · obtain ⟨key', e3, e4⟩ := hp i key v (by simpa using e.1) (by simpa using e.2)
          exact ⟨key', e3, e4⟩
        · have hm : (g.objs.size == sysModules) = false := beq_eq_false_iff_ne.mpr (Nat.ne_of_gt I2.big)
          have hlen : (mergeK [] (ks.zip ws)).length ≤ sizeLine := by
            refine Nat.le_trans (length_mergeK (ks.zip ws) []) ?_
            rw [List.length_nil, Nat.zero_add, rel.length, hl]
            omega
          have J : Inv X pins σ (upd H1 g.objs.size (.dK (mergeK [] (ks.zip ws)))) { s1 with heap := h', toks := tk } :=
            I1.laid (t' := tk) (fun c o z => k c o (fun hm' => by rw [hwr c hm'] at z; cases z) (kp c o z)) hsz (show ObjOk X.prog X.w _ _ _ (.dK (mergeK [] (ks.zip ws))) from ⟨hlen, hm, merged [] prs, KV.merge rel .nil, hd'⟩)
          exact ⟨.ref g.objs.size, _, J, rfl, q _ (I2.hok.fresh (Nat.le_refl _))⟩
      have fresh : ∀ c, s1.heap.objs.size ≤ c → s1.heap.get? c = none := fun c hc => Heap.get?_none_of_le hc
      rcases hq with ⟨hx, hy⟩ | ⟨hx, hy⟩
      · obtain ⟨its, v1, g1, z1⟩ := I1.list hx
        obtain ⟨its2, v2, g2, _⟩ := I1.list hy
        refine call_zip_2 g1.isList g2.isList fun h' hz hTI hTO j1 j2 hsz hk => args_nil ?_
        have I2 : Inv X pins σ H1 { s1 with heap := h' } := I1.kept (t' := s1.toks) hk
        refine ends h' its its2 _ _ _ hk I2 (by rw [← v1.length]; exact z1) v1 v2 ?_ (by show _ ≤ h'.objs.size; omega) (PySem.PairArg.zip _ _ _ _ _ a b (PySem.W.ktu_apart s1.heap.objs.size a b g1.lt g2.lt) its.toArray its2.toArray) ⟨hz, hTI, ⟨_, _, hTO⟩, j1, j2, g1.isList.at fun o e => hk _ _ e, g2.isList.at fun o e => hk _ _ e⟩
        intro c hcm
        simp only [List.mem_cons, List.not_mem_nil, or_false] at hcm
        exact fresh c (by rcases hcm with e | e | e | e <;> rw [e] <;> omega)
      · obtain ⟨its, v1, g1, z1⟩ := I1.tuple hx
        obtain ⟨its2, v2, g2, _⟩ := I1.tuple hy
        have u1 : s1.heap.IsTuple a its.toArray := g1
        have u2 : s1.heap.IsTuple b its2.toArray := g2
        refine RZ.call_zipT u1 u2 fun h' hz hTI hTO j1 j2 hsz hk => args_nil ?_
        have I2 : Inv X pins σ H1 { s1 with heap := h' } := I1.kept (t' := s1.toks) hk
        refine ends h' its its2 _ _ _ hk I2 (by rw [← v1.length]; exact z1) v1 v2 ?_ (by show _ ≤ h'.objs.size; omega) (zipArg _ _ _ _ _ a b (PySem.W.ktu_apart s1.heap.objs.size a b g1.lt g2.lt) its.toArray its2.toArray) ⟨hz, hTI, ⟨_, _, hTO⟩, j1, j2, u1.at fun o e => hk _ _ e, u2.at fun o e => hk _ _ e⟩
        intro c hcm
        simp only [List.mem_cons, List.not_mem_nil, or_false] at hcm
        exact fresh c (by rcases hcm with e | e | e | e <;> rw [e] <;> omega)
end DL

/-! The D layer, 20: dict(zip(a, b)) on data; k in d; a, b, c = x, new, y. -/
namespace DL
open PySem L2 PySem.W

section
variable {K : PySem.W.Frag} {mg : Str → Option Value} {W : XK} {Hf H : Hp}
def keysD : List D → Option (List Key)
  | [] => some []
  | d :: ds => match keyD d, keysD ds with
    | some k, some ks => some (k :: ks)
    | _, _ => none
def mergeZ : List (D × D) → List D → List D → Option (List (D × D))
  | acc, k :: ks, v :: vs => match keyD k with
    | some key => mergeZ (putD acc k key v) ks vs
    | none => none
  | acc, _, _ => some acc
theorem keys_rep : ∀ {ds : List D} {ks : List Key} {vs : List V}, keysD ds = some ks → Reps K Hf ds vs → vs = ks.map kV
  | [], ks, vs, e, r => by
    unfold Reps at r
    cases e
    exact r
  | d :: ds, ks, vs, e, r => by
    unfold Reps at r
    obtain ⟨v, vr, rfl, r1, r2⟩ := r
    unfold keysD at e
    cases e1 : keyD d with
    | none => rw [e1] at e; cases e
    | some k =>
      cases e2 : keysD ds with
      | none => rw [e1, e2] at e; cases e
      | some kr =>
        rw [e1, e2] at e
        cases e
        rw [List.map_cons, ← keyD_rep e1 r1, ← keys_rep e2 r2]
theorem mergeZ_rep : ∀ {xs ys : List D} {ks : List Key} {us : List V} {acc out : List (D × D)} {av : List (Key × V)}, keysD xs = some ks → Reps K Hf ys us → Repk K Hf acc av → mergeZ acc xs ys = some out → Repk K Hf out (mergeK av (ks.zip us))
  | [], ys, ks, us, acc, out, av, e, r, ra, em => by
    cases e
    cases em
    exact ra
  | x :: xs, [], ks, us, acc, out, av, e, r, ra, em => by
    unfold Reps at r
    subst r
    cases em
    rw [List.zip_nil_right]
    exact ra
  | x :: xs, y :: ys, ks, us, acc, out, av, e, r, ra, em => by
    unfold Reps at r
    obtain ⟨v, vr, rfl, r1, r2⟩ := r
    unfold keysD at e
    unfold mergeZ at em
    cases e1 : keyD x with
    | none => rw [e1] at em; cases em
    | some k =>
      cases e2 : keysD xs with
      | none => rw [e1, e2] at e; cases e
      | some kr =>
        rw [e1, e2] at e
        cases e
        rw [e1] at em
        have := mergeZ_rep e2 r2 (repk_put e1 r1 ra) em
        exact this
def zipF (xs ys : List D) : Option D := match keysD xs with
  | some _ => (mergeZ [] xs ys).map .dct
  | none => none
def dictZipE (fa : EM (List D)) : EM D := bindM fa fun ds => liftO (match ds with | [.tup xs, .tup ys] => zipF xs ys | [.lst xs, .lst ys] => zipF xs ys | _ => none)
theorem TF.dictZip {ta : TA} {fa : EM (List D)} (ha : TAD K mg W ta fa) : TF K mg W (tDictZip K ta) (dictZipE fa) := by
  intro Hf σ ρ H S Q h
  refine ha Hf σ ρ H S _ ((Wp.bind h).mono fun ds ρ1 h1 vs Hf1 H1 s1 S1 r1 => ?_)
  obtain ⟨dz, e, h2⟩ := Wp.lift h1
  have key : ∀ (xs ys : List D) (a b : Addr) (us ws : List V), vs = [.ref a, .ref b] → zipF xs ys = some dz → Reps K Hf1 xs us → Reps K Hf1 ys ws → ((SqL K H1 a us ∧ SqL K H1 b ws) ∨ (SqT K H1 a us ∧ SqT K H1 b ws)) →
      ∃ (a b : Addr) (ks : List Key) (us : List V), vs = [.ref a, .ref b] ∧ ((SqL K H1 a (ks.map kV) ∧ SqL K H1 b us) ∨ (SqT K H1 a (ks.map kV) ∧ SqT K H1 b us)) ∧ ∀ p, H1 p = none → Q (.ref p) (upd H1 p (.dK (mergeK [] (ks.zip us)))) := fun xs ys a b us ws ev e g1 g2 hq => by
    unfold zipF at e
    cases ek : keysD xs with
    | none => rw [ek] at e; cases e
    | some ks =>
      rw [ek] at e
      obtain ⟨out, e1, rfl⟩ := map_inv e
      have hr := mergeZ_rep ek g2 (show Repk K Hf1 [] [] by unfold Repk; rfl) e1
      have hk := keys_rep ek g1
      subst hk
      refine ⟨a, b, ks, ws, ev, hq, fun p hp => ?_⟩
      have m : New Hf1 H1 Hf1 (upd H1 p (.dK (mergeK [] (ks.zip ws)))) := New.fresh S1.sub hp
      refine h2 p Hf1 _ (s1.trans m.stp) (m.sr S1) ?_ (none_sub S1.sub hp) ⟨_, upd_same, hr⟩ (fresh_no S1 hp)
      cases e : H p with
      | none => rfl
      | some o => exact absurd hp (s1.there p (by rw [e]; simp))
  match ds, e, r1 with
  | [.tup xs, .tup ys], e, r1 =>
    obtain ⟨v, u, rfl, r2, r3⟩ := reps2 r1
    obtain ⟨a, us, rfl, g1, g2⟩ := rep_tup r2
    obtain ⟨b, ws, rfl, g3, g4⟩ := rep_tup r3
    exact key xs ys a b us ws rfl e g2 g4 (.inr ⟨Same.sqT S1.sub g1, Same.sqT S1.sub g3⟩)
  | [.lst xs, .lst ys], e, r1 =>
    obtain ⟨v, u, rfl, r2, r3⟩ := reps2 r1
    obtain ⟨a, us, rfl, g1, g2⟩ := rep_lst r2
    obtain ⟨b, ws, rfl, g3, g4⟩ := rep_lst r3
    exact key xs ys a b us ws rfl e g2 g4 (.inl ⟨rdSeq S1.sub g1, rdSeq S1.sub g3⟩)
/-- k in d -/
def rInK : R2 := fun x y H Q => ∃ a kvs k, y = .ref a ∧ Rd H a (.dK kvs) ∧ x = kV k ∧ Q (.bl (valV kvs k).isSome) H
theorem op_inK {X : Cx} (hu : X.A.units + 64 < cLine) : OpR X (compareOp .In) rInK := by
  intro pins s σ H x y v u Q I rx ry ⟨a, kvs, k, e1, g, e2, q⟩
  subst e1
  cases ry
  exact d_in (by omega) I (.inl ⟨kvs, k, g, e2, rfl⟩) rx fun s' I' => ⟨.bl (valV kvs k).isSome, H, I', rfl, q⟩
def inK (x y : D) : Option D := match y with
  | .dct kvs => (keyD x).map fun k => .bl (valD kvs k).isSome
  | _ => none
theorem rd_inK : RD K rInK inK := by
  intro Hf H x y dx dy dz s rx ry e Q k
  match dy, e, ry with
  | .dct kvs, e, ry =>
    obtain ⟨key, ek, rfl⟩ := map_inv e
    obtain ⟨a, o, vs, rfl, g1, g2⟩ := rep_dct ry
    obtain ⟨i1, i2⟩ := repk_val (k := key) g2
    have hs : (valV vs key).isSome = (valD kvs key).isSome := by
      cases ev : valD kvs key with
      | none => rw [i2 ev]; rfl
      | some d => obtain ⟨w, q1, _⟩ := i1 d ev; rw [q1]; rfl
    exact ⟨a, vs, key, rfl, .inr ⟨o, s _ _ g1⟩, keyD_rep ek rx, by rw [hs]; exact k _ H Hf (New.refl s) (by unfold Rep; rfl)⟩
end
section
variable {X : Cx} {W : XK} {e e2 : Expr} {fr : EM (List D)}
theorem f_dictZip {p p2 pos pos2 : Pos} (hc : X.calm = true) (hg : Gl X "dict") (hm : X.mg "dict" = none) (hg2 : Gl X "zip") (hm2 : X.mg "zip" = none) (ha : PAD X W [e, e2] fr)
    (hs : starEach [e, e2] X.env = (false, eval e X.env) :: starEach [e2] X.env) (hpl : (backTo pos2 (starEach [e2] X.env)).any (·.1) = false)
    (na : starEach [.Call (.Name "zip" p2) [e, e2] [] pos2] X.env = (false, eval (.Call (.Name "zip" p2) [e, e2] [] pos2) X.env) :: starEach [] X.env) :
    PF X W (.Call (.Name "dict" p) [.Call (.Name "zip" p2) [e, e2] [] pos2] [] pos) (dictZipE fr) := let ⟨_, a1, a2⟩ := ha.ex; ⟨_, pe_dictZip hc hg hm hg2 hm2 a1 hs hpl na, TF.dictZip a2⟩
end
section
variable {K : PySem.W.Frag} {mg : Str → Option Value} {W : XK} {Hf H : Hp}
/-- a, b, c = x, a new list or dict, y: b owns it -/
def parNew3S (i j l : Nat) (fa fb fc : EM D) : SM := fun ρ => (fa ρ).bind fun d ρ1 => (fb ρ1).bind fun e ρ2 => (fc ρ2).bind fun f ρ3 => match ρ3[j]? with
  | none => .bad
  | some (.p _) => .bad
  | some _ => match setT i d (ρ3.set j (.o e)) with
    | none => .bad
    | some ρ4 => match setT l f ρ4 with
      | some ρ5 => .ok .nx ρ5
      | none => .bad
theorem TSD.parNew3 {i j l : Nat} (hij : i ≠ j) {ta tb tc : TE} {fa fb fc : EM D} (ha : TD K mg W ta fa) (hb : TF K mg W tb fb) (hc : TD K mg W tc fc) : TSD K mg W (tPar3 i j l (tCons ta (tCons tb (tCons tc tNil)))) (parNew3S i j l fa fb fc) := by
  intro Hf σ ρ H S E h
  refine ha Hf σ ρ H S _ ((Wp.rbind h).mono fun d ρ1 h1 u Hf1 H1 s1 S1 r1 => ?_)
  refine hb Hf1 σ ρ1 H1 S1 _ ((Wp.rbind h1).mono fun e ρ2 h2 a Hf2 H2 s2 S2 ha0 hf2 ro no2 => ?_)
  refine hc Hf2 σ ρ2 H2 S2 _ ((Wp.rbind h2).mono fun f ρ3 h3 w Hf3 H3 s3 S3 r3 => ?_)
  refine ⟨u, .ref a, w, rfl, ?_⟩
  obtain ⟨o, ea⟩ : ∃ o, H2 a = some o := by
    cases e : H2 a with
    | none => exact absurd e ro.there
    | some o => exact ⟨o, rfl⟩
  have k3 : H3 a = some o := s3.keep a o ea no2
  have hf3 : Hf3 a = none := s3.out a ro.there hf2 fun z => no2 z.oa
  have ro3 : RepO K Hf3 H3 e a := RepO.mono s3.fz (by rw [k3, ea]) ro
  have no3 : ¬ OA σ ρ3 a := fun z => by
    rcases s3.oa z with z | z
    · exact ro.there z
    · exact no2 z
  have h0 : H a = none := by
    cases q : H a with
    | none => rfl
    | some o' => exact absurd ha0 (s1.there a (by rw [q]; simp))
  cases e1 : ρ3[j]? with
  | none => rw [e1] at h3; exact h3.elim
  | some x =>
    have hl : j < ρ3.length := (List.getElem?_eq_some_iff.mp e1).1
    rw [e1] at h3
    have go : (∀ d' : D, x ≠ Sl.p d') → Wp K mg W ((match setT i d (ρ3.set j (.o e)) with | none => .bad | some ρ4 => match setT l f ρ4 with | some ρ5 => .ok .nx ρ5 | none => .bad : Res Fl)) (Cont K E Hf σ ρ H) → E.nx (((σ.set i (some u)).set j (some (.ref a))).set l (some w)) H3 := fun hx h3 => by
      obtain ⟨s4, S4⟩ := set_o S3 hf3 ro3 no3 hl (fun d' z => by rw [e1] at z; exact hx d' (Option.some.inj z)) ((s1.trans s2).trans s3) h0
      cases e2 : setT i d (ρ3.set j (.o e)) with
      | none => rw [e2] at h3; exact h3.elim
      | some ρ4 =>
        rw [e2] at h3
        obtain ⟨b1, b2, rfl⟩ := setT_inv e2
        obtain ⟨s5, S5⟩ := set_v S4 (Rep.mono (Same.trans s2.fz s3.fz) r1) b1 b2
        simp only at h3
        cases e3 : setT l f ((ρ3.set j (.o e)).set i (.v d)) with
        | none => rw [e3] at h3; exact h3.elim
        | some ρ5 =>
          rw [e3] at h3
          obtain ⟨b3, b4, rfl⟩ := setT_inv e3
          obtain ⟨s6, S6⟩ := set_v S5 r3 b3 b4
          have := h3 Hf3 _ H3 ((s4.trans s5).trans s6) S6
          rw [List.set_comm _ _ (Ne.symm hij)] at this
          exact this
    cases x with
    | p d' => exact h3.elim
    | u => exact go (fun _ z => by cases z) h3
    | v d' => exact go (fun _ z => by cases z) h3
    | o d' => exact go (fun _ z => by cases z) h3
end
section
variable {X : Cx} {W : XK} {a b c : Expr} {fa fb fc : EM D} {pos : Pos}
theorem s_parNew3 (i j l : Nat) {x y z : Str} {px py pz pt : Pos} {kt k2 pt2} (hc : X.calm = true) (hN : X.N.Nodup) (hi : X.N[i]? = some x) (hj : X.N[j]? = some y) (hl : X.N[l]? = some z) (hij : i ≠ j) (hil : i ≠ l) (hjl : j ≠ l)
    (hx : X.env.scope.names.lookup x = some .local) (hy : X.env.scope.names.lookup y = some .local) (hz : X.env.scope.names.lookup z = some .local) (ha : PD X W a fa) (hb : PF X W b fb) (hc' : PD X W c fc)
    (n1 : starEach [a, b, c] X.env = (false, eval a X.env) :: starEach [b, c] X.env) (n2 : starEach [b, c] X.env = (false, eval b X.env) :: starEach [c] X.env) (n3 : starEach [c] X.env = (false, eval c X.env) :: starEach [] X.env)
    (hw : swappedStores [.Tuple [.Name x px, .Name y py, .Name z pz] kt pt] (.Tuple [a, b, c] k2 pt2) X.env = pure (some [x, y, z]))
    (hs : swapsWithSole [.Tuple [.Name x px, .Name y py, .Name z pz] kt pt] (.Tuple [a, b, c] k2 pt2) pos.line X.env = pure false) :
    PSD X W (.Assign [.Tuple [.Name x px, .Name y py, .Name z pz] kt pt] (.Tuple [a, b, c] k2 pt2) pos) (parNew3S i j l fa fb fc) := let ⟨_, a1, a2⟩ := ha.ex; let ⟨_, b1, b2⟩ := hb.ex; let ⟨_, c1, c2⟩ := hc'.ex;
  ⟨_, ps_par3 hc hN hi hj hl hij hil hjl hx hy hz (pa_cons a1 (pa_cons b1 (pa_cons c1 pa_nil n3) n2) n1) hw hs, TSD.parNew3 hij a2 b2 c2⟩
end
end DL

/-! The D layer, 21: a, b = new, new; k in an owned dict. -/
namespace DL
open PySem L2 PySem.W

section
variable {K : PySem.W.Frag} {mg : Str → Option Value} {W : XK} {Hf H : Hp} {σ : L2.St} {ρ : Ro}
/-- slot i gets a thing of its own, other slots may have got theirs before -/
theorem set_o2 {Hf H : Hp} {σ σ0 : L2.St} {ρ : Ro} {i : Nat} {d : D} {a : Addr} (S : SR K Hf σ ρ H) (hf : Hf a = none) (r : RepO K Hf H d a) (no : ¬ OA σ ρ a) (hl : i < ρ.length) (np : ∀ d : D, ρ[i]? ≠ some (Sl.p d)) {H0 Hf0 : Hp} {ρ0 : Ro} (s : Stp Hf0 σ0 ρ0 H0 Hf σ ρ H) (ha : H0 a = none) :
    Stp Hf0 σ0 ρ0 H0 Hf (σ.set i (some (.ref a))) (ρ.set i (.o d)) H ∧ SR K Hf (σ.set i (some (.ref a))) (ρ.set i (.o d)) H := by
  have hls : i < σ.length := by rw [S.len]; exact hl
  have old : ∀ (j : Nat) (d' : D), ((ρ.set i (.o d))[j]? = some (Sl.o d') → (i = j ∧ d' = d) ∨ (i ≠ j ∧ ρ[j]? = some (Sl.o d'))) ∧ ((ρ.set i (.o d))[j]? = some (Sl.p d') → i ≠ j ∧ ρ[j]? = some (Sl.p d')) := fun j d' => by
    rw [get_set]
    by_cases h : i = j
    · rw [if_pos h, if_pos hl]; simp [h, eq_comm]
    · rw [if_neg h]; exact ⟨fun e => .inr ⟨h, e⟩, fun e => ⟨h, e⟩⟩
  have own2 : ∀ (j : Nat) (b : Addr), OwnAt (σ.set i (some (.ref a))) (ρ.set i (.o d)) j b → (i = j ∧ b = a) ∨ (i ≠ j ∧ OwnAt σ ρ j b) := fun j b ⟨h1, d1, h2⟩ => by
    by_cases e : i = j
    · subst e
      rw [get_set, if_pos rfl, if_pos hls] at h1
      cases h1
      exact .inl ⟨rfl, rfl⟩
    · rw [get_set, if_neg e] at h1
      rw [get_set, if_neg e] at h2
      exact .inr ⟨e, h1, d1, h2⟩
  refine ⟨⟨s.fz, s.keep, s.there, s.out, fun j d' h => ?_, fun j d' h => s.pin' j d' ((old j d').2 h).2, fun b ⟨j, d', h1, h2⟩ => ?_, by simp [s.len]⟩, ⟨S.sub, by simp [S.len], fun j d' h => ?_, fun j d' h => ?_, fun j l b h1 h2 => ?_⟩⟩
  · obtain ⟨⟨d2, p1⟩, p2⟩ := s.pin j d' h
    have ne : i ≠ j := fun e => np d2 (e ▸ p1)
    exact ⟨⟨d2, by rw [get_set, if_neg ne]; exact p1⟩, by rw [get_set, if_neg ne]; exact p2⟩
  · by_cases e : i = j
    · subst e
      rw [get_set, if_pos rfl, if_pos hls] at h1
      cases h1
      exact .inl ha
    · rw [get_set, if_neg e] at h1
      rw [get_set, if_neg e] at h2
      exact s.oo b ⟨j, d', h1, h2⟩
  · rw [get_set] at h
    by_cases e : i = j
    · rw [if_pos e, if_pos hl] at h; cases h
    · rw [if_neg e] at h
      obtain ⟨w, g1, g2⟩ := S.val j d' h
      exact ⟨w, by rw [get_set, if_neg e]; exact g1, g2⟩
  · by_cases e : i = j
    · subst e
      have : d' = d := by
        rw [get_set, if_pos rfl, if_pos hl] at h
        rcases h with h | h <;> cases h <;> rfl
      subst this
      exact ⟨a, by rw [get_set, if_pos rfl, if_pos hls], hf, r⟩
    · rw [get_set, if_neg e] at h
      obtain ⟨b, g1, g2, g3⟩ := S.own j d' h
      exact ⟨b, by rw [get_set, if_neg e]; exact g1, g2, g3⟩
  · rcases own2 j b h1 with ⟨e1, e2⟩ | ⟨e1, k1⟩ <;> rcases own2 l b h2 with ⟨f1, f2⟩ | ⟨f1, k2⟩
    · rw [← e1, ← f1]
    · subst e2; exact absurd ⟨l, k2⟩ no
    · subst f2; exact absurd ⟨j, k1⟩ no
    · exact S.inj j l b k1 k2
theorem oa_set {i : Nat} {a c : Addr} {d : D} (h : OA (σ.set i (some (.ref a))) (ρ.set i (.o d)) c) : c = a ∨ OA σ ρ c := by
  obtain ⟨k, h1, d', h2⟩ := h
  by_cases e : i = k
  · subst e
    rw [get_set, if_pos rfl] at h1
    split at h1
    · have := Option.some.inj (Option.some.inj h1)
      exact .inl (V.ref.inj this).symm
    · cases h1
  · rw [get_set, if_neg e] at h1
    rw [get_set, if_neg e] at h2
    exact .inr ⟨k, h1, d', h2⟩
/-- a, b = two new lists or dicts: each owns its own -/
def parNNS (i j : Nat) (fa fb : EM D) : SM := fun ρ => (fa ρ).bind fun d ρ1 => (fb ρ1).bind fun e ρ2 => match ρ2[i]? with
  | none => .bad
  | some (.p _) => .bad
  | some _ => match (ρ2.set i (.o d))[j]? with
    | none => .bad
    | some (.p _) => .bad
    | some _ => .ok .nx ((ρ2.set i (.o d)).set j (.o e))
theorem TSD.parNN {i j : Nat} {ta tb : TE} {fa fb : EM D} (ha : TF K mg W ta fa) (hb : TF K mg W tb fb) : TSD K mg W (tPar i j (tCons ta (tCons tb tNil))) (parNNS i j fa fb) := by
  intro Hf σ ρ H S E h
  refine ha Hf σ ρ H S _ ((Wp.rbind h).mono fun d ρ1 h1 a Hf1 H1 s1 S1 ha0 hf1 ro no1 => ?_)
  refine hb Hf1 σ ρ1 H1 S1 _ ((Wp.rbind h1).mono fun e ρ2 h2 c Hf2 H2 s2 S2 hc0 hf2 ro' no2' => ?_)
  refine ⟨.ref a, .ref c, rfl, ?_⟩
  obtain ⟨o, ea⟩ : ∃ o, H1 a = some o := by
    cases e : H1 a with
    | none => exact absurd e ro.there
    | some o => exact ⟨o, rfl⟩
  have k2 : H2 a = some o := s2.keep a o ea no1
  have hfa : Hf2 a = none := s2.out a ro.there hf1 fun z => no1 z.oa
  have roa : RepO K Hf2 H2 d a := RepO.mono s2.fz (by rw [k2, ea]) ro
  have noa : ¬ OA σ ρ2 a := fun z => by
    rcases s2.oa z with z | z
    · exact ro.there z
    · exact no1 z
  have hca : c ≠ a := fun z => by rw [z, ea] at hc0; cases hc0
  have hc : H c = none := by
    cases q : H c with
    | none => rfl
    | some o' => exact absurd hc0 (s1.there c (by rw [q]; simp))
  cases e1 : ρ2[i]? with
  | none => rw [e1] at h2; exact h2.elim
  | some x =>
    have hl : i < ρ2.length := (List.getElem?_eq_some_iff.mp e1).1
    rw [e1] at h2
    have go : (∀ d' : D, x ≠ Sl.p d') → Wp K mg W ((match (ρ2.set i (.o d))[j]? with | none => .bad | some (.p _) => .bad | some _ => .ok .nx ((ρ2.set i (.o d)).set j (.o e)) : Res Fl)) (Cont K E Hf σ ρ H) → E.nx ((σ.set i (some (.ref a))).set j (some (.ref c))) H2 := fun hx h2 => by
      obtain ⟨s3, S3⟩ := set_o S2 hfa roa noa hl (fun d' z => by rw [e1] at z; exact hx d' (Option.some.inj z)) (s1.trans s2) ha0
      have noc : ¬ OA (σ.set i (some (.ref a))) (ρ2.set i (.o d)) c := fun z => by
        rcases oa_set z with z | z
        · exact hca z
        · exact no2' z
      cases e2 : (ρ2.set i (.o d))[j]? with
      | none => rw [e2] at h2; exact h2.elim
      | some y =>
        have hl2 : j < (ρ2.set i (.o d)).length := (List.getElem?_eq_some_iff.mp e2).1
        rw [e2] at h2
        have go2 : (∀ d' : D, y ≠ Sl.p d') → Wp K mg W (.ok .nx ((ρ2.set i (.o d)).set j (.o e)) : Res Fl) (Cont K E Hf σ ρ H) → E.nx ((σ.set i (some (.ref a))).set j (some (.ref c))) H2 := fun hy h2 => by
          obtain ⟨s4, S4⟩ := set_o2 S3 hf2 ro' noc hl2 (fun d' z => by rw [e2] at z; exact hy d' (Option.some.inj z)) s3 hc
          exact h2 Hf2 _ H2 s4 S4
        cases y with
        | p d' => exact h2.elim
        | u => exact go2 (fun _ z => by cases z) h2
        | v d' => exact go2 (fun _ z => by cases z) h2
        | o d' => exact go2 (fun _ z => by cases z) h2
    cases x with
    | p d' => exact h2.elim
    | u => exact go (fun _ z => by cases z) h2
    | v d' => exact go (fun _ z => by cases z) h2
    | o d' => exact go (fun _ z => by cases z) h2
end
end DL

/-! The D layer, 22: x in d.values(). -/
namespace DL
open PySem L2 PySem.W PySem.Calls PyProof.Rows
open Sem (wp)

theorem ci_entry : entryFor table "proto.contains_iter" = some Builtin.«proto.contains_iter» := entryFor_of_tree (by kernel_rfl)
theorem ci_plain : plainId "proto.contains_iter" = true := by decide +kernel
theorem no_contains : typeLookup (.type "dict_values") "__contains__" = pure none := am_miss_of_fast (by decide +kernel)
section
variable {prog : Program} {w : World} {A : Around} {E : Value → Shared → Prop} {s : Shared}
theorem ci_loop {KK : Type} [DecidableEq KK] {knd : KeyKind prog w KK} {it d : Addr} {x : Int} {tx : Tok} {ep : Nat} {kvs : List (KK × Value)} {vals : List Int} (hh : A.handled = none) (hne : d ≠ it)
    (hv : ∀ (j : Nat) (p : KK × Value), kvs[j]? = some p → ∃ i t, vals[j]? = some i ∧ p.2 = .int i t) (hlen : vals.length = kvs.length) {h0 : Heap} {R : Result → Shared → Prop}
    (hR : ∀ (g : Heap), (∀ b o, b ≠ it → h0.get? b = some o → g.get? b = some o) → R (.ok (.ret (.bool (vals.any fun y => y == x)))) { s with heap := g }) :
    ∀ (n i : Nat) (g : Heap), kvs.length - i = n → i ≤ kvs.length → (∀ y ∈ vals.take i, (y == x) = false) → g.IsValIter it d i kvs.length ep → g.DictAt knd d kvs ep → (∀ b o, b ≠ it → h0.get? b = some o → g.get? b = some o) →
      codeAny (model prog w) A (.builtin "proto.contains_iter" ⟨[.ref it, .int x tx], []⟩) R { s with heap := g } := by
  intro n
  induction n with
  | zero =>
    intro i g hn hi hno hit hm kp
    have hie : i = kvs.length := by omega
    refine codeAny_builtin ci_entry ?_
    rw [Around.under_plainId ci_plain _]
    show wpAny _ A.in1 (pyNext (.ref it) >>= _) _ _ _
    refine wpAny_bind (wpAny_pyNext_values_end (A := A.in1) hh hit hm (by simp; omega) fun g' eb => ?_)
    have hf : (vals.any fun y => y == x) = false := by
      rw [List.any_eq_false]
      intro y hy
      rw [List.take_of_length_le (by omega)] at hno
      rw [hno y hy]
      simp
    refine wpAny_bind (wpAny_rule ?_)
    have := hR g' fun b o hb e => eb b o hb (kp b o hb e)
    rw [hf] at this
    exact wpAny_pure this
  | succ n ih =>
    intro i g hn hi hno hit hm kp
    have hlt : i < kvs.length := by omega
    obtain ⟨p, hp⟩ : ∃ p, kvs[i]? = some p := ⟨kvs[i], List.getElem?_eq_getElem hlt⟩
    obtain ⟨y, t, hy, ev⟩ := hv i p hp
    refine codeAny_builtin ci_entry ?_
    rw [Around.under_plainId ci_plain _]
    show wpAny _ A.in1 (pyNext (.ref it) >>= _) _ _ _
    refine wpAny_bind (wpAny_pyNext_values_item hit hm (k := p.1) (v := p.2) hp fun g' hit' sb => ?_)
    rw [ev]
    show wpAny _ _ (eqBool (.int y t) (.int x tx) >>= _) _ _ _
    refine wpAny_bind (wpAny_eqBool_int ?_)
    cases q : (y == x) with
    | true =>
      have ht : (vals.any fun y => y == x) = true := by
        rw [List.any_eq_true]
        exact ⟨y, List.mem_of_getElem? hy, q⟩
      refine wpAny_bind (wpAny_rule ?_)
      have := hR g' fun b o hb e => sb.extBut b o hb (kp b o hb e)
      rw [ht] at this
      exact wpAny_pure this
    | false =>
      have tk : vals.take (i + 1) = vals.take i ++ [y] := by rw [List.take_add_one, hy]; rfl
      refine wpAny_pure ⟨plainId_quiet ci_plain _, ih (i + 1) g' (by omega) (by omega) (fun z hz => ?_) hit' (hm.extBut sb.extBut hne) fun b o hb e => sb.extBut b o hb (kp b o hb e)⟩
      rw [tk] at hz
      rcases List.mem_append.mp hz with hz | hz
      · exact hno z hz
      · rw [List.mem_singleton.mp hz]; exact q
/-- x in a view of a dict's values, all of them ints -/
theorem contains_vals {KK : Type} [DecidableEq KK] {knd : KeyKind prog w KK} {v d : Addr} {x : Int} {tx : Tok} {ep : Nat} {kvs : List (KK × Value)} {vals : List Int} {Q : Bool → Shared → Prop} (hh : A.handled = none)
    (hview : s.heap.IsValuesView v d) (hm : s.heap.DictAt knd d kvs ep) (hv : ∀ (j : Nat) (p : KK × Value), kvs[j]? = some p → ∃ i t, vals[j]? = some i ∧ p.2 = .int i t) (hlen : vals.length = kvs.length)
    (hQ : ∀ (g : Heap), (∀ b o, s.heap.get? b = some o → g.get? b = some o) → Q (vals.any fun y => y == x) { s with heap := g }) : wpAny (model prog w) A (contains (.ref v) (.int x tx)) Q E s := by
  unfold contains
  refine wpAny_holding ?_
  rw [stdlibNamesSay?_of_typeIs hview.typeIs]
  refine wpAny_bind (wpAny_specialOf hview.typeIs no_contains ?_)
  rw [if_neg (by simp)]
  refine wpAny_bind (wpAny_callSpecialUnlessNone?_none hview.typeIs no_contains ?_)
  refine wpAny_bind (wpAny_rule ?_)
  refine wpAny_bind (wpAny_tryCatch (wpAny_pyIter_values hview hm ?_))
  have hn : (s.heap.push { cls := .type "dict_valueiterator", data := .fields #[.ref d, .int 0 0, .int kvs.length 0, .int ep 0] }).get? s.heap.objs.size = some { cls := .type "dict_valueiterator", data := .fields #[.ref d, .int 0 0, .int kvs.length 0, .int ep 0] } := Heap.get?_push_size _ rfl
  have hm2 : (s.heap.push { cls := .type "dict_valueiterator", data := .fields #[.ref d, .int 0 0, .int kvs.length 0, .int ep 0] }).DictAt knd d kvs ep := hm.push _
  have hdn : d ≠ s.heap.objs.size := fun e => by
    obtain ⟨o, es, ho, _⟩ := id hm
    exact Nat.lt_irrefl _ (e ▸ Heap.lt_size ho)
  refine wpAny_bind (wpAny_runValue (ci_loop (x := x) (h0 := s.heap) hh hdn hv hlen (fun g k => ?_) kvs.length 0 _ rfl (Nat.zero_le _) (by simp) ⟨_, hn, rfl, rfl⟩ hm2 fun b o hb e => Heap.get?_push_of_some _ e))
  exact wpAny_pure (hQ g fun b o e => k b o (fun z => Nat.lt_irrefl _ (z ▸ Heap.lt_size e)) e)
end
end DL

/-! The D layer, 23: owned dicts: k not in d, x not in d.values(), d.update(e); a, b = new, new. -/
namespace DL
open PySem L2 PySem.W PySem.Calls PyProof.Rows

section
variable {X : Cx} {W : XK} {a b : Expr} {fa fb : EM D} {pos : Pos}
theorem s_parNN (i j : Nat) {x y : Str} {px py pt : Pos} {kt k2 pt2} (hc : X.calm = true) (hN : X.N.Nodup) (hi : X.N[i]? = some x) (hj : X.N[j]? = some y) (hij : i ≠ j)
    (hx : X.env.scope.names.lookup x = some .local) (hy : X.env.scope.names.lookup y = some .local) (ha : PF X W a fa) (hb : PF X W b fb) (n1 : starEach [a, b] X.env = (false, eval a X.env) :: starEach [b] X.env) (n2 : starEach [b] X.env = (false, eval b X.env) :: starEach [] X.env)
    (hw : swappedStores [.Tuple [.Name x px, .Name y py] kt pt] (.Tuple [a, b] k2 pt2) X.env = pure (some [x, y]))
    (hs : swapsWithSole [.Tuple [.Name x px, .Name y py] kt pt] (.Tuple [a, b] k2 pt2) pos.line X.env = pure false) :
    PSD X W (.Assign [.Tuple [.Name x px, .Name y py] kt pt] (.Tuple [a, b] k2 pt2) pos) (parNNS i j fa fb) := let ⟨_, a1, a2⟩ := ha.ex; let ⟨_, b1, b2⟩ := hb.ex; ⟨_, ps_par hc hN hi hj hij hx hy (pa_cons a1 (pa_cons b1 pa_nil n2) n1) hw hs, TSD.parNN a2 b2⟩
end

section
variable {X : Cx}
def rNotInK : R2 := fun x y H Q => ∃ a kvs k, y = .ref a ∧ Rd H a (.dK kvs) ∧ x = kV k ∧ Q (.bl (!(valV kvs k).isSome)) H
theorem op_notInK (hu : X.A.units + 64 < cLine) : OpR X (compareOp .NotIn) rNotInK := by
  intro pins s σ H x y v u Q I rx ry ⟨a, kvs, k, e1, g, e2, q⟩
  subst e1
  cases ry
  exact d_notIn (by omega) I (.inl ⟨kvs, k, g, e2, rfl⟩) rx fun s' I' => ⟨.bl (!(valV kvs k).isSome), H, I', rfl, q⟩
/-- the view d.values() at p -/
def valsO (p d : Addr) : HO := .ext fun h => h.IsValuesView p d
theorem valsO_ok {P : Program} {w : World} {H : Hp} {h : Heap} {p d : Addr} (e : h.get? p = some { cls := .type "dict_values", data := .fields #[.ref d] }) : ObjOk P w H h p (valsO p d) :=
  ⟨⟨_, e, rfl, rfl⟩, ⟨_, e⟩, fun h1 h2 x k => let ⟨o, ho, r⟩ := x; ⟨o, k o ho, r⟩⟩
/-- d.values() of a dict, as it stands -/
def rVals : V → List V → Hp → VK → Prop := fun x xs H Q => ∃ (a : Addr) (kvs : List (Key × V)), x = .ref a ∧ xs = [] ∧ H a = some (.dK kvs) ∧ ∀ p, H p = none → Q (.ref p) (upd H p (valsO p a))
theorem mt_values : MtR X "dict.values" rVals := by
  intro pins s σ H x xs v us Q I rx rxs h
  obtain ⟨a, kvs, rfl, rfl, ha, q⟩ := h
  cases rx
  cases rxs
  obtain ⟨z, hd, vs, rel, dd⟩ := dk_of I.hok ha
  refine call_meetsIn PySem.F.slot_dict_values dd.typeIs PySem.F.entry_dict_values (PySem.F.args_dict_values_1 _) (meets_dict_values (mixKind X.prog X.w) a hd) ⟨⟨vs, dd⟩, ?_⟩
  exact ⟨.ref s.heap.objs.size, upd H s.heap.objs.size (valsO s.heap.objs.size a), I.laid (t' := s.toks) (fun b u e => Heap.get?_push_of_some _ e) (Nat.le_refl _) (valsO_ok (Heap.get?_push_size _ rfl)), rfl, q _ (I.hok.fresh (Nat.le_refl _))⟩
theorem kv_at : ∀ {kvs : List (Key × V)} {vs : List (Key × Value)} {j : Nat} {p : Key × V} {q : Key × Value}, KV kvs vs → kvs[j]? = some p → vs[j]? = some q → p.1 = q.1 ∧ RelV p.2 q.2
  | _, _, j, _, _, .nil, h, _ => by simp at h
  | _, _, 0, _, _, .cons h t, h1, h2 => by
    simp at h1 h2
    subst h1 h2
    exact h
  | _, _, j + 1, _, _, .cons h t, h1, h2 => by
    simp at h1 h2
    exact kv_at t h1 h2
/-- x not in the values, all of them ints -/
def rNotInVals : R2 := fun x y H Q => ∃ p a kvs, ∃ ns : List Int, ∃ k, y = .ref p ∧ H p = some (valsO p a) ∧ H a = some (.dK kvs) ∧ kvs.map (·.2) = ns.map V.int ∧ x = .int k ∧ Q (.bl (!(ns.any fun y => y == k))) H
theorem op_notInVals (hc : X.calm = true) : OpR X (compareOp .NotIn) rNotInVals := by
  intro pins s σ H x y v u Q I rx ry ⟨p, a, kvs, ns, k, e1, hp, ha, hns, e2, q⟩
  subst e1 e2
  cases ry
  obtain ⟨tk, rfl⟩ := rx
  obtain ⟨z, hd, vs, rel, dd⟩ := dk_of I.hok ha
  have hv : s.heap.IsValuesView p a := (show ObjOk X.prog X.w H s.heap p (valsO p a) from I.hok p _ hp).1
  obtain ⟨ep, dat⟩ : ∃ ep, s.heap.DictAt (mixKind X.prog X.w) a vs ep := by
    obtain ⟨o, es, ep, h1, h2, h3, h4⟩ := dd
    exact ⟨ep, o, es, h1, h2, h3, h4⟩
  have hl : vs.length = kvs.length := (Paired.length rel).symm
  have hl2 : ns.length = kvs.length := by
    have := congrArg List.length hns
    rw [List.length_map, List.length_map] at this
    exact this.symm
  show wpAny _ _ (do return Value.bool (!(← contains (.ref p) (.int k tk)))) _ _ s
  refine wpAny_bind (contains_vals (I.ok.hd hc) hv dat (vals := ns) (fun j pr e => ?_) (by omega) fun g kp => ?_)
  · have hj : j < kvs.length := by rw [← hl]; exact (List.getElem?_eq_some_iff.mp e).1
    obtain ⟨kv, e3⟩ : ∃ kv, kvs[j]? = some kv := ⟨kvs[j], List.getElem?_eq_getElem hj⟩
    have rr : RelV kv.2 pr.2 := (kv_at rel e3 e).2
    have e4 : (ns.map V.int)[j]? = some kv.2 := by rw [← hns, List.getElem?_map, e3]; rfl
    rw [List.getElem?_map] at e4
    cases e5 : ns[j]? with
    | none => rw [e5] at e4; cases e4
    | some i =>
      rw [e5] at e4
      have e6 : V.int i = kv.2 := Option.some.inj e4
      rw [← e6] at rr
      obtain ⟨t, rr⟩ := rr
      exact ⟨i, t, rfl, rr⟩
  · exact wpAny_pure ⟨.bl _, H, I.kept (t' := s.toks) kp, rfl, q⟩
/-- d.update(e) -/
def rUpdK : V → List V → Hp → VK → Prop := fun x xs H Q => ∃ (a b : Addr) (kvs more : List (Key × V)), x = .ref a ∧ xs = [.ref b] ∧ H a = some (.dK kvs) ∧ H b = some (.dK more) ∧ a ≠ b ∧ kvs.length + more.length ≤ sizeLine ∧ Q .non (upd H a (.dK (mergeK kvs more)))
theorem mt_updK : MtR X "dict.update" rUpdK := by
  intro pins s σ H x xs v us Q I rx rxs h
  obtain ⟨a, b, kvs, more, rfl, rfl, ha, hb, ne, hz, q⟩ := h
  cases rx
  obtain ⟨u, rfl, ru⟩ := L2.vals1 rxs
  cases ru
  obtain ⟨z, hd, vs, rel, dd⟩ := dk_of I.hok ha
  obtain ⟨z2, hd2, vs2, rel2, dd2⟩ := dk_of I.hok hb
  refine call_meetsIn PySem.F.slot_dict_update dd.typeIs PySem.F.entry_dict_update (PySem.F.args_dict_update_2 _ _) (meets_dict_update (mixKind X.prog X.w) a b ne hd2)
    ⟨vs, vs2, dd, dd2, by rw [← Paired.length rel, ← Paired.length rel2]; exact hz, fun h' dd' dd2' hs => ?_⟩
  have he : ∃ q, h'.get? a = some q := let ⟨q, _, _, hq, _⟩ := dd'; ⟨q, hq⟩
  have hl : (mergeK kvs more).length ≤ sizeLine := Nat.le_trans (length_mergeK more kvs) (by omega)
  exact ⟨.non, _, d_write (t' := s.toks) I (by rw [ha]; exact True.intro) hs he (dk_new hl hd (KV.merge rel2 rel) dd'), rfl, q⟩
end
end DL

/-! The D layer, 24: owned dicts on data: k not in d, x not in d.values(), d.update(e). -/
namespace DL
open PySem L2 PySem.W

section
variable {K : PySem.W.Frag} {mg : Str → Option Value} {W : XK} {Hf H : Hp}
/-- k not in d, d owned -/
def notInKO (fe : EM D) (i : Nat) : EM D := bindM fe fun x => bindM (ownK i) fun kvs => liftO ((keyD x).map fun k => .bl (!(valD kvs k).isSome))
theorem TD.notInKO {i : Nat} {te : TE} {fe : EM D} (he : TD K mg W te fe) : TD K mg W (tOp rNotInK te (tVar i)) (DL.notInKO fe i) := by
  intro Hf σ ρ H S Q h
  refine he Hf σ ρ H S _ ((Wp.bind h).mono fun x ρ1 h2 v Hf1 H1 s1 S1 r1 => ?_)
  obtain ⟨b, kvs, vs, g1, g2, g3, g4, g5, g6⟩ := ownK_inv S1 h2
  obtain ⟨d, e, h4⟩ := Wp.lift g6
  refine ⟨.ref b, g1, ?_⟩
  obtain ⟨key, ek, rfl⟩ := map_inv e
  obtain ⟨i1, i2⟩ := repk_val (k := key) g5
  have hs : (valV vs key).isSome = (valD kvs key).isSome := by
    cases ev : valD kvs key with
    | none => rw [i2 ev]; rfl
    | some d => obtain ⟨w, q1, _⟩ := i1 d ev; rw [q1]; rfl
  exact ⟨b, vs, key, rfl, .inl g4, keyD_rep ek r1, by rw [hs]; exact h4 _ Hf1 H1 s1 S1 (by unfold Rep; rfl)⟩
/-- x not in d.values(), d owned, ints -/
def notInVO (fe : EM D) (i : Nat) : EM D := bindM fe fun x => bindM (ownK i) fun kvs => liftO (match x, intsD (kvs.map (·.2)) with
  | .int k, some ns => some (.bl (!(ns.any fun y => y == k)))
  | _, _ => none)
theorem TD.notInVO {i : Nat} {te : TE} {fe : EM D} (he : TD K mg W te fe) : TD K mg W (tOp rNotInVals te (tBM0 K "dict" rVals (tVar i))) (DL.notInVO fe i) := by
  intro Hf σ ρ H S Q h
  refine he Hf σ ρ H S _ ((Wp.bind h).mono fun x ρ1 h2 v Hf1 H1 s1 S1 r1 => ?_)
  obtain ⟨b, kvs, vs, g1, g2, g3, g4, g5, g6⟩ := ownK_inv S1 h2
  obtain ⟨d, e, h4⟩ := Wp.lift g6
  refine ⟨.ref b, g1, .inr (.inr (.inl ⟨rfl, .inl ⟨vs, g4⟩⟩)), b, vs, rfl, rfl, g4, fun p hp => ?_⟩
  match x, e, r1 with
  | .int k, e, r1 =>
    cases en : intsD (kvs.map (·.2)) with
    | none => rw [en] at e; cases e
    | some ns =>
      rw [en] at e
      cases e
      cases rep_int r1
      have n := New.fresh (o := valsO p b) S1.sub hp
      have ne : b ≠ p := fun e => by rw [e, hp] at g4; cases g4
      exact ⟨p, b, vs, ns, k, rfl, upd_same, by rw [upd_ne ne]; exact g4, ints_rep en (repk_vals g5), rfl, h4 _ Hf1 _ (s1.trans n.stp) (n.sr S1) (by unfold Rep; rfl)⟩
/-- d.update(e), e a new dict -/
def mergeKD : List (D × D) → List (D × D) → Option (List (D × D))
  | acc, [] => some acc
  | acc, (k, x) :: r => match keyD k with
    | some key => mergeKD (putD acc k key x) r
    | none => none
theorem mergeKD_rep : ∀ {more acc out : List (D × D)} {av mv : List (Key × V)}, Repk K Hf more mv → Repk K Hf acc av → mergeKD acc more = some out → Repk K Hf out (mergeK av mv)
  | [], acc, out, av, mv, r, ra, e => by
    unfold Repk at r
    subst r
    cases e
    exact ra
  | (k, x) :: more, acc, out, av, mv, r, ra, e => by
    unfold Repk at r
    obtain ⟨k', v, r', rfl, h1, h2, h3⟩ := r
    unfold mergeKD at e
    rw [h1] at e
    have := mergeKD_rep h3 (repk_put h1 h2 ra) e
    exact this
def updE (i : Nat) (fe : EM D) : EM Unit := bindM (ownK i) fun _ => bindM fe fun d => bindM (ownK i) fun kvs => bindM (liftO (match d with
  | .dct more => if kvs.length + more.length ≤ 1000000 then mergeKD kvs more else none
  | _ => none)) fun out => fun ρ => .ok () (putO i (.dct out) ρ)
def updO (i : Nat) (fe : EM D) : SM := doS (updE i fe)
theorem tyV_dict {a : Addr} {vs : List (Key × V)} (h : H a = some (.dK vs)) : tyV K "dict" (.ref a) H := .inr (.inr (.inl ⟨rfl, .inl ⟨vs, h⟩⟩))
theorem TSD.updO {i : Nat} {te : TE} {fe : EM D} (he : TF K mg W te fe) : TSD K mg W (tDrop (tBM K "dict" rUpdK (tVar i) (tCons te tNil))) (updO i fe) := by
  intro Hf σ ρ H S E h
  obtain ⟨a, ds0, vs0, k1, _, _, k2, _, h1⟩ := ownK_inv S (Wp.rbind (show Wp K mg W (Res.bind (updE i fe ρ) fun _ ρ1 => .ok Fl.nx ρ1) _ from h))
  refine ⟨.ref a, k1, tyV_dict k2, he Hf σ ρ H S _ ((Wp.bind h1).mono fun d ρ1 h2 c Hf1 H1 s1 S1 hc0 hcf ro no => ?_)⟩
  obtain ⟨b, kvs, vs, g1, g2, g3, g4, g5, g6⟩ := ownK_inv S1 h2
  cases own_same k1 g1
  obtain ⟨out, e, h4⟩ := Wp.lift (Wp.bind g6)
  match d, e, ro with
  | .dct more, e, ro =>
    simp only at e
    split at e
    · rename_i hl
      obtain ⟨mv, q1, q2⟩ := ro
      have ne : a ≠ c := fun z => no ⟨i, by rw [← z]; exact g1, _, g2⟩
      refine ⟨a, c, vs, mv, rfl, rfl, g4, q1, ne, ?_, ?_⟩
      · rw [← repk_len g5, ← repk_len q2]; exact Nat.le_of_lt (big_line hl)
      · obtain ⟨s3, S3⟩ := own_upd (o := .dK (mergeK vs mv)) (d' := .dct out) S1 g1 g2 ⟨mergeK vs mv, upd_same, mergeKD_rep q2 g5 e⟩
        exact h4 Hf1 σ _ (s1.trans s3) S3
    · cases e
end
section
variable {X : Cx} {W : XK} {a e : Expr} {fa fe : EM D} {pos : Pos} {y : Str}
theorem d_notInKO (i : Nat) {p2 : Pos} (hu : X.A.units + 64 < cLine) (hN : X.N[i]? = some y) (hv : Vis X.env.scope y) (ha : PD X W a fa) (hm : behindInMarks .NotIn (.Name y p2) = false) (hd : (y == ("__debug__" : Str)) = false := by decide) (hcd : (y == ("__classdict__" : Str)) = false := by decide) :
    PD X W (.Compare a [.NotIn] [.Name y p2] pos) (notInKO fa i) := let ⟨_, a1, a2⟩ := ha.ex; ⟨_, pe_cmpR (op_notInK hu) a1 (pe_var hN hv hd hcd) hm, TD.notInKO a2⟩
theorem b_notInKO (i : Nat) {p2 : Pos} (hu : X.A.units + 64 < cLine) (hN : X.N[i]? = some y) (hv : Vis X.env.scope y) (ha : PD X W a fa) (hm : behindInMarks .NotIn (.Name y p2) = false) (hd : (y == ("__debug__" : Str)) = false := by decide) (hcd : (y == ("__classdict__" : Str)) = false := by decide) :
    PB X W (.Compare a [.NotIn] [.Name y p2] pos) (testE (notInKO fa i)) := let ⟨_, a1, a2⟩ := ha.ex; ⟨_, pt_cmpR (op_notInK hu) a1 (pe_var hN hv hd hcd) hm, TB.test (TD.notInKO a2)⟩
theorem b_notInVO (i : Nat) {p2 apos cpos : Pos} (hc : X.calm = true) (hN : X.N[i]? = some y) (hv : Vis X.env.scope y) (ha : PD X W a fa) (hbase : attributeBase (.Name y p2) "values" X.env (eval (.Name y p2) X.env) = eval (.Name y p2) X.env) (hline : (apos.endLine == cpos.line) = true)
    (hm : behindInMarks .NotIn (.Call (.Attribute (.Name y p2) "values" apos) [] [] cpos) = false) (hd : (y == ("__debug__" : Str)) = false := by decide) (hcd : (y == ("__classdict__" : Str)) = false := by decide) :
    PB X W (.Compare a [.NotIn] [.Call (.Attribute (.Name y p2) "values" apos) [] [] cpos] pos) (testE (notInVO fa i)) := let ⟨_, a1, a2⟩ := ha.ex;
  ⟨_, pt_cmpR (op_notInVals hc) a1 (pe_bm0 PySem.F.plainAttrs_dict PySem.F.slot_dict_values PySem.F.type_dict_values mt_values (pe_var hN hv hd hcd) hbase hline) hm, TB.test (TD.notInVO a2)⟩
theorem s_updO (i : Nat) {p2 p3 p4 : Pos} (hN : X.N[i]? = some y) (hv : Vis X.env.scope y) (he : PF X W e fe) (hbase : attributeBase (.Name y p2) "update" X.env (eval (.Name y p2) X.env) = eval (.Name y p2) X.env)
    (hfew : ((backTo p4 (starEach [e] X.env)).all (fun x => !x.1) && (backToKw p4 (keywordEach [] X.env)).all (fun x => x.1.isSome) && decide (([e] : List Expr).length + ([] : List Keyword).length + (if ([] : List Keyword).isEmpty then 0 else 1) < 30)) = true)
    (hline : (p3.endLine == p4.line) = true) (hs : starEach [e] X.env = (false, eval e X.env) :: starEach [] X.env) (hplain : (backTo p4 (starEach [] X.env)).any (·.1) = false)
    (hsw : swapsWith (.Call (.Attribute (.Name y p2) "update" p3) [e] [] p4) none pos.line X.env = pure false) (hd : (y == ("__debug__" : Str)) = false := by decide) (hcd : (y == ("__classdict__" : Str)) = false := by decide) :
    PSD X W (.Expr (.Call (.Attribute (.Name y p2) "update" p3) [e] [] p4) pos) (updO i fe) :=
  let ⟨_, e1, e2⟩ := he.ex; ⟨_, ps_expr (pe_bm PySem.F.plainAttrs_dict PySem.F.slot_dict_update PySem.F.type_dict_update mt_updK (pe_var hN hv hd hcd) (pa_cons e1 pa_nil hs) hbase hfew hline hs hplain) hsw, TSD.updO e2⟩
end
end DL

/-! Plain maths over mirrors, 0: evaluating. -/
namespace DL
open PySem L2

section
variable {α β : Type} {ρ ρ' : Ro}
@[simp] theorem ev_okb {a : α} {f : α → Ro → Res β} : (Res.ok a ρ).bind f = f a ρ := rfl
@[simp] theorem ev_badb {f : α → Ro → Res β} : (Res.bad : Res α).bind f = .bad := rfl
@[simp] theorem ev_errb {x : Exc} {f : α → Ro → Res β} : (Res.err x : Res α).bind f = .err x := rfl
@[simp] theorem ev_bindM {m : EM α} {f : α → EM β} : bindM m f ρ = (m ρ).bind f := rfl
@[simp] theorem ev_retE {a : α} : retE a ρ = .ok a ρ := rfl
@[simp] theorem ev_lift0 : (liftO (none : Option α)) ρ = .bad := rfl
@[simp] theorem ev_lift1 {a : α} : (liftO (some a)) ρ = .ok a ρ := rfl
@[simp] theorem ev_varE {i : Nat} : varE i ρ = match ρ[i]? with | some (.v d) => .ok d ρ | _ => .bad := rfl
@[simp] theorem ev_bin2 {g : D → D → Option D} {fa fb : EM D} : bin2 g fa fb ρ = (fa ρ).bind fun x ρ1 => (fb ρ1).bind fun y ρ2 => liftO (g x y) ρ2 := rfl
@[simp] theorem ev_un1 {g : D → Option D} {fa : EM D} : un1 g fa ρ = (fa ρ).bind fun x ρ1 => liftO (g x) ρ1 := rfl
@[simp] theorem ev_toB {b : Bool} : toB (.bl b) = some b := rfl
@[simp] theorem ev_testE {f : EM D} : testE f ρ = (f ρ).bind fun d ρ1 => liftO (toB d) ρ1 := rfl
@[simp] theorem ev_chainE {g g' : D → D → Option D} {fa fb fc : EM D} : chainE g g' fa fb fc ρ = (fa ρ).bind fun x => bindM fb fun y => bindM (liftO (g x y)) fun z => bindM (liftO (toB z)) fun k => if k then bindM fc fun c => liftO (g' y c) else retE (.bl false) := rfl
@[simp] theorem ev_andE {fa fb : EM D} : andE fa fb ρ = (fa ρ).bind fun x ρ1 => (liftO (toB x) ρ1).bind fun k ρ2 => if k then fb ρ2 else .ok (.bl false) ρ2 := by unfold andE bindM; congr; funext x ρ1; congr; funext k ρ2; cases k <;> rfl
@[simp] theorem ev_orE {fa fb : EM D} : orE fa fb ρ = (fa ρ).bind fun x ρ1 => (liftO (toB x) ρ1).bind fun k ρ2 => if k then .ok (.bl true) ρ2 else fb ρ2 := by unfold orE bindM; congr; funext x ρ1; congr; funext k ρ2; cases k <;> rfl
@[simp] theorem ev_notE {fa : EM D} : notE fa ρ = (fa ρ).bind fun x ρ1 => (liftO (toB x) ρ1).bind fun k ρ2 => .ok (.bl (!k)) ρ2 := rfl
@[simp] theorem ev_andT {fa fb : EM Bool} : andT fa fb ρ = (fa ρ).bind fun k ρ1 => if k then fb ρ1 else .ok false ρ1 := by unfold andT bindM; congr; funext k ρ2; cases k <;> rfl
@[simp] theorem ev_orT {fa fb : EM Bool} : orT fa fb ρ = (fa ρ).bind fun k ρ1 => if k then .ok true ρ1 else fb ρ1 := by unfold orT bindM; congr; funext k ρ2; cases k <;> rfl
@[simp] theorem ev_notT {fa : EM Bool} : notT fa ρ = (fa ρ).bind fun k ρ1 => .ok (!k) ρ1 := rfl
@[simp] theorem ev_ifE {c : EM Bool} {fa fb : EM D} : ifE c fa fb ρ = (c ρ).bind fun k ρ1 => if k then fa ρ1 else fb ρ1 := by unfold ifE bindM; congr; funext k ρ2; cases k <;> rfl
@[simp] theorem ev_consE {fa : EM D} {fr : EM (List D)} : consE fa fr ρ = (fa ρ).bind fun x ρ1 => (fr ρ1).bind fun xs ρ2 => .ok (x :: xs) ρ2 := rfl
@[simp] theorem ev_argV {fa : EM D} {fr : EM (List Arg)} : argV fa fr ρ = (fa ρ).bind fun x ρ1 => (fr ρ1).bind fun xs ρ2 => .ok (.v x :: xs) ρ2 := rfl
@[simp] theorem ev_argS {i : Nat} {fr : EM (List Arg)} : argS i fr ρ = (ownS i ρ).bind fun _ ρ1 => (fr ρ1).bind fun xs ρ2 => .ok (.s i :: xs) ρ2 := rfl
@[simp] theorem ev_ownS {i : Nat} : ownS i ρ = match ρ[i]? with | some (.o _) => .ok () ρ | some (.p _) => .ok () ρ | _ => .bad := rfl
@[simp] theorem ev_callE {m : EM D} {fa : EM (List Arg)} : callE m fa ρ = (fa ρ).bind fun as ρ1 => callR m as ρ1 := rfl
@[simp] theorem ev_callB {g : List D → Option D} {fa : EM (List D)} : callB g fa ρ = (fa ρ).bind fun ds ρ1 => liftO (g ds) ρ1 := rfl
@[simp] theorem ev_tupE {fa : EM (List D)} : tupE fa ρ = (fa ρ).bind fun ds ρ1 => if ds.length ≤ 1000000 then .ok (.tup ds) ρ1 else .bad := by unfold tupE bindM; congr; funext k ρ2; split <;> rfl
@[simp] theorem ev_lstE {fa : EM (List D)} : lstE fa ρ = (fa ρ).bind fun ds ρ1 => if ds.length ≤ 1000000 then .ok (.lst ds) ρ1 else .bad := by unfold lstE bindM; congr; funext k ρ2; split <;> rfl
@[simp] theorem ev_slE {fe : EM D} {fl fh : EM (Option Int)} : slE fe fl fh ρ = (fe ρ).bind fun x ρ1 => (fl ρ1).bind fun lo ρ2 => (fh ρ2).bind fun hi ρ3 => liftO (slD x lo hi) ρ3 := rfl
@[simp] theorem ev_partE {fe : EM D} : partE fe ρ = (fe ρ).bind fun x ρ1 => liftO (toI x) ρ1 := rfl
@[simp] theorem ev_toI {i : Int} : toI (.int i) = some (some i) := rfl
@[simp] theorem ev_ownL {i : Nat} : ownL i ρ = match ρ[i]? with | some (.o (.lst ds)) => .ok ds ρ | some (.p (.lst ds)) => .ok ds ρ | _ => .bad := rfl
@[simp] theorem ev_putE {i : Nat} {ds : List D} : putE i ds ρ = .ok () (putO i (.lst ds) ρ) := rfl
@[simp] theorem ev_lenO {i : Nat} : lenO i ρ = (ownL i ρ).bind fun ds ρ1 => .ok (.int ds.length) ρ1 := rfl
@[simp] theorem ev_ixO {i : Nat} {fe : EM D} : ixO i fe ρ = (ownS i ρ).bind fun _ ρ1 => (fe ρ1).bind fun j ρ2 => (ownL i ρ2).bind fun ds ρ3 => liftO (ixD (.lst ds) j) ρ3 := rfl
@[simp] theorem ev_setO {i : Nat} {fe fv : EM D} : setO i fe fv ρ = (fv ρ).bind fun d ρ1 => (ownS i ρ1).bind fun _ ρ2 => (fe ρ2).bind fun j ρ3 => (ownL i ρ3).bind fun ds ρ4 => (liftO (setIx ds d j) ρ4).bind fun es ρ5 => .ok .nx (putO i (.lst es) ρ5) := by
  unfold setO setE doS bindM
  cases fv ρ with
  | bad => rfl
  | err x => rfl
  | ok d ρ1 =>
    simp only [ev_okb]
    cases ownS i ρ1 with
    | bad => rfl
    | err x => rfl
    | ok u ρ2 =>
      simp only [ev_okb]
      cases fe ρ2 with
      | bad => rfl
      | err x => rfl
      | ok j ρ3 =>
        simp only [ev_okb]
        cases ownL i ρ3 with
        | bad => rfl
        | err x => rfl
        | ok ds ρ4 =>
          simp only [ev_okb]
          cases (liftO (setIx ds d j) ρ4) <;> rfl
@[simp] theorem ev_appS {i : Nat} {fe : EM D} : appS i fe ρ = (ownL i ρ).bind fun _ ρ1 => (fe ρ1).bind fun d ρ2 => (ownL i ρ2).bind fun ds ρ3 => if ds.length ≤ 1000000 then .ok .nx (putO i (.lst (ds ++ [d])) ρ3) else .bad := by
  unfold appS appE doS bindM
  cases ownL i ρ with
  | bad => rfl
  | err x => rfl
  | ok u ρ1 =>
    simp only [ev_okb]
    cases fe ρ1 with
    | bad => rfl
    | err x => rfl
    | ok d ρ2 =>
      simp only [ev_okb]
      cases ownL i ρ2 with
      | bad => rfl
      | err x => rfl
      | ok ds ρ3 =>
        simp only [ev_okb]
        split <;> rfl
@[simp] theorem ev_retS {fe : EM D} : retS fe ρ = (fe ρ).bind fun d ρ1 => .ok (.ret d) ρ1 := rfl
@[simp] theorem ev_asgS {fe : EM D} {g : D → Ro → Option Ro} : asgS fe g ρ = (fe ρ).bind fun d ρ1 => match g d ρ1 with | none => .bad | some ρ2 => .ok .nx ρ2 := by
  unfold asgS
  congr
  funext d ρ1
  cases g d ρ1 <;> rfl
@[simp] theorem ev_dropS {fe : EM D} : dropS fe ρ = (fe ρ).bind fun _ ρ1 => .ok .nx ρ1 := rfl
@[simp] theorem ev_ifS {c : EM Bool} {f g : SM} : ifS c f g ρ = (c ρ).bind fun b ρ1 => if b then f ρ1 else g ρ1 := rfl
@[simp] theorem ev_nextS : nextS ρ = .ok .nx ρ := rfl
@[simp] theorem ev_seqS {f g : SM} : seqS f g ρ = match f ρ with | .ok .nx ρ1 => g ρ1 | r => r := rfl
@[simp] theorem ev_newS {i : Nat} {fe : EM D} : newS i fe ρ = (fe ρ).bind fun d ρ1 => match ρ1[i]? with | none => .bad | some (.p _) => .bad | some _ => .ok .nx (ρ1.set i (.o d)) := rfl
@[simp] theorem ev_thawS {i : Nat} {d : D} (h : ρ[i]? = some (.o d)) : thawS i ρ = .ok .nx (ρ.set i (.v d)) := by unfold thawS; rw [h]
@[simp] theorem ev_raiseS {x : Str} : raiseS x ρ = .err ⟨x, none⟩ := rfl
@[simp] theorem ev_setT {i : Nat} {d : D} : setT i d ρ = match ρ[i]? with | none => none | some (.p _) => none | some _ => some (ρ.set i (.v d)) := rfl
@[simp] theorem ev_putO {i : Nat} {d : D} : putO i d ρ = match ρ[i]? with | some (.o _) => ρ.set i (.o d) | some (.p _) => ρ.set i (.p d) | _ => ρ := by
  unfold putO
  cases ρ[i]? with
  | none => rfl
  | some x => cases x <;> rfl
@[simp] theorem ev_run {n l : Nat} {b : SM} : runB n l b ρ = match b (ρ ++ List.replicate (l - n) .u) with | .ok fl ρ' => (match fl with | .ret d => .ok d (backP ρ ρ') | .nx => .ok .non (backP ρ ρ') | _ => .bad) | .bad => .bad | .err x => .err x := rfl
end

/-! ### calls -/
section
variable {ρ : Ro} {i j : Nat} {d : D} {as : List Arg} {x : Sl}
@[simp] theorem ev_callR {m : EM D} : callR m as ρ = if apart as then match m (as.map (slOf ρ)) with | .ok d ρ' => .ok d (putBack as ρ' ρ) | .bad => .bad | .err x => .err x else .bad := rfl
@[simp] theorem ev_ap0 : apart [] = true := rfl
@[simp] theorem ev_apv : apart (.v d :: as) = apart as := rfl
@[simp] theorem ev_aps : apart (.s i :: as) = (!as.any (isS i) && apart as) := rfl
@[simp] theorem ev_isv : isS i (.v d) = false := rfl
@[simp] theorem ev_iss : isS i (.s j) = (i == j) := rfl
@[simp] theorem ev_slv : slOf ρ (.v d) = .v d := rfl
@[simp] theorem ev_sls : slOf ρ (.s i) = match ρ[i]? with | some (.o d) => .p d | some (.p d) => .p d | _ => .u := rfl
@[simp] theorem ev_pbn {ys : Ro} : putBack [] ys ρ = ρ := by cases ys <;> rfl
@[simp] theorem ev_pbv {y : Sl} {ys : Ro} : putBack (.v d :: as) (y :: ys) ρ = putBack as ys ρ := rfl
@[simp] theorem ev_pbs {y : Sl} {ys : Ro} : putBack (.s i :: as) (y :: ys) ρ = putBack as ys (match ρ[i]? with | some x => ρ.set i (back1 x y) | none => ρ) := rfl
@[simp] theorem ev_b1o {d e : D} : back1 (.o d) (.p e) = .o e := rfl
@[simp] theorem ev_b1p {d e : D} : back1 (.p d) (.p e) = .p e := rfl
@[simp] theorem ev_bp0 {ys : Ro} : backP [] ys = [] := by cases ys <;> rfl
@[simp] theorem ev_bpp {y : Sl} {ys : Ro} : backP (.p d :: ρ) (y :: ys) = y :: backP ρ ys := rfl
@[simp] theorem ev_bpv {y : Sl} {ys : Ro} : backP (.v d :: ρ) (y :: ys) = .v d :: backP ρ ys := rfl
@[simp] theorem ev_w0 : wipeR ρ [] = ρ := rfl
@[simp] theorem ev_w1 {v : Nat} {vs : List Nat} : wipeR ρ (v :: vs) = (wipeR ρ vs).set v .u := rfl
@[simp] theorem ev_uw0 {ρ' : Ro} : unwipe ρ ρ' [] = ρ' := rfl
@[simp] theorem ev_uw1 {ρ' : Ro} {v : Nat} {vs : List Nat} : unwipe ρ ρ' (v :: vs) = match ρ[v]? with | some x => (unwipe ρ ρ' vs).set v x | none => unwipe ρ ρ' vs := rfl
@[simp] theorem ev_plainAt : plainAt ρ i = match ρ[i]? with | some (.o _) => false | some (.p _) => false | _ => true := rfl
@[simp] theorem ev_yesT : yesT ρ = .ok true ρ := rfl
end
/-! ### operations on ints and texts -/
section
variable {i j : Int} {s t : Str} {xs ys : List D}
@[simp] theorem op_ai : addD (.int i) (.int j) = some (.int (i + j)) := rfl
@[simp] theorem op_si : subD (.int i) (.int j) = some (.int (i - j)) := rfl
@[simp] theorem op_lti : ltD (.int i) (.int j) = some (.bl (decide (i < j))) := rfl
@[simp] theorem op_lei : leD (.int i) (.int j) = some (.bl (decide (i ≤ j))) := rfl
@[simp] theorem op_gti : gtD (.int i) (.int j) = some (.bl (decide (j < i))) := rfl
@[simp] theorem op_gei : geD (.int i) (.int j) = some (.bl (decide (j ≤ i))) := rfl
@[simp] theorem op_neg : negD (.int i) = some (.int (-i)) := rfl
@[simp] theorem op_eqi : eqD (.int i) (.int j) = some (.bl (i == j)) := rfl
@[simp] theorem op_nei : neD (.int i) (.int j) = some (.bl (!(i == j))) := rfl
@[simp] theorem op_at : addD (.tup xs) (.tup ys) = if xs.length + ys.length ≤ 1000000 then some (.tup (xs ++ ys)) else none := rfl
@[simp] theorem op_al : addD (.lst xs) (.lst ys) = if xs.length + ys.length ≤ 1000000 then some (.lst (xs ++ ys)) else none := rfl
@[simp] theorem op_ixt : ixD (.tup xs) (.int i) = atI xs i := rfl
@[simp] theorem op_ixl : ixD (.lst xs) (.int i) = atI xs i := rfl
@[simp] theorem op_neb {a b : Bool} : neD (.bl a) (.bl b) = some (.bl (!(a == b))) := rfl
@[simp] theorem op_eqb {a b : Bool} : eqD (.bl a) (.bl b) = some (.bl (a == b)) := rfl
@[simp] theorem op_lent : lenF [.tup xs] = some (.int xs.length) := rfl
@[simp] theorem op_lenl : lenF [.lst xs] = some (.int xs.length) := rfl
@[simp] theorem op_tupl : tupF [.lst xs] = some (.tup xs) := rfl
@[simp] theorem op_tupt : tupF [.tup xs] = some (.tup xs) := rfl
@[simp] theorem op_revt : revA (.tup xs) = some (.tup xs.reverse) := rfl
@[simp] theorem op_revl : revA (.lst xs) = some (.lst xs.reverse) := rfl
end
theorem at_nat {α : Type} {xs : List α} {i : Nat} : atI xs (i : Int) = xs[i]? := by
  unfold atI ixN
  rw [if_pos (by omega)]
  by_cases h : (i : Int) < xs.length
  · rw [if_pos h]; rfl
  · rw [if_neg h, List.getElem?_eq_none (by omega)]; rfl
theorem at_int {α : Type} {xs : List α} {i : Int} (h : 0 ≤ i) (h2 : i < xs.length) : ∃ x, atI xs i = some x ∧ x ∈ xs := by
  obtain ⟨n, rfl⟩ := Int.eq_ofNat_of_zero_le h
  rw [at_nat]
  have : n < xs.length := by omega
  exact ⟨xs[n], List.getElem?_eq_getElem this, List.getElem_mem this⟩

/-! ### lists of slots -/
/-- a walk over what is told one by one: each element's result; the slots behind it as ahead of it -/
theorem lc_map {vs : List Nat} {g : D → Ro → Option Ro} {ft : EM Bool} {fe : EM D} {ρ : Ro} (F : D → D) : ∀ (ds acc : List D), (∀ d ∈ ds, ∃ ρ1 ρ2 ρ3, g d (wipeR ρ vs) = some ρ1 ∧ ft ρ1 = .ok true ρ2 ∧ fe ρ2 = .ok (F d) ρ3 ∧ unwipe ρ ρ3 vs = ρ) → lcLoop vs g ft fe ds acc ρ = .ok (.lst (acc ++ ds.map F)) ρ
  | [], acc, _ => by simp [lcLoop]
  | d :: ds, acc, h => by
    obtain ⟨ρ1, ρ2, ρ3, h1, h2, h3, h4⟩ := h d List.mem_cons_self
    unfold lcLoop
    simp only [h1, h2, h3, h4]
    rw [lc_map F ds (acc ++ [F d]) fun e he => h e (List.mem_cons_of_mem _ he)]
    simp
theorem lcE_map {vs : List Nat} {fi : EM (List D)} {g : D → Ro → Option Ro} {ft : EM Bool} {fe : EM D} {ρ : Ro} {ds : List D} (F : D → D) (hi : fi ρ = .ok ds ρ) (hp : vs.all (plainAt ρ) = true) (hl : ds.length ≤ 1000000)
    (h : ∀ d ∈ ds, ∃ ρ1 ρ2 ρ3, g d (wipeR ρ vs) = some ρ1 ∧ ft ρ1 = .ok true ρ2 ∧ fe ρ2 = .ok (F d) ρ3 ∧ unwipe ρ ρ3 vs = ρ) : lcE vs fi g ft fe ρ = .ok (.lst (ds.map F)) ρ := by
  unfold lcE
  simp only [hi, Res.bind]
  rw [if_pos (by rw [hp, decide_eq_true hl]; rfl), lc_map F ds [] h]
  rfl
/-- .. some of them -/
theorem lc_filter {vs : List Nat} {g : D → Ro → Option Ro} {ft : EM Bool} {fe : EM D} {ρ : Ro} (P : D → Bool) (F : D → D) : ∀ (ds acc : List D), (∀ d ∈ ds, ∃ ρ1 ρ2, g d (wipeR ρ vs) = some ρ1 ∧ ft ρ1 = .ok (P d) ρ2 ∧ (P d = false → unwipe ρ ρ2 vs = ρ) ∧ (P d = true → ∃ ρ3, fe ρ2 = .ok (F d) ρ3 ∧ unwipe ρ ρ3 vs = ρ)) →
    lcLoop vs g ft fe ds acc ρ = .ok (.lst (acc ++ (ds.filter P).map F)) ρ
  | [], acc, _ => by simp [lcLoop]
  | d :: ds, acc, h => by
    obtain ⟨ρ1, ρ2, h1, h2, h3, h4⟩ := h d List.mem_cons_self
    unfold lcLoop
    simp only [h1, h2]
    cases e : P d with
    | false =>
      simp only [h3 e]
      rw [lc_filter P F ds acc fun e he => h e (List.mem_cons_of_mem _ he), List.filter_cons_of_neg (by simp [e])]
    | true =>
      obtain ⟨ρ3, h5, h6⟩ := h4 e
      simp only [h5, h6]
      rw [lc_filter P F ds (acc ++ [F d]) fun e he => h e (List.mem_cons_of_mem _ he), List.filter_cons_of_pos (by simp [e])]
      simp
theorem lcE_filter {vs : List Nat} {fi : EM (List D)} {g : D → Ro → Option Ro} {ft : EM Bool} {fe : EM D} {ρ : Ro} {ds : List D} (P : D → Bool) (F : D → D) (hi : fi ρ = .ok ds ρ) (hp : vs.all (plainAt ρ) = true) (hl : ds.length ≤ 1000000)
    (h : ∀ d ∈ ds, ∃ ρ1 ρ2, g d (wipeR ρ vs) = some ρ1 ∧ ft ρ1 = .ok (P d) ρ2 ∧ (P d = false → unwipe ρ ρ2 vs = ρ) ∧ (P d = true → ∃ ρ3, fe ρ2 = .ok (F d) ρ3 ∧ unwipe ρ ρ3 vs = ρ)) : lcE vs fi g ft fe ρ = .ok (.lst ((ds.filter P).map F)) ρ := by
  unfold lcE
  simp only [hi, Res.bind]
  rw [if_pos (by rw [hp, decide_eq_true hl]; rfl), lc_filter P F ds [] h]
  rfl
/-- a walk whose turns change the slots: an invariant of turns, results and slots -/
theorem lc_inv {vs : List Nat} {g : D → Ro → Option Ro} {ft : EM Bool} {fe : EM D} (I : Nat → List D → Ro → Prop) :
    ∀ (ds acc : List D) (i : Nat) (ρ : Ro), I i acc ρ → (∀ (j : Nat) (d : D) (acc : List D) (ρ : Ro), ds[j]? = some d → I (i + j) acc ρ → ∃ ρ1 ρ2 b, g d (wipeR ρ vs) = some ρ1 ∧ ft ρ1 = .ok b ρ2 ∧ (b = false → I (i + j + 1) acc (unwipe ρ ρ2 vs)) ∧ (b = true → ∃ y ρ3, fe ρ2 = .ok y ρ3 ∧ I (i + j + 1) (acc ++ [y]) (unwipe ρ ρ3 vs))) →
    ∃ out ρ', lcLoop vs g ft fe ds acc ρ = .ok (.lst out) ρ' ∧ I (i + ds.length) out ρ'
  | [], acc, i, ρ, h0, _ => ⟨acc, ρ, rfl, h0⟩
  | d :: ds, acc, i, ρ, h0, h => by
    obtain ⟨ρ1, ρ2, b, h1, h2, h3, h4⟩ := h 0 d acc ρ rfl h0
    unfold lcLoop
    simp only [h1, h2]
    have next : ∀ (acc : List D) (ρ : Ro), I (i + 1) acc ρ → ∃ out ρ', lcLoop vs g ft fe ds acc ρ = .ok (.lst out) ρ' ∧ I (i + (d :: ds).length) out ρ' := fun acc ρ q => by
      obtain ⟨out, ρ', e1, e2⟩ := lc_inv I ds acc (i + 1) ρ q fun j e acc ρ he q => by
        have := h (j + 1) e acc ρ he (by rw [show i + (j + 1) = i + 1 + j by omega]; exact q)
        rw [show i + (j + 1) + 1 = i + 1 + j + 1 by omega] at this
        exact this
      exact ⟨out, ρ', e1, by rw [List.length_cons, show i + (ds.length + 1) = i + 1 + ds.length by omega]; exact e2⟩
    cases b with
    | false => exact next acc _ (h3 rfl)
    | true =>
      obtain ⟨y, ρ3, h5, h6⟩ := h4 rfl
      simp only [h5]
      exact next _ _ h6
theorem lcE_inv {vs : List Nat} {fi : EM (List D)} {g : D → Ro → Option Ro} {ft : EM Bool} {fe : EM D} {ρ ρ0 : Ro} {ds : List D} (I : Nat → List D → Ro → Prop) (hi : fi ρ0 = .ok ds ρ) (hp : vs.all (plainAt ρ) = true) (hl : ds.length ≤ 1000000) (h0 : I 0 [] ρ)
    (h : ∀ (j : Nat) (d : D) (acc : List D) (ρ : Ro), ds[j]? = some d → I j acc ρ → ∃ ρ1 ρ2 b, g d (wipeR ρ vs) = some ρ1 ∧ ft ρ1 = .ok b ρ2 ∧ (b = false → I (j + 1) acc (unwipe ρ ρ2 vs)) ∧ (b = true → ∃ y ρ3, fe ρ2 = .ok y ρ3 ∧ I (j + 1) (acc ++ [y]) (unwipe ρ ρ3 vs))) :
    ∃ out ρ', lcE vs fi g ft fe ρ0 = .ok (.lst out) ρ' ∧ I ds.length out ρ' := by
  unfold lcE
  simp only [hi, Res.bind]
  rw [if_pos (by rw [hp, decide_eq_true hl]; rfl)]
  have := lc_inv I ds [] 0 ρ h0 fun j d acc ρ e q => by
    rw [Nat.zero_add] at q ⊢
    exact h j d acc ρ e q
  rwa [Nat.zero_add] at this
/-- a for loop -/
theorem loop_inv {g : D → Ro → Option Ro} {f : SM} (I : Nat → Ro → Prop) : ∀ (ds : List D) (i : Nat) (ρ : Ro), I i ρ → (∀ (j : Nat) (d : D) (ρ : Ro), ds[j]? = some d → I (i + j) ρ → ∃ ρ1 ρ2, g d ρ = some ρ1 ∧ f ρ1 = .ok .nx ρ2 ∧ I (i + j + 1) ρ2) → ∃ ρ', loopS g f ds ρ = .ok .nx ρ' ∧ I (i + ds.length) ρ'
  | [], i, ρ, h0, _ => ⟨ρ, rfl, h0⟩
  | d :: ds, i, ρ, h0, h => by
    obtain ⟨ρ1, ρ2, h1, h2, h3⟩ := h 0 d ρ rfl h0
    unfold loopS
    simp only [h1, h2]
    obtain ⟨ρ', e1, e2⟩ := loop_inv I ds (i + 1) ρ2 h3 fun j e ρ he q => by
      have := h (j + 1) e ρ he (by rw [show i + (j + 1) = i + 1 + j by omega]; exact q)
      rw [show i + (j + 1) + 1 = i + 1 + j + 1 by omega] at this
      exact this
    exact ⟨ρ', e1, by rw [List.length_cons, show i + (ds.length + 1) = i + 1 + ds.length by omega]; exact e2⟩
theorem for_inv {fi : EM (List D)} {g : D → Ro → Option Ro} {f : SM} {ρ ρ0 : Ro} {ds : List D} (I : Nat → Ro → Prop) (hi : fi ρ0 = .ok ds ρ) (h0 : I 0 ρ) (h : ∀ (j : Nat) (d : D) (ρ : Ro), ds[j]? = some d → I j ρ → ∃ ρ1 ρ2, g d ρ = some ρ1 ∧ f ρ1 = .ok .nx ρ2 ∧ I (j + 1) ρ2) :
    ∃ ρ', forS fi g f ρ0 = .ok .nx ρ' ∧ I ds.length ρ' := by
  unfold forS
  simp only [hi, Res.bind]
  have := loop_inv I ds 0 ρ h0 fun j d ρ e q => by
    rw [Nat.zero_add] at q ⊢
    exact h j d ρ e q
  rwa [Nat.zero_add] at this
end DL

/-! pure lists -/
namespace DL
theorem sub_len {α : Type} [DecidableEq α] : ∀ {m l : List α}, m.Nodup → (∀ k ∈ m, k ∈ l) → m.length ≤ l.length
  | [], _, _, _ => Nat.zero_le _
  | a :: m, l, h, s => by
    rw [List.nodup_cons] at h
    have ha := s a List.mem_cons_self
    have := sub_len (m := m) (l := l.erase a) h.2 fun k hk => (List.mem_erase_of_ne (fun e => h.1 (by rw [← e]; exact hk))).mpr (s k (List.mem_cons_of_mem _ hk))
    rw [List.length_erase_of_mem ha] at this
    have := List.length_pos_of_mem ha
    rw [List.length_cons]; omega
theorem dup_of {α : Type} [DecidableEq α] : ∀ {l : List α}, ¬ l.Nodup → ∃ a l', l.Perm (a :: l') ∧ a ∈ l'
  | [], h => absurd List.nodup_nil h
  | x :: t, h => by
    by_cases hx : x ∈ t
    · exact ⟨x, t, .refl _, hx⟩
    · obtain ⟨a, t', h1, h2⟩ := dup_of (l := t) fun q => h (List.nodup_cons.mpr ⟨hx, q⟩)
      exact ⟨a, x :: t', (List.Perm.cons x h1).trans (.swap _ _ _), List.mem_cons_of_mem _ h2⟩
theorem len_lt {l m : List Int} (hm : m.Nodup) (h : ∀ k, k ∈ m ↔ k ∈ l) : decide ((m.length : Int) < (l.length : Int)) = !decide l.Nodup := by
  by_cases q : l.Nodup
  · have := ((List.perm_ext_iff_of_nodup hm q).mpr h).length_eq
    rw [decide_eq_true q, decide_eq_false (by omega)]; rfl
  · obtain ⟨a, l', h1, h2⟩ := dup_of q
    have h3 : m.length ≤ l'.length := sub_len hm fun k hk => by
      have := h1.mem_iff.mp ((h k).mp hk)
      rcases List.mem_cons.mp this with e | e
      · exact e ▸ h2
      · exact e
    have h4 := h1.length_eq
    rw [List.length_cons] at h4
    rw [decide_eq_false q, decide_eq_true (by omega)]; rfl
theorem set_nodup {l : List Int} {i : Nat} {n : Int} (h : l.Nodup) (hi : i < l.length) : (l.set i n).Nodup ↔ ∀ j, j ≠ i → l[j]? ≠ some n := by
  constructor
  · intro q j hj e
    rw [List.nodup_iff_pairwise_ne, List.pairwise_iff_getElem] at q
    have hjl := (List.getElem?_eq_some_iff.mp e).1
    have ej : (l.set i n)[j]? = some n := by rw [List.getElem?_set_ne (Ne.symm hj)]; exact e
    have ei : (l.set i n)[i]? = some n := by rw [List.getElem?_set_self hi]
    have hl : (l.set i n).length = l.length := List.length_set
    have gj := (List.getElem?_eq_some_iff.mp ej).2
    have gi := (List.getElem?_eq_some_iff.mp ei).2
    rcases Nat.lt_or_gt_of_ne hj with c | c
    · exact q j i (by omega) (by omega) c (by rw [gj, gi])
    · exact q i j (by omega) (by omega) c (by rw [gj, gi])
  · intro q
    rw [List.nodup_iff_pairwise_ne, List.pairwise_iff_getElem] at h ⊢
    intro a b ha hb hab
    have hl : (l.set i n).length = l.length := List.length_set
    rw [List.getElem_set, List.getElem_set]
    split
    · rename_i e
      subst e
      rw [if_neg (by omega)]
      exact fun z => q b (by omega) ((List.getElem?_eq_getElem (by omega)).trans (congrArg some z.symm))
    · split
      · rename_i e
        subst e
        exact fun z => q a (by omega) ((List.getElem?_eq_getElem (by omega)).trans (congrArg some z))
      · exact h a b (by omega) (by omega) hab

def sing : List (Nat × Int) → List Int → List Int × Bool
  | [], rows => (rows, false)
  | (i, n) :: cs, rows => if (rows.set i n).Nodup then sing cs (rows.set i n) else (rows, true)
theorem sing_keep : ∀ (cs : List (Nat × Int)) (rows : List Int), rows.Nodup → (sing cs rows).1.Nodup ∧ (sing cs rows).1.length = rows.length
  | [], rows, h => ⟨h, rfl⟩
  | (i, n) :: cs, rows, h => by
    unfold sing
    split
    · rename_i q
      obtain ⟨h1, h2⟩ := sing_keep cs (rows.set i n) q
      exact ⟨h1, by rw [h2, List.length_set]⟩
    · exact ⟨h, rfl⟩
theorem lookup_zip : ∀ {cs rows : List Int} {j : Nat} {c n : Int}, cs.Nodup → cs[j]? = some c → rows[j]? = some n → (cs.zip rows).lookup c = some n
  | [], _, _, _, _, _, h, _ => by simp at h
  | _ :: _, [], _, _, _, _, _, h => by simp at h
  | a :: cs, r :: rows, 0, c, n, _, h, g => by
    simp at h g; subst h g; simp [List.lookup]
  | a :: cs, r :: rows, j + 1, c, n, hn, h, g => by
    rw [List.nodup_cons] at hn
    simp at h g
    have : (c == a) = false := beq_eq_false_iff_ne.mpr fun e => hn.1 (e ▸ List.mem_of_getElem? h)
    rw [List.zip_cons_cons, List.lookup_cons, this]
    exact lookup_zip hn.2 h g
def getZ (cs rows : List Int) (c : Int) : Int := ((cs.zip rows).lookup c).getD 0
theorem getZ_at {cs rows : List Int} {j : Nat} {c n : Int} (hn : cs.Nodup) (h : cs[j]? = some c) (g : rows[j]? = some n) : getZ cs rows c = n := by
  unfold getZ; rw [lookup_zip hn h g]; rfl
theorem other_is {cs rows : List Int} {i : Nat} {ci n : Int} (hc : cs.Nodup) (hl : cs.length = rows.length) (hr : rows.Nodup) (hi : cs[i]? = some ci) :
    (cs.filter fun c => !(c == ci) && getZ cs rows c == n).isEmpty = decide ((rows.set i n).Nodup) := by
  have hil : i < rows.length := by rw [← hl]; exact (List.getElem?_eq_some_iff.mp hi).1
  rw [Bool.eq_iff_iff, decide_eq_true_eq, set_nodup hr hil, List.isEmpty_iff, List.filter_eq_nil_iff]
  constructor
  · intro h j hj e
    have hjl := (List.getElem?_eq_some_iff.mp e).1
    have hcj : cs[j]? = some cs[j] := List.getElem?_eq_getElem (by omega)
    refine h cs[j] (List.getElem_mem (by omega)) ?_
    rw [getZ_at hc hcj e, Bool.and_eq_true, Bool.not_eq_true', beq_eq_false_iff_ne]
    refine ⟨fun z => hj ?_, by simp⟩
    have := (List.getElem?_inj (i := j) (j := i) (by omega) hc).mp (by rw [hcj, hi, z])
    exact this
  · intro h c hcm
    obtain ⟨j, hj, rfl⟩ := List.getElem_of_mem hcm
    have hcj : cs[j]? = some cs[j] := List.getElem?_eq_getElem hj
    have hrj : rows[j]? = some rows[j] := List.getElem?_eq_getElem (by omega)
    rw [getZ_at hc hcj hrj]
    intro q
    rw [Bool.and_eq_true, Bool.not_eq_true', beq_eq_false_iff_ne, beq_iff_eq] at q
    refine h j (fun z => q.1 ?_) (by rw [hrj, q.2])
    subst z
    rw [hcj] at hi; exact Option.some.inj hi
theorem put_zip : ∀ {cs rows : List Int} {i : Nat} {ci n : Int}, cs.Nodup → cs[i]? = some ci → (cs.zip rows).map (fun p => if p.1 = ci then (p.1, n) else p) = cs.zip (rows.set i n)
  | [], _, _, _, _, _, h => by simp at h
  | _ :: _, [], _, _, _, _, _ => by simp
  | a :: cs, r :: rows, 0, c, n, hn, h => by
    rw [List.nodup_cons] at hn
    simp at h; subst h
    rw [List.zip_cons_cons, List.map_cons, if_pos rfl, List.set_cons_zero, List.zip_cons_cons]
    congr 1
    refine (List.map_congr_left fun p hp => ?_).trans (List.map_id _)
    rw [if_neg fun e => hn.1 ?_]
    · rfl
    · rw [← e]; exact (List.of_mem_zip (a := p.1) (b := p.2) hp).1
  | a :: cs, r :: rows, j + 1, c, n, hn, h => by
    rw [List.nodup_cons] at hn
    simp at h
    have : a ≠ c := fun e => hn.1 (e ▸ List.mem_of_getElem? h)
    rw [List.zip_cons_cons, List.map_cons, put_zip hn.2 h, List.set_cons_succ, List.zip_cons_cons, if_neg this]
end DL

/-! mirrors, printed by gen.py -/
namespace DL
open PySem L2
def c_PLACES : D := (.tup [(.str "refs"), (.str "rows")])
def c_WAYS : D := (.tup [(.str "down"), (.str "up")])
def c_MOST : D := (.int 8)
/-- slots: 0 value 1 low 2 high -/
def b_is_within : SM := (retS (andE (callB isiF (consE (varE 0) (consE (retE (.ty "int")) (retE [])))) (andE (notE (callB isiF (consE (varE 0) (consE (retE (.ty "bool")) (retE []))))) (chainE leD leD (varE 1) (varE 0) (varE 2)))))
def m_is_within : EM D := runB 3 3 b_is_within
/-- slots: 0 value 1 some -/
def b_is_one_of : SM := (retS (andE (callB isiF (consE (varE 0) (consE (retE (.ty "str")) (retE [])))) (bin2 inD (varE 0) (varE 1))))
def m_is_one_of : EM D := runB 2 2 b_is_one_of
/-- slots: 0 some 1 one 2 other -/
def b_rises : SM := (retS (callB allF (consE (lcE [1, 2] (zipI (consE (varE 0) (consE (slE (varE 0) (partE (retE (.int 1))) (retE none)) (retE [])))) (tupT 2 (consT (setT 1) (consT (setT 2) nilT))) yesT (bin2 ltD (varE 1) (varE 2))) (retE []))))
def m_rises : EM D := runB 1 3 b_rises
/-- slots: 0 size -/
def b_look_at_size : SM := (ifS (notT (testE (callE m_is_within (argV (varE 0) (argV (retE (.int 2)) (argV (retE (.int 5)) (retE []))))))) (raiseS "InvalidSize") nextS)
def m_look_at_size : EM D := runB 1 1 b_look_at_size
/-- slots: 0 size 1 value 2 part -/
def b_is_pair : SM := (retS (andE (callB isiF (consE (varE 1) (consE (retE (.ty "tuple")) (retE [])))) (andE (bin2 eqD (callB lenF (consE (varE 1) (retE []))) (retE (.int 2))) (callB allF (consE (lcE [2] (seqI (varE 1)) (setT 2) yesT (callE m_is_within (argV (varE 2) (argV (retE (.int 0)) (argV (bin2 subD (varE 0) (retE (.int 1))) (retE [])))))) (retE []))))))
def m_is_pair : EM D := runB 2 3 b_is_pair
/-- slots: 0 size 1 value 2 pair -/
def b_is_table : SM := (seqS (ifS (orT (notT (testE (callB isiF (consE (varE 1) (consE (retE (.ty "tuple")) (retE [])))))) (orT (notT (testE (chainE leD leD (retE (.int 1)) (callB lenF (consE (varE 1) (retE []))) (varE 0)))) (notT (testE (callB allF (consE (lcE [2] (seqI (varE 1)) (setT 2) yesT (callE m_is_pair (argV (varE 0) (argV (varE 2) (retE []))))) (retE []))))))) (retS (retE (.bl false))) nextS) (retS (callE m_rises (argV (lcE [2] (seqI (varE 1)) (setT 2) yesT (bin2 ixD (varE 2) (retE (.int 0)))) (retE [])))))
def m_is_table : EM D := runB 2 3 b_is_table
/-- slots: 0 size 1 value 2 pair -/
def b_is_row_of_pairs : SM := (retS (andE (callB isiF (consE (varE 1) (consE (retE (.ty "tuple")) (retE [])))) (andE (chainE leD leD (retE (.int 1)) (callB lenF (consE (varE 1) (retE []))) (retE (.int 6))) (callB allF (consE (lcE [2] (seqI (varE 1)) (setT 2) yesT (callE m_is_pair (argV (varE 0) (argV (varE 2) (retE []))))) (retE []))))))
def m_is_row_of_pairs : EM D := runB 2 3 b_is_row_of_pairs
/-- slots: 0 size 1 value -/
def b_is_statement : SM := (seqS (ifS (orT (notT (testE (callB isiF (consE (varE 1) (consE (retE (.ty "tuple")) (retE [])))))) (orT (testE (bin2 ltD (callB lenF (consE (varE 1) (retE []))) (retE (.int 3)))) (notT (testE (callE m_is_one_of (argV (bin2 ixD (varE 1) (retE (.int 1))) (argV (retE c_PLACES) (retE [])))))))) (retS (retE (.bl false))) nextS) (seqS (ifS (testE (callE m_is_one_of (argV (bin2 ixD (varE 1) (retE (.int 0))) (argV (tupE (consE (retE (.str "one")) (retE []))) (retE []))))) (retS (andE (bin2 eqD (callB lenF (consE (varE 1) (retE []))) (retE (.int 4))) (callE m_is_pair (argV (varE 0) (argV (slE (varE 1) (partE (retE (.int 2))) (retE none)) (retE [])))))) nextS) (seqS (ifS (testE (callE m_is_one_of (argV (bin2 ixD (varE 1) (retE (.int 0))) (argV (tupE (consE (retE (.str "add")) (retE []))) (retE []))))) (retS (andE (bin2 eqD (callB lenF (consE (varE 1) (retE []))) (retE (.int 4))) (andE (callE m_is_within (argV (bin2 ixD (varE 1) (retE (.int 2))) (argV (un1 negD (retE (.int 4))) (argV (retE (.int 4)) (retE []))))) (andE (bin2 neD (bin2 ixD (varE 1) (retE (.int 2))) (retE (.int 0))) (callE m_is_one_of (argV (bin2 ixD (varE 1) (retE (.int 3))) (argV (retE c_WAYS) (retE [])))))))) nextS) (seqS (ifS (testE (callE m_is_one_of (argV (bin2 ixD (varE 1) (retE (.int 0))) (argV (tupE (consE (retE (.str "all")) (retE []))) (retE []))))) (retS (andE (bin2 eqD (callB lenF (consE (varE 1) (retE []))) (retE (.int 3))) (callE m_is_table (argV (varE 0) (argV (bin2 ixD (varE 1) (retE (.int 2))) (retE [])))))) nextS) (retS (andE (callE m_is_one_of (argV (bin2 ixD (varE 1) (retE (.int 0))) (argV (tupE (consE (retE (.str "each")) (retE []))) (retE [])))) (andE (bin2 eqD (callB lenF (consE (varE 1) (retE []))) (retE (.int 3))) (callE m_is_row_of_pairs (argV (varE 0) (argV (bin2 ixD (varE 1) (retE (.int 2))) (retE [])))))))))))
def m_is_statement : EM D := runB 2 2 b_is_statement
/-- slots: 0 size 1 value 2 one -/
def b_fits : SM := (retS (andE (callB isiF (consE (varE 1) (consE (retE (.ty "tuple")) (retE [])))) (andE (bin2 leD (callB lenF (consE (varE 1) (retE []))) (retE c_MOST)) (callB allF (consE (lcE [2] (seqI (varE 1)) (setT 2) yesT (callE m_is_statement (argV (varE 0) (argV (varE 2) (retE []))))) (retE []))))))
def m_fits : EM D := runB 2 3 b_fits
/-- slots: 0 size 1 script -/
def b_look_at_script : SM := (ifS (notT (testE (callE m_fits (argV (varE 0) (argV (varE 1) (retE [])))))) (raiseS "InvalidScript") nextS)
def m_look_at_script : EM D := runB 2 2 b_look_at_script
/-- slots: 0 size 1 script -/
def b_look_at : SM := (seqS (dropS (callE m_look_at_size (argV (varE 0) (retE [])))) (dropS (callE m_look_at_script (argV (varE 0) (argV (varE 1) (retE []))))))
def m_look_at : EM D := runB 2 2 b_look_at
/-- slots: 0 size 1 value -/
def b_is_script : SM := (seqS (dropS (callE m_look_at_size (argV (varE 0) (retE [])))) (retS (callE m_fits (argV (varE 0) (argV (varE 1) (retE []))))))
def m_is_script : EM D := runB 2 2 b_is_script
/-- slots: 0 rows -/
def b_clashes : SM := (retS (bin2 ltD (lenSetE (varE 0)) (callB lenF (consE (varE 0) (retE [])))))
def m_clashes : EM D := runB 1 1 b_clashes
/-- slots: 0 table 1 numbers 2 number -/
def b_turned_by : SM := (retS (callB tupF (consE (lcE [2] (seqI (varE 1)) (setT 2) yesT (getE' (varE 0) (varE 2) (varE 2))) (retE []))))
def m_turned_by : EM D := runB 2 3 b_turned_by
/-- slots: 0 size 1 number 2 amount -/
def b_added : SM := (retS (ifE (testE (chainE leD ltD (retE (.int 0)) (bin2 addD (varE 1) (varE 2)) (varE 0))) (bin2 addD (varE 1) (varE 2)) (varE 1)))
def m_added : EM D := runB 3 3 b_added
/-- slots: 0 size 1 statement 2 rows 3 index 4 number 5 order -/
def b_changes_of : SM := (seqS (ifS (testE (bin2 eqD (bin2 ixD (varE 1) (retE (.int 0))) (retE (.str "one")))) (retS (lcE [3, 4] (enumA (consE (varE 2) (retE []))) (tupT 2 (consT (setT 3) (consT (setT 4) nilT))) (testE (bin2 eqD (varE 4) (bin2 ixD (varE 1) (retE (.int 2))))) (tupE (consE (varE 3) (consE (bin2 ixD (varE 1) (retE (.int 3))) (retE [])))))) nextS) (seqS (asgS (callB sortF (consE (lcE [3, 4] (enumA (consE (varE 2) (retE []))) (tupT 2 (consT (setT 3) (consT (setT 4) nilT))) yesT (tupE (consE (varE 4) (consE (varE 3) (retE []))))) (retE []))) (setT 5)) (seqS (ifS (testE (bin2 eqD (bin2 ixD (varE 1) (retE (.int 3))) (retE (.str "down")))) (asgS (un1 revA (varE 5)) (setT 5)) nextS) (retS (lcE [4, 3] (seqI (varE 5)) (tupT 2 (consT (setT 4) (consT (setT 3) nilT))) yesT (tupE (consE (varE 3) (consE (callE m_added (argV (varE 0) (argV (varE 4) (argV (bin2 ixD (varE 1) (retE (.int 2))) (retE []))))) (retE [])))))))))
def m_changes_of : EM D := runB 3 6 b_changes_of
/-- slots: 0 size 1 statement 2 rows 3 index 4 number 5 later -/
def b_single_changes : SM := (seqS (forS (seqI (callE m_changes_of (argV (varE 0) (argV (varE 1) (argV (varE 2) (retE [])))))) (tupT 2 (consT (setT 3) (consT (setT 4) nilT))) (seqS (asgS (bin2 addD (bin2 addD (slE (varE 2) (retE none) (partE (varE 3))) (tupE (consE (varE 4) (retE [])))) (slE (varE 2) (partE (bin2 addD (varE 3) (retE (.int 1)))) (retE none))) (setT 5)) (seqS (ifS (testE (callE m_clashes (argV (varE 5) (retE [])))) (retS (tupE (consE (varE 2) (consE (retE (.bl true)) (retE []))))) nextS) (asgS (varE 5) (setT 2))))) (retS (tupE (consE (varE 2) (consE (retE (.bl false)) (retE []))))))
def m_single_changes : EM D := runB 3 6 b_single_changes
/-- slots: 0 size 1 statement 2 rows 3 later 4 clash 5 old 6 new -/
def b_turned_rows : SM := (seqS (ifS (testE (bin2 eqD (bin2 ixD (varE 1) (retE (.int 0))) (retE (.str "all")))) (seqS (asgS (callE m_turned_by (argV (callB dictF2 (consE (bin2 ixD (varE 1) (retE (.int 2))) (retE []))) (argV (varE 2) (retE [])))) (setT 3)) (retS (ifE (testE (callE m_clashes (argV (varE 3) (retE [])))) (tupE (consE (varE 2) (consE (retE (.bl true)) (retE [])))) (tupE (consE (varE 3) (consE (retE (.bl false)) (retE []))))))) nextS) (seqS (ifS (testE (bin2 neD (bin2 ixD (varE 1) (retE (.int 0))) (retE (.str "each")))) (retS (callE m_single_changes (argV (varE 0) (argV (varE 1) (argV (varE 2) (retE [])))))) nextS) (seqS (asgS (retE (.bl false)) (setT 4)) (seqS (forS (seqI (bin2 ixD (varE 1) (retE (.int 2)))) (tupT 2 (consT (setT 5) (consT (setT 6) nilT))) (ifS (notT (testE (varE 4))) (asgS (callE m_single_changes (argV (varE 0) (argV (tupE (consE (retE (.str "one")) (consE (retE (.str "rows")) (consE (varE 5) (consE (varE 6) (retE [])))))) (argV (varE 2) (retE []))))) (tupT 2 (consT (setT 2) (consT (setT 4) nilT)))) nextS)) (retS (tupE (consE (varE 2) (consE (varE 4) (retE [])))))))))
def m_turned_rows : EM D := runB 3 7 b_turned_rows
/-- slots: 0 size 1 statement 2 refs 3 number 4 old 5 new -/
def b_turned_refs : SM := (seqS (ifS (testE (bin2 eqD (bin2 ixD (varE 1) (retE (.int 0))) (retE (.str "one")))) (retS (callE m_turned_by (argV (disp1E (bin2 ixD (varE 1) (retE (.int 2))) (bin2 ixD (varE 1) (retE (.int 3)))) (argV (varE 2) (retE []))))) nextS) (seqS (ifS (testE (bin2 eqD (bin2 ixD (varE 1) (retE (.int 0))) (retE (.str "all")))) (retS (callE m_turned_by (argV (callB dictF2 (consE (bin2 ixD (varE 1) (retE (.int 2))) (retE []))) (argV (varE 2) (retE []))))) nextS) (seqS (ifS (testE (bin2 eqD (bin2 ixD (varE 1) (retE (.int 0))) (retE (.str "add")))) (retS (callB tupF (consE (lcE [3] (seqI (varE 2)) (setT 3) yesT (callE m_added (argV (varE 0) (argV (varE 3) (argV (bin2 ixD (varE 1) (retE (.int 2))) (retE [])))))) (retE [])))) nextS) (seqS (forS (seqI (bin2 ixD (varE 1) (retE (.int 2)))) (tupT 2 (consT (setT 4) (consT (setT 5) nilT))) (asgS (callE m_turned_by (argV (disp1E (varE 4) (varE 5)) (argV (varE 2) (retE [])))) (setT 2))) (retS (varE 2))))))
def m_turned_refs : EM D := runB 3 6 b_turned_refs
/-- slots: 0 size 1 script 2 rows 3 refs 4 index 5 statement 6 clash -/
def b_done : SM := (seqS (forS (enumA (consE (varE 1) (retE []))) (tupT 2 (consT (setT 4) (consT (setT 5) nilT))) (ifS (testE (bin2 eqD (bin2 ixD (varE 5) (retE (.int 1))) (retE (.str "refs")))) (asgS (callE m_turned_refs (argV (varE 0) (argV (varE 5) (argV (varE 3) (retE []))))) (setT 3)) (seqS (asgS (callE m_turned_rows (argV (varE 0) (argV (varE 5) (argV (varE 2) (retE []))))) (tupT 2 (consT (setT 2) (consT (setT 6) nilT)))) (ifS (testE (varE 6)) (retS (tupE (consE (varE 2) (consE (varE 3) (consE (varE 4) (retE [])))))) nextS)))) (retS (tupE (consE (varE 2) (consE (varE 3) (consE (un1 negD (retE (.int 1))) (retE [])))))))
def m_done : EM D := runB 4 7 b_done
/-- slots: 0 size 1 script 2 contents -/
def b_effect_of : SM := (retS (callE m_done (argV (varE 0) (argV (varE 1) (argV (varE 2) (argV (tupRgE (varE 0)) (retE [])))))))
def m_effect_of : EM D := runB 3 3 b_effect_of
/-- slots: 0 size 1 value 2 pair -/
def b_are_moves : SM := (seqS (ifS (orT (notT (testE (callB isiF (consE (varE 1) (consE (retE (.ty "tuple")) (retE [])))))) (orT (testE (bin2 gtD (callB lenF (consE (varE 1) (retE []))) (varE 0))) (notT (testE (callB allF (consE (lcE [2] (seqI (varE 1)) (setT 2) yesT (callE m_is_pair (argV (varE 0) (argV (varE 2) (retE []))))) (retE []))))))) (retS (retE (.bl false))) nextS) (retS (andE (callE m_rises (argV (lcE [2] (seqI (varE 1)) (setT 2) yesT (bin2 ixD (varE 2) (retE (.int 0)))) (retE []))) (bin2 eqD (lenSetE (lcE [2] (seqI (varE 1)) (setT 2) yesT (bin2 ixD (varE 2) (retE (.int 1))))) (callB lenF (consE (varE 1) (retE [])))))))
def m_are_moves : EM D := runB 2 3 b_are_moves
/-- slots: 0 size 1 moves -/
def b_look_at_moves : SM := (ifS (notT (testE (callE m_are_moves (argV (varE 0) (argV (varE 1) (retE [])))))) (raiseS "InvalidMoves") nextS)
def m_look_at_moves : EM D := runB 2 2 b_look_at_moves
/-- slots: 0 size 1 script 2 moves 3 rows 4 refs 5 clash 6 old 7 new -/
def b_does : SM := (seqS (dropS (callE m_look_at (argV (varE 0) (argV (varE 1) (retE []))))) (seqS (dropS (callE m_look_at_moves (argV (varE 0) (argV (varE 2) (retE []))))) (seqS (asgS (callE m_effect_of (argV (varE 0) (argV (varE 1) (argV (callB tupF (consE (lcE [6, 7] (seqI (varE 2)) (tupT 2 (consT (setT 6) (consT (setT 7) nilT))) yesT (varE 6)) (retE []))) (retE []))))) (tupT 3 (consT (setT 3) (consT (setT 4) (consT (setT 5) nilT))))) (seqS (ifS (orT (testE (bin2 geD (varE 5) (retE (.int 0)))) (testE (bin2 neD (varE 3) (callB tupF (consE (lcE [6, 7] (seqI (varE 2)) (tupT 2 (consT (setT 6) (consT (setT 7) nilT))) yesT (varE 7)) (retE [])))))) (retS (retE (.bl false))) nextS) (retS (callB allF (consE (lcE [6, 7] (seqI (varE 2)) (tupT 2 (consT (setT 6) (consT (setT 7) nilT))) yesT (bin2 eqD (bin2 ixD (varE 4) (varE 6)) (varE 7))) (retE []))))))))
def m_does : EM D := runB 3 8 b_does
/-- slots: 0 size 1 moves 2 table 3 olds 4 number 5 news 6 pairs -/
def b_script_for : SM := (seqS (dropS (callE m_look_at_size (argV (varE 0) (retE [])))) (seqS (dropS (callE m_look_at_moves (argV (varE 0) (argV (varE 1) (retE []))))) (seqS (newS 2 (callB dictF2 (consE (varE 1) (retE [])))) (seqS (asgS (lcE [4] (rng1I (consE (varE 0) (retE []))) (setT 4) (testE (notInKO (varE 4) 2)) (varE 4)) (setT 3)) (seqS (asgS (lcE [4] (rng1I (consE (varE 0) (retE []))) (setT 4) (testE (notInVO (varE 4) 2)) (varE 4)) (setT 5)) (seqS (updO 2 (dictZipE (consE (varE 3) (consE (varE 5) (retE []))))) (seqS (thawS 2) (seqS (asgS (callB tupF (consE (lcE [4] (rng1I (consE (varE 0) (retE []))) (setT 4) yesT (tupE (consE (varE 4) (consE (bin2 ixD (varE 2) (varE 4)) (retE []))))) (retE []))) (setT 6)) (retS (tupE (consE (tupE (consE (retE (.str "all")) (consE (retE (.str "rows")) (consE (varE 6) (retE []))))) (consE (tupE (consE (retE (.str "all")) (consE (retE (.str "refs")) (consE (varE 6) (retE []))))) (retE [])))))))))))))
def m_script_for : EM D := runB 2 7 b_script_for
/-- slots: 0 _law_cell 1 _law_turn -/
def b__law_well : SM := (seqS (ifS (testE (bin2 geD (varE 0) (bin2 powD (retE (.int 10)) (retE (.int 18))))) (retS (lstE (consE (bin2 subD (varE 0) (bin2 powD (retE (.int 10)) (retE (.int 18)))) (consE (bin2 modD (varE 0) (retE (.int 2305843009213693951))) (consE (varE 1) (retE [])))))) nextS) (retS (lstE (consE (retE (.int 0)) (consE (bin2 modD (varE 0) (retE (.int 2305843009213693951))) (consE (varE 1) (retE [])))))))
def m__law_well : EM D := runB 2 2 b__law_well
/-- slots: 0 _law_bag 1 _law_many 2 _law_found 3 _law_p 4 _law_n -/
def b__law_take : SM := (seqS (ifS (testE (bin2 gtD (ixO 0 (retE (.int 0))) (retE (.int 0)))) (seqS (asgS (bin2 modD (ixO 0 (retE (.int 0))) (varE 1)) (setT 2)) (seqS (setO 0 (retE (.int 0)) (bin2 fdivD (ixO 0 (retE (.int 0))) (varE 1))) (retS (varE 2)))) nextS) (seqS (setO 0 (retE (.int 2)) (bin2 addD (ixO 0 (retE (.int 2))) (retE (.int 1)))) (seqS (asgS (retE (.int 2305843009213693951)) (setT 3)) (seqS (asgS (bin2 modD (bin2 addD (ixO 0 (retE (.int 1))) (bin2 mulD (retE (.int 1000003)) (ixO 0 (retE (.int 2))))) (varE 3)) (setT 4)) (seqS (asgS (bin2 modD (bin2 addD (bin2 addD (bin2 mulD (varE 4) (varE 4)) (bin2 mulD (retE (.int 7919)) (bin2 powD (ixO 0 (retE (.int 2))) (retE (.int 2))))) (retE (.int 5))) (varE 3)) (setT 4)) (retS (bin2 modD (bin2 fdivD (bin2 modD (bin2 powD (varE 4) (retE (.int 3))) (varE 3)) (retE (.int 13))) (varE 1))))))))
def m__law_take : EM D := runB 2 5 b__law_take
/-- slots: 0 _law_script_here 1 _law_most 2 _law_k 3 _law_cell -/
def b__law_bags : SM := (retS (lcE [2, 3] (enumA (consE (bin2 addD (slE (varE 0) (retE none) (partE (varE 1))) (lstE (consE (retE (.int 0)) (retE [])))) (retE []))) (tupT 2 (consT (setT 2) (consT (setT 3) nilT))) yesT (callE m__law_well (argV (varE 3) (argV (bin2 mulD (retE (.int 977)) (varE 2)) (retE []))))))
def m__law_bags : EM D := runB 2 4 b__law_bags
/-- slots: 0 _law_a 1 _law_b 2 _law_x 3 _law_y -/
def b__law_same (self : EM D) : SM := (seqS (ifS (orT (andT (testE (callB isiF (consE (varE 0) (consE (retE (.ty "list")) (retE []))))) (testE (callB isiF (consE (varE 1) (consE (retE (.ty "list")) (retE [])))))) (andT (testE (callB isiF (consE (varE 0) (consE (retE (.ty "tuple")) (retE []))))) (testE (callB isiF (consE (varE 1) (consE (retE (.ty "tuple")) (retE []))))))) (retS (andE (bin2 eqD (callB lenF (consE (varE 0) (retE []))) (callB lenF (consE (varE 1) (retE [])))) (callB allF (consE (lcE [2, 3] (zipI (consE (varE 0) (consE (varE 1) (retE [])))) (tupT 2 (consT (setT 2) (consT (setT 3) nilT))) yesT (callE self (argV (varE 2) (argV (varE 3) (retE []))))) (retE []))))) nextS) (seqS (ifS (orT (testE (isiTE ["bool", "list", "tuple"] (varE 0))) (testE (isiTE ["bool", "list", "tuple"] (varE 1)))) (retS (andE (callB isiF (consE (varE 0) (consE (retE (.ty "bool")) (retE [])))) (andE (callB isiF (consE (varE 1) (consE (retE (.ty "bool")) (retE [])))) (bin2 eqD (varE 0) (varE 1))))) nextS) (seqS (ifS (orT (testE (callB isiF (consE (varE 0) (consE (retE (.ty "int")) (retE []))))) (testE (callB isiF (consE (varE 1) (consE (retE (.ty "int")) (retE [])))))) (retS (andE (callB isiF (consE (varE 0) (consE (retE (.ty "int")) (retE [])))) (andE (callB isiF (consE (varE 1) (consE (retE (.ty "int")) (retE [])))) (bin2 eqD (varE 0) (varE 1))))) nextS) (seqS (ifS (orT (testE (callB isiF (consE (varE 0) (consE (retE (.ty "str")) (retE []))))) (testE (callB isiF (consE (varE 1) (consE (retE (.ty "str")) (retE [])))))) (retS (andE (callB isiF (consE (varE 0) (consE (retE (.ty "str")) (retE [])))) (andE (callB isiF (consE (varE 1) (consE (retE (.ty "str")) (retE [])))) (bin2 eqD (varE 0) (varE 1))))) nextS) (retS (andE (bin2 isD (varE 0) (retE .non)) (bin2 isD (varE 1) (retE .non))))))))
def r__law_same : Nat → EM D
  | 0 => fun _ => .bad
  | d + 1 => runB 2 4 (b__law_same (r__law_same d))
def m__law_same : EM D := r__law_same 8
/-- slots: 0 _law_bag 1 _law_bound 2 _law_many 3 _law_k -/
def b__law_pairs : SM := (retS (callB tupF (consE (lcE [3] (rng1I (consE (varE 2) (retE []))) (setT 3) yesT (tupE (consE (callE m__law_take (argS 0 (argV (varE 1) (retE [])))) (consE (callE m__law_take (argS 0 (argV (varE 1) (retE [])))) (retE []))))) (retE []))))
def m__law_pairs : EM D := runB 3 4 b__law_pairs
/-- slots: 0 _law_bag 1 _law_bound 2 _law_olds 3 _law_number 4 _law_news 5 _law_found 6 _law_old 7 _law_new -/
def b__law_table : SM := (seqS (asgS (lcE [3] (rng1I (consE (varE 1) (retE []))) (setT 3) (testE (bin2 gtD (callE m__law_take (argS 0 (argV (retE (.int 3)) (retE [])))) (retE (.int 0)))) (varE 3)) (setT 2)) (seqS (newS 4 (lstRgE (varE 1))) (seqS (newS 5 (lstE (retE []))) (seqS (forS (seqI (ifE (testE (bin2 neD (varE 2) (lstE (retE [])))) (varE 2) (lstE (consE (retE (.int 0)) (retE []))))) (setT 6) (seqS (asgS (ifE (andT (testE (bin2 gtD (callE m__law_take (argS 0 (argV (retE (.int 6)) (retE [])))) (retE (.int 0)))) (testE (neO 4))) (popO 4 (callE m__law_take (argS 0 (argV (lenO 4) (retE []))))) (callE m__law_take (argS 0 (argV (varE 1) (retE []))))) (setT 7)) (appS 5 (tupE (consE (varE 6) (consE (varE 7) (retE []))))))) (seqS (thawS 4) (seqS (thawS 5) (retS (callB tupF (consE (varE 5) (retE []))))))))))
def m__law_table : EM D := runB 2 8 b__law_table
/-- slots: 0 _law_bag 1 _law_bound 2 _law_spot 3 _law_way 4 _law_amount -/
def b__law_statement : SM := (seqS (asgS (callE m__law_take (argS 0 (argV (retE (.int 5)) (retE [])))) (setT 3)) (seqS (ifS (testE (bin2 ltD (varE 3) (retE (.int 2)))) (retS (tupE (consE (retE (.str "one")) (consE (varE 2) (consE (callE m__law_take (argS 0 (argV (varE 1) (retE [])))) (consE (callE m__law_take (argS 0 (argV (varE 1) (retE [])))) (retE []))))))) nextS) (seqS (ifS (testE (bin2 eqD (varE 3) (retE (.int 2)))) (retS (tupE (consE (retE (.str "all")) (consE (varE 2) (consE (callE m__law_table (argS 0 (argV (varE 1) (retE [])))) (retE [])))))) nextS) (seqS (ifS (testE (bin2 eqD (varE 3) (retE (.int 3)))) (retS (tupE (consE (retE (.str "each")) (consE (varE 2) (consE (callE m__law_pairs (argS 0 (argV (varE 1) (argV (bin2 addD (retE (.int 1)) (callE m__law_take (argS 0 (argV (retE (.int 3)) (retE []))))) (retE []))))) (retE [])))))) nextS) (seqS (asgS (bin2 ixD (lstE (consE (retE (.int 1)) (consE (un1 negD (retE (.int 1))) (consE (retE (.int 1)) (consE (un1 negD (retE (.int 1))) (consE (retE (.int 2)) (consE (un1 negD (retE (.int 2))) (consE (retE (.int 3)) (consE (un1 negD (retE (.int 4))) (retE [])))))))))) (callE m__law_take (argS 0 (argV (retE (.int 8)) (retE []))))) (setT 4)) (retS (tupE (consE (retE (.str "add")) (consE (varE 2) (consE (varE 4) (consE (ifE (testE (bin2 neD (bin2 gtD (varE 4) (retE (.int 0))) (bin2 eqD (callE m__law_take (argS 0 (argV (retE (.int 4)) (retE [])))) (retE (.int 0))))) (retE (.str "down")) (retE (.str "up"))) (retE []))))))))))))
def m__law_statement : EM D := runB 3 5 b__law_statement
/-- slots: 0 _law_bag 1 _law_statement_here -/
def b__law_twin : SM := (seqS (ifS (andT (testE (bin2 eqD (bin2 ixD (varE 1) (retE (.int 0))) (retE (.str "each")))) (testE (bin2 eqD (callE m__law_take (argS 0 (argV (retE (.int 3)) (retE [])))) (retE (.int 0))))) (retS (tupE (consE (retE (.str "each")) (consE (retE (.str "refs")) (consE (un1 revA (bin2 ixD (varE 1) (retE (.int 2)))) (retE [])))))) nextS) (retS (bin2 addD (bin2 addD (slE (varE 1) (retE none) (partE (retE (.int 1)))) (tupE (consE (retE (.str "refs")) (retE [])))) (slE (varE 1) (partE (retE (.int 2))) (retE none)))))
def m__law_twin : EM D := runB 2 2 b__law_twin
/-- slots: 0 _law_bag 1 _law_bound 2 _law_most 3 _law_found 4 _law_turn 5 _law_part 6 _law_some 7 _law_one 8 _law_at -/
def b__law_script : SM := (seqS (asgS (tupE (retE [])) (setT 3)) (seqS (ifS (testE (bin2 eqD (callE m__law_take (argS 0 (argV (retE (.int 3)) (retE [])))) (retE (.int 0)))) (seqS (forS (rng1I (consE (callE m__law_take (argS 0 (argV (bin2 addD (varE 2) (retE (.int 1))) (retE [])))) (retE []))) (setT 4) (asgS (bin2 addD (varE 3) (tupE (consE (callE m__law_statement (argS 0 (argV (varE 1) (argV (bin2 ixD (lstE (consE (retE (.str "rows")) (consE (retE (.str "refs")) (retE [])))) (callE m__law_take (argS 0 (argV (retE (.int 2)) (retE []))))) (retE []))))) (retE [])))) (setT 3))) (retS (varE 3))) nextS) (seqS (asgS (lcE [4] (rng1I (consE (callE m__law_take (argS 0 (argV (bin2 addD (bin2 fdivD (varE 2) (retE (.int 2))) (retE (.int 1))) (retE [])))) (retE []))) (setT 4) yesT (callE m__law_statement (argS 0 (argV (varE 1) (argV (retE (.str "rows")) (retE [])))))) (setT 5)) (seqS (asgS (callB tupF (consE (lcE [7] (seqI (varE 5)) (setT 7) yesT (callE m__law_twin (argS 0 (argV (varE 7) (retE []))))) (retE []))) (setT 6)) (seqS (asgS (callE m__law_take (argS 0 (argV (bin2 addD (callB lenF (consE (varE 6) (retE []))) (retE (.int 1))) (retE [])))) (setT 8)) (seqS (ifS (testE (bin2 eqD (callE m__law_take (argS 0 (argV (retE (.int 3)) (retE [])))) (retE (.int 0)))) (asgS (bin2 addD (slE (varE 6) (retE none) (partE (varE 8))) (slE (varE 6) (partE (bin2 addD (varE 8) (retE (.int 1)))) (retE none))) (setT 6)) nextS) (retS (ifE (testE (bin2 gtD (callE m__law_take (argS 0 (argV (retE (.int 4)) (retE [])))) (retE (.int 0)))) (bin2 addD (callB tupF (consE (varE 5) (retE []))) (varE 6)) (bin2 addD (varE 6) (callB tupF (consE (varE 5) (retE []))))))))))))
def m__law_script : EM D := runB 3 9 b__law_script
/-- slots: 0 _law_bound 1 _law_rows_here 2 _law_number 3 _law_row 4 _law_found 5 _law_many -/
def b__law_all_contents : SM := (seqS (asgS (lstE (consE (tupE (retE [])) (retE []))) (setT 1)) (seqS (forS (rng1I (consE (varE 0) (retE []))) (setT 2) (asgS (bin2 addD (varE 1) (lcE [3] (seqI (varE 1)) (setT 3) yesT (bin2 addD (varE 3) (tupE (consE (varE 2) (retE [])))))) (setT 1))) (seqS (asgS (lstE (retE [])) (setT 4)) (seqS (forS (rng1I (consE (bin2 addD (varE 0) (retE (.int 1))) (retE []))) (setT 5) (asgS (bin2 addD (varE 4) (callB sortF (consE (lcE [3] (seqI (varE 1)) (setT 3) (testE (bin2 eqD (callB lenF (consE (varE 3) (retE []))) (varE 5))) (varE 3)) (retE [])))) (setT 4))) (retS (varE 4))))))
def m__law_all_contents : EM D := runB 1 6 b__law_all_contents
/-- slots: 0 _law_bound 1 _law_number 2 _law_amount -/
def b__law_sum : SM := (retS (ifE (testE (inRgE (bin2 addD (varE 1) (varE 2)) (varE 0))) (bin2 addD (varE 1) (varE 2)) (varE 1)))
def m__law_sum : EM D := runB 3 3 b__law_sum
/-- slots: 0 _law_bound 1 _law_statement_here 2 _law_number 3 _law_old 4 _law_new -/
def b__law_refs : SM := (seqS (ifS (testE (bin2 eqD (bin2 ixD (varE 1) (retE (.int 0))) (retE (.str "add")))) (retS (callE m__law_sum (argV (varE 0) (argV (varE 2) (argV (bin2 ixD (varE 1) (retE (.int 2))) (retE [])))))) nextS) (seqS (ifS (testE (bin2 eqD (bin2 ixD (varE 1) (retE (.int 0))) (retE (.str "all")))) (retS (bin2 ixD (bin2 addD (lcE [3, 4] (seqI (bin2 ixD (varE 1) (retE (.int 2)))) (tupT 2 (consT (setT 3) (consT (setT 4) nilT))) (testE (bin2 eqD (varE 3) (varE 2))) (varE 4)) (lstE (consE (varE 2) (retE [])))) (retE (.int 0)))) nextS) (seqS (forS (seqI (ifE (testE (bin2 eqD (bin2 ixD (varE 1) (retE (.int 0))) (retE (.str "each")))) (bin2 ixD (varE 1) (retE (.int 2))) (lstE (consE (slE (varE 1) (partE (retE (.int 2))) (retE none)) (retE []))))) (tupT 2 (consT (setT 3) (consT (setT 4) nilT))) (ifS (testE (bin2 eqD (varE 2) (varE 3))) (asgS (varE 4) (setT 2)) nextS)) (retS (varE 2)))))
def m__law_refs : EM D := runB 3 5 b__law_refs
/-- slots: 0 _law_bound 1 _law_statement_here 2 _law_rows_here 3 _law_row 4 _law_some 5 _law_number -/
def b__law_singles : SM := (seqS (ifS (testE (bin2 eqD (bin2 ixD (varE 1) (retE (.int 0))) (retE (.str "one")))) (retS (lcE [3] (seqI (varE 2)) (setT 3) (testE (bin2 eqD (bin2 ixD (varE 2) (varE 3)) (bin2 ixD (varE 1) (retE (.int 2))))) (tupE (consE (varE 3) (consE (bin2 ixD (varE 1) (retE (.int 3))) (retE [])))))) nextS) (seqS (asgS (callB sortF (consE (lcE [3] (seqI (varE 2)) (setT 3) yesT (tupE (consE (bin2 ixD (varE 2) (varE 3)) (consE (varE 3) (retE []))))) (retE []))) (setT 4)) (seqS (ifS (testE (bin2 eqD (bin2 ixD (varE 1) (retE (.int 3))) (retE (.str "down")))) (asgS (un1 revA (varE 4)) (setT 4)) nextS) (retS (lcE [5, 3] (seqI (varE 4)) (tupT 2 (consT (setT 5) (consT (setT 3) nilT))) yesT (tupE (consE (varE 3) (consE (callE m__law_sum (argV (varE 0) (argV (varE 5) (argV (bin2 ixD (varE 1) (retE (.int 2))) (retE []))))) (retE [])))))))))
def m__law_singles : EM D := runB 3 6 b__law_singles
/-- slots: 0 _law_bound 1 _law_statement_here 2 _law_rows_here 3 _law_later 4 _law_row 5 _law_fine 6 _law_parts 7 _law_pair 8 _law_part 9 _law_new 10 _law_other -/
def b__law_rows : SM := (seqS (ifS (testE (bin2 eqD (bin2 ixD (varE 1) (retE (.int 0))) (retE (.str "all")))) (seqS (newS 3 (retE (.dct []))) (seqS (forS (seqI (varE 2)) (setT 4) (setK 3 (varE 4) (callE m__law_refs (argV (varE 0) (argV (varE 1) (argV (bin2 ixD (varE 2) (varE 4)) (retE []))))))) (seqS (thawS 3) (seqS (asgS (bin2 eqD (lenSetE (valsE (varE 3))) (callB lenF (consE (varE 3) (retE [])))) (setT 5)) (retS (ifE (testE (varE 5)) (tupE (consE (varE 3) (consE (retE (.bl false)) (retE [])))) (tupE (consE (varE 2) (consE (retE (.bl true)) (retE [])))))))))) nextS) (seqS (asgS (ifE (testE (bin2 eqD (bin2 ixD (varE 1) (retE (.int 0))) (retE (.str "each")))) (lcE [7] (seqI (bin2 ixD (varE 1) (retE (.int 2)))) (setT 7) yesT (bin2 addD (tupE (consE (retE (.str "one")) (consE (retE (.str "rows")) (retE [])))) (varE 7))) (lstE (consE (varE 1) (retE [])))) (setT 6)) (seqS (forS (seqI (varE 6)) (setT 8) (forS (seqI (callE m__law_singles (argV (varE 0) (argV (varE 8) (argV (varE 2) (retE [])))))) (tupT 2 (consT (setT 4) (consT (setT 9) nilT))) (seqS (ifS (testE (bin2 neD (lcE [10] (seqI (varE 2)) (setT 10) (andT (testE (bin2 neD (varE 10) (varE 4))) (testE (bin2 eqD (bin2 ixD (varE 2) (varE 10)) (varE 9)))) (varE 10)) (lstE (retE [])))) (retS (tupE (consE (varE 2) (consE (retE (.bl true)) (retE []))))) nextS) (seqS (newS 2 (callB dictF2 (consE (varE 2) (retE [])))) (seqS (setK 2 (varE 4) (varE 9)) (seqS (thawS 2) nextS)))))) (retS (tupE (consE (varE 2) (consE (retE (.bl false)) (retE []))))))))
def m__law_rows : EM D := runB 3 11 b__law_rows
/-- slots: 0 _law_bound 1 _law_script_so 2 _law_rows_here 3 _law_refs_here 4 _law_at 5 _law_statement_here 6 _law_number 7 _law_bad -/
def b__law_done : SM := (seqS (forS (enumA (consE (varE 1) (retE []))) (tupT 2 (consT (setT 4) (consT (setT 5) nilT))) (ifS (testE (bin2 eqD (bin2 ixD (varE 5) (retE (.int 1))) (retE (.str "refs")))) (asgS (callB tupF (consE (lcE [6] (seqI (varE 3)) (setT 6) yesT (callE m__law_refs (argV (varE 0) (argV (varE 5) (argV (varE 6) (retE [])))))) (retE []))) (setT 3)) (seqS (asgS (callE m__law_rows (argV (varE 0) (argV (varE 5) (argV (varE 2) (retE []))))) (tupT 2 (consT (setT 2) (consT (setT 7) nilT)))) (ifS (testE (varE 7)) (retS (tupE (consE (varE 2) (consE (varE 3) (consE (varE 4) (retE [])))))) nextS)))) (retS (tupE (consE (varE 2) (consE (varE 3) (consE (un1 negD (retE (.int 1))) (retE [])))))))
def m__law_done : EM D := runB 4 8 b__law_done
/-- slots: 0 _law_bound 1 _law_script_so 2 _law_some 3 _law_stopped 4 _law_rows_here 5 _law_refs_here 6 _law_number 7 _law_many 8 _law_clash -/
def b__law_effect : SM := (seqS (parNewS 4 5 (retE (.dct [])) (tupRgE (varE 0))) (seqS (forS (seqI (varE 2)) (setT 6) (setK 4 (varE 6) (varE 6))) (seqS (thawS 4) (seqS (forS (seqI (varE 3)) (setT 7) (asgS (callE m__law_done (argV (varE 0) (argV (slE (varE 1) (retE none) (partE (varE 7))) (argV (varE 4) (argV (varE 5) (retE [])))))) (tupT 3 (consT (setT 4) (consT (setT 5) (consT (setT 8) nilT)))))) (seqS (asgS (callE m__law_done (argV (varE 0) (argV (varE 1) (argV (varE 4) (argV (varE 5) (retE [])))))) (tupT 3 (consT (setT 4) (consT (setT 5) (consT (setT 8) nilT))))) (retS (tupE (consE (callB tupF (consE (lcE [6] (seqI (varE 2)) (setT 6) yesT (bin2 ixD (varE 4) (varE 6))) (retE []))) (consE (varE 5) (consE (varE 8) (retE [])))))))))))
def m__law_effect : EM D := runB 4 9 b__law_effect
/-- slots: 0 _law_some 1 _law_due 2 _law_rows_here 3 _law_refs_here 4 _law_clash 5 _law_found 6 _law_number 7 _law_there 8 _law_own 9 _law_old 10 _law_new -/
def b__law_errors : SM := (seqS (asgS (varE 1) (tupT 3 (consT (setT 2) (consT (setT 3) (consT (setT 4) nilT))))) (seqS (newS 5 (lstE (retE []))) (seqS (forS (enumA (consE (varE 3) (retE []))) (tupT 2 (consT (setT 6) (consT (setT 7) nilT))) (seqS (asgS (lcE [9, 10] (zipI (consE (varE 0) (consE (varE 2) (retE [])))) (tupT 2 (consT (setT 9) (consT (setT 10) nilT))) (testE (bin2 eqD (varE 9) (varE 6))) (varE 10)) (setT 8)) (seqS (ifS (andT (testE (bin2 neD (varE 8) (lstE (retE [])))) (testE (bin2 neD (varE 8) (lstE (consE (varE 7) (retE [])))))) (appS 5 (tupE (consE (retE (.str "astray")) (consE (varE 6) (retE []))))) nextS) (ifS (andT (testE (bin2 eqD (varE 8) (lstE (retE [])))) (testE (bin2 inD (varE 7) (varE 2)))) (appS 5 (tupE (consE (retE (.str "caught")) (consE (varE 6) (retE []))))) nextS)))) (seqS (thawS 5) (retS (bin2 addD (callB sortF (consE (varE 5) (retE []))) (bin2 mulD (lstE (consE (tupE (consE (retE (.str "clash")) (consE (varE 4) (retE [])))) (retE []))) (callB intF (consE (bin2 gtD (varE 4) (un1 negD (retE (.int 1)))) (retE []))))))))))
def m__law_errors : EM D := runB 2 11 b__law_errors
/-- slots: 0 _law_bag 1 _law_bound 2 _law_news 3 _law_found 4 _law_old -/
def b__law_moves : SM := (seqS (parNNS 2 3 (lstRgE (varE 1)) (lstE (retE []))) (seqS (forS (rng1I (consE (varE 1) (retE []))) (setT 4) (ifS (testE (bin2 gtD (callE m__law_take (argS 0 (argV (retE (.int 4)) (retE [])))) (retE (.int 0)))) (appS 3 (tupE (consE (varE 4) (consE (popO 2 (callE m__law_take (argS 0 (argV (lenO 2) (retE []))))) (retE []))))) nextS)) (seqS (thawS 2) (seqS (thawS 3) (retS (callB tupF (consE (varE 3) (retE []))))))))
def m__law_moves : EM D := runB 2 5 b__law_moves
/-- slots: 0 _law_bound 1 _law_plan 2 _law_moves_here 3 _law_rows_here 4 _law_refs_here 5 _law_clash 6 _law_old 7 _law_new -/
def b__law_does : SM := (seqS (asgS (callE m__law_effect (argV (varE 0) (argV (varE 1) (argV (callB tupF (consE (lcE [6, 7] (seqI (varE 2)) (tupT 2 (consT (setT 6) (consT (setT 7) nilT))) yesT (varE 6)) (retE []))) (argV (tupE (retE [])) (retE [])))))) (tupT 3 (consT (setT 3) (consT (setT 4) (consT (setT 5) nilT))))) (seqS (ifS (orT (testE (bin2 neD (varE 5) (un1 negD (retE (.int 1))))) (testE (bin2 neD (callB lstF (consE (varE 3) (retE []))) (lcE [6, 7] (seqI (varE 2)) (tupT 2 (consT (setT 6) (consT (setT 7) nilT))) yesT (varE 7))))) (retS (retE (.bl false))) nextS) (retS (bin2 eqD (lcE [6, 7] (seqI (varE 2)) (tupT 2 (consT (setT 6) (consT (setT 7) nilT))) (testE (bin2 neD (bin2 ixD (varE 4) (varE 6)) (varE 7))) (varE 6)) (lstE (retE []))))))
def m__law_does : EM D := runB 3 8 b__law_does
/-- law: slots: 0 _law_script_here 1 _law_bag 2 _law_bound 3 _law_moves_here 4 _law_plan 5 _law_some 6 _law_both 7 _law_each 8 _law_other -/
def fit_law : EM D := (callE m__law_bags (argV (varE 0) (argV (retE (.int 8)) (retE []))))
def b_law : SM := (seqS (asgS (bin2 addD (retE (.int 2)) (callE m__law_take (argS 1 (argV (retE (.int 4)) (retE []))))) (setT 2)) (seqS (asgS (callE m__law_moves (argS 1 (argV (varE 2) (retE [])))) (setT 3)) (seqS (asgS (callE m_script_for (argV (varE 2) (argV (varE 3) (retE [])))) (setT 4)) (seqS (ifS (orT (testE (bin2 isNotD (callE m_is_script (argV (varE 2) (argV (varE 4) (retE [])))) (retE (.bl true)))) (orT (testE (bin2 neD (callB lenF (consE (varE 4) (retE []))) (retE (.int 2)))) (notT (testE (callE m__law_does (argV (varE 2) (argV (varE 4) (argV (varE 3) (retE []))))))))) (retS (retE (.bl false))) nextS) (seqS (forS (seqI (callE m__law_all_contents (argV (varE 2) (retE [])))) (setT 5) (ifS (testE (bin2 neD (callE m__law_errors (argV (varE 5) (argV (callE m__law_effect (argV (varE 2) (argV (varE 4) (argV (varE 5) (argV (tupE (retE [])) (retE [])))))) (retE [])))) (lstE (retE [])))) (retS (retE (.bl false))) nextS)) (seqS (asgS (ifE (testE (bin2 neD (varE 3) (tupE (retE [])))) (tupE (consE (tupE (consE (retE (.str "all")) (consE (retE (.str "rows")) (consE (varE 3) (retE []))))) (consE (tupE (consE (retE (.str "all")) (consE (retE (.str "refs")) (consE (varE 3) (retE []))))) (retE [])))) (tupE (retE []))) (setT 6)) (seqS (asgS (ifE (testE (bin2 neD (varE 3) (tupE (retE [])))) (tupE (consE (tupE (consE (retE (.str "each")) (consE (retE (.str "rows")) (consE (un1 revA (varE 3)) (retE []))))) (consE (tupE (consE (retE (.str "each")) (consE (retE (.str "refs")) (consE (un1 revA (varE 3)) (retE []))))) (retE [])))) (tupE (retE []))) (setT 7)) (forS (lstI (lstE (consE (varE 4) (consE (slE (varE 4) (retE none) (partE (retE (.int 1)))) (consE (un1 revA (varE 4)) (consE (varE 6) (consE (slE (varE 6) (partE (retE (.int 1))) (retE none)) (consE (varE 7) (consE (callE m__law_script (argS 1 (argV (varE 2) (argV (retE (.int 6)) (retE []))))) (retE [])))))))))) (setT 8) (ifS (notT (testE (callE m__law_same (argV (callE m_does (argV (varE 2) (argV (varE 8) (argV (varE 3) (retE []))))) (argV (callE m__law_does (argV (varE 2) (argV (varE 8) (argV (varE 3) (retE []))))) (retE [])))))) (retS (retE (.bl false))) nextS)))))))))
def g_law : SM := (retS (retE (.bl true)))
end DL

/-! Plain maths, 1: what the laws draw. -/
namespace DL
open PySem L2

/-! ### the bag -/
def takeR (w : Bag) (m : Int) : Int × Bag :=
  if 0 < w.a then (w.a % m, { w with a := w.a / m }) else
    let c := w.c + 1
    let n := (w.b + 1000003 * c) % p61
    let n := (n * n + 7919 * c ^ 2 + 5) % p61
    (n ^ 3 % p61 / 13 % m, { w with c := c })
theorem take_is (w : Bag) (m : Int) (h1 : 0 < m) (h2 : m < 1000000) (h3 : 0 ≤ w.c) (h4 : w.c + 1 ≤ 2 ^ 62) :
    m__law_take [.p w.d, .v (.int m)] = .ok (.int (takeR w m).1) [.p (takeR w m).2.d, .v (.int m)] := by
  unfold m__law_take b__law_take Bag.d takeR
  have h5 : m < 1073741824 := by omega
  by_cases h : 0 < w.a
  · simp [atI, ixN, modD, fdivD, int2c, h1, h5, setIx, h]
  · have e1 : mulOk 1000003 (w.c + 1) = true := by unfold mulOk; simp
    have e2 : ∀ n : Int, mulOk (n % p61) (n % p61) = true := fun n => by
      have := Int.emod_nonneg n (show p61 ≠ 0 by decide)
      have := Int.emod_lt_of_pos n (show 0 < p61 by decide)
      unfold p61 at *
      unfold mulOk
      simp
      omega
    have e3 : mulOk 7919 ((w.c + 1) ^ 2) = true := by unfold mulOk; simp
    have e4 : ∀ n : Int, (n % p61).natAbs < 2 ^ 64 := fun n => by
      have := Int.emod_nonneg n (show p61 ≠ 0 by decide)
      have := Int.emod_lt_of_pos n (show 0 < p61 by decide)
      unfold p61 at *
      omega
    have e5 : (w.c + 1).natAbs < 2 ^ 64 := by omega
    have c1 : (0 : Int) < p61 := by decide
    show runB 2 5 _ _ = _
    have ep : (2305843009213693951 : Int) = p61 := rfl
    rw [ep]
    simp only [Nat.reducePow] at e4 e5
    simp [atI, ixN, modD, fdivD, int2c, mulD, powD, h1, h5, setIx, h, e1, e2, e3, e4, e5, c1]
/-- a function that draws: at a bag b of at most so many draws it gives something of which R holds -/
def Draws (m : EM D) (as : List D) (c : Int) (R : D → Prop) : Prop := ∀ w : Bag, 0 ≤ w.c → w.c + c ≤ 2 ^ 62 → ∃ (r : D) (w' : Bag), m (.p w.d :: as.map .v) = .ok r (.p w'.d :: as.map .v) ∧ R r ∧ w.c ≤ w'.c ∧ w'.c ≤ w.c + c
theorem take_ok (m : Int) (h1 : 0 < m) (h2 : m < 1000000) : Draws m__law_take [.int m] 1 fun r => ∃ i, r = .int i ∧ 0 ≤ i ∧ i < m := fun w h3 h4 => by
  refine ⟨_, _, take_is w m h1 h2 h3 h4, ⟨_, rfl, ?_, ?_⟩, ?_, ?_⟩
  · unfold takeR; split <;> exact Int.emod_nonneg _ (by omega)
  · unfold takeR; split <;> exact Int.emod_lt_of_pos _ h1
  · unfold takeR; split <;> (show w.c ≤ _; simp only []; omega)
  · unfold takeR; split <;> (simp only []; omega)
/-- pairs of ints -/
def prD (p : Int × Int) : D := .tup [.int p.1, .int p.2]
def prsD (l : List (Int × Int)) : D := .tup (l.map prD)
def inB (b : Int) (p : Int × Int) : Prop := 0 ≤ p.1 ∧ p.1 < b ∧ 0 ≤ p.2 ∧ p.2 < b
theorem rng_get {lo : Int} {n j : Nat} {d : D} (h : (rngD lo n)[j]? = some d) : d = .int (lo + j) ∧ j < n := by
  unfold rngD at h
  rw [List.getElem?_map] at h
  by_cases hj : j < n
  · rw [List.getElem?_range hj] at h
    cases h
    exact ⟨rfl, hj⟩
  · rw [List.getElem?_eq_none (by simpa using hj)] at h; cases h
theorem rng_len {lo : Int} {n : Nat} : (rngD lo n).length = n := by simp [rngD]
@[simp] theorem ev_rng1 {fa : EM (List D)} {ρ : Ro} : rng1I fa ρ = (fa ρ).bind fun ds ρ1 => liftO (match ds with | [.int j] => if smallI j then some (rngD 0 j.toNat) else none | _ => none) ρ1 := rfl
@[simp] theorem ev_seqI {fe : EM D} {ρ : Ro} : seqI fe ρ = (fe ρ).bind fun d ρ1 => liftO (match d with | .lst ds => some ds | .tup ds => some ds | .dct kvs => some (kvs.map (·.1)) | _ => none) ρ1 := rfl
theorem pairs_ok (b n : Int) (hb : 0 < b) (hb2 : b < 1000) (hn : 0 ≤ n) (hn2 : n < 1000) : Draws m__law_pairs [.int b, .int n] (2 * n) fun r => ∃ l, r = prsD l ∧ (l.length : Int) = n ∧ ∀ p ∈ l, inB b p := fun w h3 h4 => by
  unfold m__law_pairs b__law_pairs
  have sm : smallI n = true := by unfold smallI; simp; omega
  obtain ⟨out, ρ', e, l, w', rfl, rfl, hl, hc1, hc2, hp⟩ := lcE_inv (vs := [3]) (fi := rng1I (consE (varE 2) (retE []))) (g := setT 3) (ft := yesT) (fe := tupE (consE (callE m__law_take (argS 0 (argV (varE 1) (retE [])))) (consE (callE m__law_take (argS 0 (argV (varE 1) (retE [])))) (retE []))))
    (ρ0 := [.p w.d, .v (.int b), .v (.int n), .u]) (ρ := [.p w.d, .v (.int b), .v (.int n), .u]) (ds := rngD 0 n.toNat)
    (fun i acc ρ => ∃ l w', acc = l.map prD ∧ ρ = [.p w'.d, .v (.int b), .v (.int n), .u] ∧ l.length = i ∧ w.c ≤ w'.c ∧ w'.c ≤ w.c + 2 * i ∧ ∀ p ∈ l, inB b p)
    (by simp [sm]) (by simp) (by rw [rng_len]; omega) ⟨[], w, rfl, rfl, rfl, by omega, by omega, by simp⟩ (fun j d acc ρ hj ⟨l, w1, e1, e2, e3, e4, e5, e6⟩ => by
      obtain ⟨rfl, hj⟩ := rng_get hj
      subst e1 e2
      obtain ⟨_, w2, f2, ⟨x, rfl, x1, x2⟩, f3, f4⟩ := take_ok b hb (by omega) w1 (by omega) (by omega)
      obtain ⟨_, w3, g2, ⟨y, rfl, y1, y2⟩, g3, g4⟩ := take_ok b hb (by omega) w2 (by omega) (by omega)
      simp only [List.map_cons, List.map_nil] at f2 g2
      refine ⟨[.p w1.d, .v (.int b), .v (.int n), .v (.int (0 + j))], [.p w1.d, .v (.int b), .v (.int n), .v (.int (0 + j))], true, by simp, by simp, by simp, fun _ => ⟨prD (x, y), [.p w3.d, .v (.int b), .v (.int n), .v (.int (0 + j))], by simp [f2, g2, prD], l ++ [(x, y)], w3, by simp, by simp, by simp [e3], by omega, by omega, ?_⟩⟩
      intro p hp
      rcases List.mem_append.mp hp with hp | hp
      · exact e6 p hp
      · rw [List.mem_singleton.mp hp]; exact ⟨x1, x2, y1, y2⟩)
  rw [rng_len] at hl hc2
  refine ⟨prsD l, w', ?_, ⟨l, rfl, by omega, hp⟩, hc1, by omega⟩
  simp [e, prsD]
/-- increasing firsts -/
def incr (l : List (Int × Int)) : Prop := (l.map (·.1)).Pairwise (· < ·)
theorem ints_tup {l : List Int} : (rngD 0 l.length).length = l.length := rng_len
def okI (b : Int) (i : Int) : Prop := 0 ≤ i ∧ i < b
/-- list(range(n)) -/
@[simp] theorem ev_lstRg {fe : EM D} {ρ : Ro} : lstRgE fe ρ = (fe ρ).bind fun d ρ1 => liftO ((rg1 d).map .lst) ρ1 := rfl
@[simp] theorem ev_tupRg {fe : EM D} {ρ : Ro} : tupRgE fe ρ = (fe ρ).bind fun d ρ1 => liftO ((rg1 d).map .tup) ρ1 := rfl
@[simp] theorem ev_neO {i : Nat} {ρ : Ro} : neO i ρ = (ownL i ρ).bind fun ds ρ1 => (liftO (neD (.lst ds) (.lst [])) ρ1).bind fun d ρ2 => .ok d ρ2 := rfl
/-- ints as data -/
def isD' (l : List Int) : List D := l.map .int
theorem toPs_ints : ∀ l : List Int, toPs (l.map D.int) = some (l.map PyData.int)
  | [] => rfl
  | i :: l => by
    rw [List.map_cons, toPs, toPs_ints l]; rfl
theorem lay_ints : ∀ l : List Int, PyData.canLayAll0 (l.map PyData.int) = true
  | [] => rfl
  | i :: l => by rw [List.map_cons, PyData.canLayAll0, lay_ints l]; rfl
theorem dep_ints : ∀ l : List Int, PyData.depthAll (l.map PyData.int) = 0
  | [] => rfl
  | i :: l => by rw [List.map_cons, PyData.depthAll, dep_ints l]; rfl
theorem shaped_ints (l : List Int) : PySem.SeqAt.shaped (.list (l.map PyData.int)) = true := by
  unfold PySem.SeqAt.shaped
  rw [PyData.canLay0, lay_ints, PyData.depth, dep_ints]; rfl
theorem ne_nil (l : List Int) : neD (.lst (l.map D.int)) (.lst []) = some (.bl (!l.isEmpty)) := by
  unfold neD eqvD
  rw [show toP (.lst (l.map D.int)) = some (.list (l.map PyData.int)) by rw [toP, toPs_ints]; rfl, show toP (.lst []) = some (.list []) from rfl]
  simp only [shaped_ints, show PySem.SeqAt.shaped (.list []) = true from rfl]
  cases l <;> rfl
end DL

/-! Plain maths, 2: tables, statements, scripts that the laws draw. -/
namespace DL
open PySem L2

def free (x : Sl) : Prop := x = .u ∨ ∃ d, x = .v d
theorem olds_ok (b : Int) (hb : 0 < b) (hb2 : b < 1000) (w : Bag) (h3 : 0 ≤ w.c) (h4 : w.c + b ≤ 2 ^ 62) :
    ∃ (l : List Int) (w' : Bag), lcE [3] (rng1I (consE (varE 1) (retE []))) (setT 3) (testE (bin2 gtD (callE m__law_take (argS 0 (argV (retE (.int 3)) (retE [])))) (retE (.int 0)))) (varE 3) [.p w.d, .v (.int b), .u, .u, .u, .u, .u, .u] =
      .ok (.lst (l.map .int)) [.p w'.d, .v (.int b), .u, .u, .u, .u, .u, .u] ∧ l.Pairwise (· < ·) ∧ (∀ i ∈ l, okI b i) ∧ w.c ≤ w'.c ∧ w'.c ≤ w.c + b := by
  have sm : smallI b = true := by unfold smallI; simp; omega
  obtain ⟨out, ρ', e, l, w', rfl, rfl, hl, hc1, hc2, hp⟩ := lcE_inv (vs := [3]) (fi := rng1I (consE (varE 1) (retE []))) (g := setT 3) (ft := testE (bin2 gtD (callE m__law_take (argS 0 (argV (retE (.int 3)) (retE [])))) (retE (.int 0)))) (fe := varE 3)
    (ρ0 := [.p w.d, .v (.int b), .u, .u, .u, .u, .u, .u]) (ρ := [.p w.d, .v (.int b), .u, .u, .u, .u, .u, .u]) (ds := rngD 0 b.toNat)
    (fun i acc ρ => ∃ (l : List Int) (w' : Bag), acc = l.map .int ∧ ρ = [.p w'.d, .v (.int b), .u, .u, .u, .u, .u, .u] ∧ l.Pairwise (· < ·) ∧ w.c ≤ w'.c ∧ w'.c ≤ w.c + i ∧ ∀ k ∈ l, 0 ≤ k ∧ k < i)
    (by simp [sm]) (by simp) (by rw [rng_len]; omega) ⟨[], w, rfl, rfl, .nil, by omega, by omega, by simp⟩ (fun j d acc ρ hj ⟨l, w1, e1, e2, e3, e4, e5, e6⟩ => by
      obtain ⟨rfl, hj⟩ := rng_get hj
      subst e1 e2
      obtain ⟨_, w2, f2, ⟨x, rfl, x1, x2⟩, f3, f4⟩ := take_ok 3 (by omega) (by omega) w1 (by omega) (by omega)
      simp only [List.map_cons, List.map_nil] at f2
      refine ⟨[.p w1.d, .v (.int b), .u, .v (.int (0 + j)), .u, .u, .u, .u], [.p w2.d, .v (.int b), .u, .v (.int (0 + j)), .u, .u, .u, .u], decide (0 < x), by simp, by simp [f2], fun _ => ⟨l, w2, rfl, by simp, e3, by omega, by omega, fun k hk => ?_⟩,
        fun _ => ⟨.int (0 + j), [.p w2.d, .v (.int b), .u, .v (.int (0 + j)), .u, .u, .u, .u], by simp, l ++ [(j : Int)], w2, by simp, by simp, ?_, by omega, by omega, fun k hk => ?_⟩⟩
      · have := e6 k hk; omega
      · rw [List.pairwise_append]
        exact ⟨e3, by simp, fun a ha c hc => by rw [List.mem_singleton.mp hc]; exact (e6 a ha).2⟩
      · rcases List.mem_append.mp hk with hk | hk
        · have := e6 k hk; omega
        · rw [List.mem_singleton.mp hk]; omega)
  rw [rng_len] at hc2 hp
  exact ⟨l, w', e, hl, fun i hi => by have := hp i hi; exact ⟨this.1, by omega⟩, hc1, by omega⟩
theorem erase_map {α β : Type} (f : α → β) : ∀ (l : List α) (i : Nat), (l.map f).eraseIdx i = (l.eraseIdx i).map f
  | [], _ => rfl
  | _ :: _, 0 => rfl
  | x :: l, i + 1 => by simp [List.eraseIdx, erase_map f l i]
theorem pop_get {l : List Int} {i : Int} (h : 0 ≤ i) (h2 : i < l.length) : ∃ k, k ∈ l ∧ ((l.map D.int)[i.toNat]?).map (fun d => (d, (l.map D.int).eraseIdx i.toNat)) = some (.int k, (l.eraseIdx i.toNat).map D.int) := by
  have hlt : i.toNat < l.length := by omega
  refine ⟨l[i.toNat], List.getElem_mem hlt, ?_⟩
  rw [List.getElem?_map, List.getElem?_eq_getElem hlt]
  simp [erase_map]
def popF (ds : List D) (j : D) : Option (D × List D) := match j with
  | .int z => if decide (0 ≤ z) && decide (z ≤ 1000000) then (ds[z.toNat]?).map fun d => (d, ds.eraseIdx z.toNat) else none
  | _ => none
theorem pop_is {l : List Int} {i : Int} (h : 0 ≤ i) (h2 : i < l.length) (h3 : i ≤ 1000000) : ∃ k, k ∈ l ∧ popF (l.map D.int) (.int i) = some (.int k, (l.eraseIdx i.toNat).map D.int) := by
  obtain ⟨k, h4, h5⟩ := pop_get h h2
  refine ⟨k, h4, ?_⟩
  unfold popF
  simp only
  rw [if_pos (by simp; omega), h5]
@[simp] theorem ev_popO {i : Nat} {fe : EM D} {ρ : Ro} : popO i fe ρ = (ownL i ρ).bind fun _ ρ1 => (fe ρ1).bind fun j ρ2 => (ownL i ρ2).bind fun ds ρ3 => (liftO (popF ds j) ρ3).bind fun p ρ4 => .ok p.1 (putO i (.lst p.2) ρ4) := rfl
def tabRo (w : Bag) (b : Int) (od : D) (nw : List Int) (l : List (Int × Int)) (x y : Sl) : Ro := [.p w.d, .v (.int b), .v od, .u, .o (.lst (nw.map .int)), .o (.lst (l.map prD)), x, y]
theorem tab_step (b : Int) (hb : 0 < b) (hb2 : b < 1000) (w : Bag) (od : D) (nw : List Int) (l : List (Int × Int)) (x y : Sl) (hx : free x) (hy : free y) (h3 : 0 ≤ w.c) (h4 : w.c + 2 ≤ 2 ^ 62) (hnw : ∀ k ∈ nw, okI b k) (hnl : nw.length ≤ 1000) (hl : l.length ≤ 1000) (k : Int) :
    ∃ (ρ1 : Ro) (w' : Bag) (nw' : List Int) (v : Int), setT 6 (.int k) (tabRo w b od nw l x y) = some ρ1 ∧
      (seqS (asgS (ifE (andT (testE (bin2 gtD (callE m__law_take (argS 0 (argV (retE (.int 6)) (retE [])))) (retE (.int 0)))) (testE (neO 4))) (popO 4 (callE m__law_take (argS 0 (argV (lenO 4) (retE []))))) (callE m__law_take (argS 0 (argV (varE 1) (retE []))))) (setT 7)) (appS 5 (tupE (consE (varE 6) (consE (varE 7) (retE [])))))) ρ1 =
        .ok .nx (tabRo w' b od nw' (l ++ [(k, v)]) (.v (.int k)) (.v (.int v))) ∧ okI b v ∧ (∀ k ∈ nw', okI b k) ∧ nw'.length ≤ nw.length ∧ w.c ≤ w'.c ∧ w'.c ≤ w.c + 2 := by
  have hs : setT 6 (.int k) (tabRo w b od nw l x y) = some (tabRo w b od nw l (.v (.int k)) y) := by
    rcases hx with rfl | ⟨_, rfl⟩ <;> simp [tabRo]
  obtain ⟨_, w1, f2, ⟨t, rfl, t1, t2⟩, f3, f4⟩ := take_ok 6 (by omega) (by omega) w (by omega) (by omega)
  simp only [List.map_cons, List.map_nil] at f2
  by_cases hc : 0 < t ∧ nw ≠ []
  · obtain ⟨c1, c2⟩ := hc
    have hne : nw.isEmpty = false := by cases nw with | nil => exact absurd rfl c2 | cons _ _ => rfl
    have hlen : 0 < nw.length := List.length_pos_iff.mpr c2
    obtain ⟨_, w2, g2, ⟨u, rfl, u1, u2⟩, g3, g4⟩ := take_ok nw.length (by omega) (by omega) w1 (by omega) (by omega)
    simp only [List.map_cons, List.map_nil] at g2
    obtain ⟨v, hv, ev⟩ := pop_is u1 u2 (by omega)
    refine ⟨_, w2, nw.eraseIdx u.toNat, v, hs, ?_, hnw v hv, fun k hk => hnw k (List.mem_of_mem_eraseIdx hk), List.length_eraseIdx_le .., by omega, by omega⟩
    have l2 : l.length ≤ 1000000 := by omega
    rcases hy with rfl | ⟨_, rfl⟩ <;> simp [tabRo, f2, c1, ne_nil, hne, g2, ev, prD, l2]
  · obtain ⟨_, w2, g2, ⟨v, rfl, v1, v2⟩, g3, g4⟩ := take_ok b (by omega) (by omega) w1 (by omega) (by omega)
    simp only [List.map_cons, List.map_nil] at g2
    refine ⟨_, w2, nw, v, hs, ?_, ⟨v1, v2⟩, hnw, Nat.le_refl _, by omega, by omega⟩
    have l2 : l.length ≤ 1000000 := by omega
    by_cases c1 : 0 < t
    · have hne : nw = [] := by
        by_cases e : nw = []
        · exact e
        · exact absurd ⟨c1, e⟩ hc
      subst hne
      have hn0 : neD (.lst []) (.lst []) = some (.bl false) := rfl
      rcases hy with rfl | ⟨_, rfl⟩ <;> simp [tabRo, f2, c1, hn0, g2, prD, l2]
    · rcases hy with rfl | ⟨_, rfl⟩ <;> simp [tabRo, f2, c1, g2, prD, l2]
def okTab (b : Int) (l : List (Int × Int)) : Prop := l ≠ [] ∧ incr l ∧ ∀ p ∈ l, inB b p
theorem table_ok (b : Int) (hb : 0 < b) (hb2 : b < 300) : Draws m__law_table [.int b] (3 * b) fun r => ∃ l, r = prsD l ∧ okTab b l := fun w h3 h4 => by
  unfold m__law_table b__law_table
  obtain ⟨ol, w1, e1, p1, p2, c1, c2⟩ := olds_ok b hb (by omega) w h3 (by omega)
  have sm : smallI b = true := by unfold smallI; simp; omega
  -- what is walked
  obtain ⟨os, hos, hpw, hok, hne⟩ : ∃ os : List Int, os = (if ol.isEmpty then [0] else ol) ∧ os.Pairwise (· < ·) ∧ (∀ i ∈ os, okI b i) ∧ os ≠ [] := by
    refine ⟨_, rfl, ?_, ?_, ?_⟩ <;> cases ol with
    | nil => simp [okI]; try omega
    | cons x xs => first | exact p1 | exact p2 | simp
  have hlen : (os.length : Int) ≤ b := by
    have hs : os.Pairwise (· < ·) := hpw
    have : ∀ (l : List Int) (m : Int), l.Pairwise (· < ·) → (∀ i ∈ l, m ≤ i ∧ i < b) → (l.length : Int) ≤ max 0 (b - m) := by
      intro l
      induction l with
      | nil => intro m _ _; simp; omega
      | cons x l ih =>
        intro m h1 h2
        have q := List.pairwise_cons.mp h1
        have hx := h2 x List.mem_cons_self
        have := ih (x + 1) q.2 fun i hi => ⟨by have := q.1 i hi; omega, (h2 i (List.mem_cons_of_mem _ hi)).2⟩
        rw [List.length_cons]
        omega
    have := this os 0 hpw fun i hi => hok i hi
    omega
  have hni : neD (.lst (ol.map D.int)) (.lst []) = some (.bl (!ol.isEmpty)) := ne_nil ol
  obtain ⟨ρ', e2, w2, nw, l, x, y, rfl, hx, hy, hl1, hl2, hn1, hn2, hc1, hc2⟩ := for_inv (fi := seqI (ifE (testE (bin2 neD (varE 2) (lstE (retE [])))) (varE 2) (lstE (consE (retE (.int 0)) (retE []))))) (g := setT 6)
    (f := seqS (asgS (ifE (andT (testE (bin2 gtD (callE m__law_take (argS 0 (argV (retE (.int 6)) (retE [])))) (retE (.int 0)))) (testE (neO 4))) (popO 4 (callE m__law_take (argS 0 (argV (lenO 4) (retE []))))) (callE m__law_take (argS 0 (argV (varE 1) (retE []))))) (setT 7)) (appS 5 (tupE (consE (varE 6) (consE (varE 7) (retE []))))))
    (ρ0 := tabRo w1 b (.lst (ol.map .int)) ((List.range b.toNat).map fun i => ((i : Nat) : Int)) [] .u .u) (ρ := tabRo w1 b (.lst (ol.map .int)) ((List.range b.toNat).map fun i => ((i : Nat) : Int)) [] .u .u) (ds := os.map .int)
    (fun i ρ => ∃ (w' : Bag) (nw : List Int) (l : List (Int × Int)) (x y : Sl), ρ = tabRo w' b (.lst (ol.map .int)) nw l x y ∧ free x ∧ free y ∧ l.map (·.1) = os.take i ∧ (∀ p ∈ l, okI b p.2) ∧ (∀ k ∈ nw, okI b k) ∧ nw.length ≤ 1000 ∧ w1.c ≤ w'.c ∧ w'.c ≤ w1.c + 2 * i)
    (by rw [hos]; simp [tabRo, hni]; by_cases h : ol = [] <;> simp [h]) ⟨w1, _, [], .u, .u, rfl, .inl rfl, .inl rfl, by simp, by simp, by simp [okI] <;> omega, by simp <;> omega, by omega, by omega⟩ (fun j d ρ hj ⟨w', nw, l, x, y, e, hx, hy, q1, q2, q3, q4, q5, q6⟩ => by
      subst e
      rw [List.getElem?_map] at hj
      have hj' : j < os.length := by
        rcases Nat.lt_or_ge j os.length with h | h
        · exact h
        · rw [List.getElem?_eq_none h] at hj; cases hj
      rw [List.getElem?_eq_getElem hj'] at hj
      cases hj
      have ll : l.length ≤ 1000 := by
        have := congrArg List.length q1
        rw [List.length_map, List.length_take] at this
        omega
      obtain ⟨ρ1, w2, nw', v, s1, s2, s3, s4, s5, s6, s7⟩ := tab_step b hb (by omega) w' (.lst (ol.map .int)) nw l x y hx hy (by omega) (by omega) q3 q4 ll os[j]
      refine ⟨ρ1, _, s1, s2, w2, nw', _, _, _, rfl, .inr ⟨_, rfl⟩, .inr ⟨_, rfl⟩, ?_, ?_, s4, by omega, by omega, by omega⟩
      · rw [List.map_append, q1, List.take_add_one, List.getElem?_eq_getElem hj']; rfl
      · intro p hp
        rcases List.mem_append.mp hp with hp | hp
        · exact q2 p hp
        · rw [List.mem_singleton.mp hp]; exact s3)
  rw [List.length_map] at hl1 hc2
  rw [List.take_length] at hl1
  refine ⟨prsD l, w2, ?_, ⟨l, rfl, fun h => hne (by rw [← hl1, h]; rfl), by unfold incr; rw [hl1]; exact hpw, fun p hp => ?_⟩, by omega, by omega⟩
  · have er : rngD 0 b.toNat = ((List.range b.toNat).map fun i => ((i : Nat) : Int)).map D.int := by simp [rngD]
    unfold tabRo at e2
    simp [e1, rg1, sm, er, prsD]
    simp only [List.map_map, List.map_nil] at e2 ⊢
    rw [e2]
    simp [tabRo]
  · have h1 := hok p.1 (by rw [← hl1]; exact List.mem_map_of_mem hp)
    have h2 := hl2 p hp
    exact ⟨h1.1, h1.2, h2.1, h2.2⟩
end DL

/-! Plain maths, 3: statements and scripts. -/
namespace DL
open PySem L2

inductive Stm where
  | one (p : Str) (a b : Int)
  | all (p : Str) (t : List (Int × Int))
  | each (p : Str) (t : List (Int × Int))
  | add (p : Str) (n : Int) (y : Str)
def Stm.d : Stm → D
  | .one p a b => .tup [.str "one", .str p, .int a, .int b]
  | .all p t => .tup [.str "all", .str p, prsD t]
  | .each p t => .tup [.str "each", .str p, prsD t]
  | .add p n y => .tup [.str "add", .str p, .int n, .str y]
def Stm.p : Stm → Str
  | .one p _ _ => p
  | .all p _ => p
  | .each p _ => p
  | .add p _ _ => p
def place (p : Str) : Prop := p = "rows" ∨ p = "refs"
def Stm.ok (b : Int) : Stm → Prop
  | .one p x y => place p ∧ okI b x ∧ okI b y
  | .all p t => place p ∧ okTab b t
  | .each p t => place p ∧ 1 ≤ t.length ∧ t.length ≤ 6 ∧ ∀ q ∈ t, inB b q
  | .add p n y => place p ∧ -4 ≤ n ∧ n ≤ 4 ∧ n ≠ 0 ∧ (y = "up" ∨ y = "down")
def scD (l : List Stm) : D := .tup (l.map Stm.d)
@[simp] theorem op_slt {ds : List D} {lo hi : Option Int} : slD (.tup ds) lo hi = some (.tup (cutD ds lo hi)) := rfl
theorem cut_head {x : D} {xs : List D} : cutD (x :: xs) none (some 1) = [x] := by
  unfold cutD HT.sIx
  simp
theorem cut_two {x y : D} {xs : List D} : cutD (x :: y :: xs) (some 2) none = xs := by
  unfold cutD HT.sIx
  simp
theorem statement_ok (b : Int) (p : Str) (hb : 0 < b) (hb2 : b ≤ 5) (hp : place p) : Draws m__law_statement [.int b, .str p] 25 fun r => ∃ s : Stm, r = s.d ∧ s.ok b ∧ s.p = p := fun w h3 h4 => by
  unfold m__law_statement b__law_statement
  obtain ⟨_, w1, f1, ⟨t, rfl, t1, t2⟩, c1, c2⟩ := take_ok 5 (by omega) (by omega) w (by omega) (by omega)
  simp only [List.map_cons, List.map_nil] at f1
  by_cases g1 : t < 2
  · obtain ⟨_, w2, f2, ⟨x, rfl, x1, x2⟩, c3, c4⟩ := take_ok b (by omega) (by omega) w1 (by omega) (by omega)
    obtain ⟨_, w3, f3, ⟨y, rfl, y1, y2⟩, c5, c6⟩ := take_ok b (by omega) (by omega) w2 (by omega) (by omega)
    simp only [List.map_cons, List.map_nil] at f2 f3
    exact ⟨(Stm.one p x y).d, w3, by simp [f1, f2, f3, g1, Stm.d], ⟨_, rfl, ⟨hp, ⟨x1, x2⟩, y1, y2⟩, rfl⟩, by omega, by omega⟩
  · by_cases g2 : t = 2
    · obtain ⟨_, w2, f2, ⟨l, rfl, l1⟩, c3, c4⟩ := table_ok b (by omega) (by omega) w1 (by omega) (by omega)
      simp only [List.map_cons, List.map_nil] at f2
      exact ⟨(Stm.all p l).d, w2, by simp [f1, f2, g1, g2, Stm.d], ⟨_, rfl, ⟨hp, l1⟩, rfl⟩, by omega, by omega⟩
    · by_cases g3 : t = 3
      · obtain ⟨_, w2, f2, ⟨x, rfl, x1, x2⟩, c3, c4⟩ := take_ok 3 (by omega) (by omega) w1 (by omega) (by omega)
        obtain ⟨_, w3, f3, ⟨l, rfl, l1, l2⟩, c5, c6⟩ := pairs_ok b (1 + x) (by omega) (by omega) (by omega) (by omega) w2 (by omega) (by omega)
        simp only [List.map_cons, List.map_nil] at f2 f3
        exact ⟨(Stm.each p l).d, w3, by simp [f1, f2, f3, g1, g2, g3, Stm.d], ⟨_, rfl, ⟨hp, by omega, by omega, l2⟩, rfl⟩, by omega, by omega⟩
      · obtain ⟨_, w2, f2, ⟨x, rfl, x1, x2⟩, c3, c4⟩ := take_ok 8 (by omega) (by omega) w1 (by omega) (by omega)
        obtain ⟨_, w3, f3, ⟨y, rfl, y1, y2⟩, c5, c6⟩ := take_ok 4 (by omega) (by omega) w2 (by omega) (by omega)
        simp only [List.map_cons, List.map_nil] at f2 f3
        obtain ⟨n, e, n1, n2, n3⟩ : ∃ n : Int, atI [D.int 1, D.int (-1), D.int 1, D.int (-1), D.int 2, D.int (-2), D.int 3, D.int (-4)] x = some (.int n) ∧ -4 ≤ n ∧ n ≤ 4 ∧ n ≠ 0 := by
          have : x = 0 ∨ x = 1 ∨ x = 2 ∨ x = 3 ∨ x = 4 ∨ x = 5 ∨ x = 6 ∨ x = 7 := by omega
          rcases this with rfl | rfl | rfl | rfl | rfl | rfl | rfl | rfl <;> exact ⟨_, rfl, by decide, by decide, by decide⟩
        refine ⟨(Stm.add p n (if (decide (0 < n) == (y == 0)) = true then "up" else "down")).d, w3, ?_, ⟨_, rfl, ⟨hp, n1, n2, n3, ?_⟩, rfl⟩, by omega, by omega⟩
        · simp [f1, f2, f3, g1, g2, g3, e, Stm.d]
          by_cases q1 : 0 < n <;> by_cases q2 : y = 0 <;> simp [q1, q2]
        · split
          · exact .inl rfl
          · exact .inr rfl
/-- the twin on the pointers -/
def Stm.refs : Stm → Stm
  | .one _ a b => .one "refs" a b
  | .all _ t => .all "refs" t
  | .each _ t => .each "refs" t
  | .add _ n y => .add "refs" n y
def Stm.back : Stm → Stm
  | .each _ t => .each "refs" t.reverse
  | s => s.refs
theorem refs_ok {b : Int} {s : Stm} (h : s.ok b) : s.refs.ok b ∧ s.refs.p = "refs" := by
  cases s with
  | one p x y => exact ⟨⟨.inr rfl, h.2⟩, rfl⟩
  | all p t => exact ⟨⟨.inr rfl, h.2⟩, rfl⟩
  | each p t => exact ⟨⟨.inr rfl, h.2⟩, rfl⟩
  | add p n y => exact ⟨⟨.inr rfl, h.2⟩, rfl⟩
theorem back_ok {b : Int} {s : Stm} (h : s.ok b) : s.back.ok b ∧ s.back.p = "refs" := by
  cases s with
  | one p x y => exact ⟨⟨.inr rfl, h.2⟩, rfl⟩
  | all p t => exact ⟨⟨.inr rfl, h.2⟩, rfl⟩
  | each p t =>
    obtain ⟨_, h1, h2, h3⟩ := h
    exact ⟨⟨.inr rfl, by rw [List.length_reverse]; exact h1, by rw [List.length_reverse]; exact h2, fun q hq => h3 q (List.mem_reverse.mp hq)⟩, rfl⟩
  | add p n y => exact ⟨⟨.inr rfl, h.2⟩, rfl⟩
theorem eq1 : eqD (.str "one") (.str "each") = some (.bl false) := by kernel_rfl
theorem eq2 : eqD (.str "all") (.str "each") = some (.bl false) := by kernel_rfl
theorem eq3 : eqD (.str "each") (.str "each") = some (.bl true) := by kernel_rfl
theorem eq4 : eqD (.str "add") (.str "each") = some (.bl false) := by kernel_rfl
theorem twin_ok (s : Stm) (b : Int) (h : s.ok b) : Draws m__law_twin [s.d] 1 fun r => ∃ u : Stm, r = u.d ∧ (u = s.refs ∨ u = s.back) := fun w h3 h4 => by
  unfold m__law_twin b__law_twin
  cases s with
  | one p x y => exact ⟨_, w, by simp [Stm.d, atI, ixN, eq1, cut_head, cut_two], ⟨Stm.one "refs" x y, rfl, .inl rfl⟩, by omega, by omega⟩
  | all p t => exact ⟨_, w, by simp [Stm.d, atI, ixN, eq2, cut_head, cut_two], ⟨Stm.all "refs" t, rfl, .inl rfl⟩, by omega, by omega⟩
  | add p n y => exact ⟨_, w, by simp [Stm.d, atI, ixN, eq4, cut_head, cut_two], ⟨Stm.add "refs" n y, rfl, .inl rfl⟩, by omega, by omega⟩
  | each p t =>
    obtain ⟨_, w2, f2, ⟨x, rfl, x1, x2⟩, c3, c4⟩ := take_ok 3 (by omega) (by omega) w (by omega) (by omega)
    simp only [List.map_cons, List.map_nil] at f2
    by_cases hx : x = 0
    · exact ⟨(Stm.each "refs" t.reverse).d, w2, by simp [Stm.d, atI, ixN, eq3, cut_head, cut_two, f2, hx, prsD], ⟨_, rfl, .inr rfl⟩, by omega, by omega⟩
    · exact ⟨(Stm.each "refs" t).d, w2, by simp [Stm.d, atI, ixN, eq3, cut_head, cut_two, f2, hx, prsD], ⟨_, rfl, .inl rfl⟩, by omega, by omega⟩
theorem cut_map {α : Type} (f : α → D) (l : List α) (lo hi : Option Int) : ∃ m : List α, cutD (l.map f) lo hi = m.map f ∧ (∀ x ∈ m, x ∈ l) ∧ m.length ≤ l.length := by
  unfold cutD
  refine ⟨(l.drop (HT.sIx (l.map f).length 0 lo)).take (HT.sIx (l.map f).length (l.map f).length hi - HT.sIx (l.map f).length 0 lo), by rw [List.map_take, List.map_drop], fun x hx => List.mem_of_mem_drop (List.mem_of_mem_take hx), ?_⟩
  rw [List.length_take, List.length_drop]
  omega
theorem cut_parts {α : Type} (f : α → D) (l : List α) (i : Int) (h : 0 ≤ i) (h2 : i ≤ l.length) : ∃ m k : List α, cutD (l.map f) none (some i) = m.map f ∧ cutD (l.map f) (some (i + 1)) none = k.map f ∧ (∀ x ∈ m, x ∈ l) ∧ (∀ x ∈ k, x ∈ l) ∧ m.length + k.length ≤ l.length := by
  unfold cutD HT.sIx
  simp only [List.length_map]
  rw [if_neg (by omega), if_neg (by omega)]
  refine ⟨(l.drop 0).take (min i.toNat l.length - 0), (l.drop (min (i + 1).toNat l.length)).take (l.length - min (i + 1).toNat l.length), by rw [List.map_take, List.map_drop], by rw [List.map_take, List.map_drop], fun x hx => List.mem_of_mem_drop (List.mem_of_mem_take hx), fun x hx => List.mem_of_mem_drop (List.mem_of_mem_take hx), ?_⟩
  rw [List.length_take, List.length_drop, List.length_take, List.length_drop]
  omega
def okSc (b : Int) (n : Int) (l : List Stm) : Prop := (l.length : Int) ≤ n ∧ ∀ s ∈ l, s.ok b
theorem script_ok (b most : Int) (hb : 0 < b) (hb2 : b ≤ 5) (hm : 0 ≤ most) (hm2 : most ≤ 100) : Draws m__law_script [.int b, .int most] (26 * most + 20) fun r => ∃ l, r = scD l ∧ okSc b most l := fun w h3 h4 => by
  unfold m__law_script b__law_script
  obtain ⟨_, w1, f1, ⟨t, rfl, t1, t2⟩, c1, c2⟩ := take_ok 3 (by omega) (by omega) w (by omega) (by omega)
  simp only [List.map_cons, List.map_nil] at f1
  by_cases g1 : t = 0
  · subst g1
    obtain ⟨_, w2, f2, ⟨n, rfl, n1, n2⟩, c3, c4⟩ := take_ok (most + 1) (by omega) (by omega) w1 (by omega) (by omega)
    simp only [List.map_cons, List.map_nil] at f2
    have sm : smallI n = true := by unfold smallI; simp; omega
    obtain ⟨ρ', e2, w3, l, x, rfl, hx, hl1, hl2, hc1, hc2⟩ := for_inv (fi := rng1I (consE (callE m__law_take (argS 0 (argV (bin2 addD (varE 2) (retE (.int 1))) (retE [])))) (retE []))) (g := setT 4)
      (f := asgS (bin2 addD (varE 3) (tupE (consE (callE m__law_statement (argS 0 (argV (varE 1) (argV (bin2 ixD (lstE (consE (retE (.str "rows")) (consE (retE (.str "refs")) (retE [])))) (callE m__law_take (argS 0 (argV (retE (.int 2)) (retE []))))) (retE []))))) (retE [])))) (setT 3))
      (ρ0 := [.p w1.d, .v (.int b), .v (.int most), .v (.tup []), .u, .u, .u, .u, .u]) (ρ := [.p w2.d, .v (.int b), .v (.int most), .v (.tup []), .u, .u, .u, .u, .u]) (ds := rngD 0 n.toNat)
      (fun i ρ => ∃ (w' : Bag) (l : List Stm) (x : Sl), ρ = [.p w'.d, .v (.int b), .v (.int most), .v (scD l), x, .u, .u, .u, .u] ∧ free x ∧ l.length = i ∧ (∀ s ∈ l, s.ok b) ∧ w2.c ≤ w'.c ∧ w'.c ≤ w2.c + 26 * i)
      (by simp [f2, sm]) ⟨w2, [], .u, rfl, .inl rfl, rfl, by simp, by omega, by omega⟩ (fun j d ρ hj ⟨w', l, x, e, hx, q1, q2, q3, q4⟩ => by
        subst e
        obtain ⟨rfl, hj⟩ := rng_get hj
        obtain ⟨_, w3, f3, ⟨y, rfl, y1, y2⟩, c5, c6⟩ := take_ok 2 (by omega) (by omega) w' (by omega) (by omega)
        obtain ⟨p, e, hp⟩ : ∃ p : Str, atI [D.str "rows", D.str "refs"] y = some (.str p) ∧ place p := by
          have : y = 0 ∨ y = 1 := by omega
          rcases this with rfl | rfl
          · exact ⟨_, rfl, .inl rfl⟩
          · exact ⟨_, rfl, .inr rfl⟩
        obtain ⟨_, w4, f4, ⟨s, rfl, s1, s2⟩, c7, c8⟩ := statement_ok b p hb hb2 hp w3 (by omega) (by omega)
        simp only [List.map_cons, List.map_nil] at f3 f4
        have hll : l.length ≤ 999999 := by omega
        have hs : setT 4 (.int (0 + j)) [.p w'.d, .v (.int b), .v (.int most), .v (scD l), x, .u, .u, .u, .u] = some [.p w'.d, .v (.int b), .v (.int most), .v (scD l), .v (.int (0 + j)), .u, .u, .u, .u] := by
          rcases hx with rfl | ⟨_, rfl⟩ <;> simp
        refine ⟨_, [.p w4.d, .v (.int b), .v (.int most), .v (scD (l ++ [s])), .v (.int (0 + j)), .u, .u, .u, .u], hs, by simp [f3, f4, e, scD, hll], w4, l ++ [s], _, rfl, .inr ⟨_, rfl⟩, by simp [q1], ?_, by omega, by omega⟩
        intro u hu
        rcases List.mem_append.mp hu with hu | hu
        · exact q2 u hu
        · rw [List.mem_singleton.mp hu]; exact s1)
    rw [rng_len] at hl1 hc2
    refine ⟨scD l, w3, ?_, ⟨l, rfl, by omega, hl2⟩, by omega, by omega⟩
    simp [f1]
    rw [e2]
    simp
  · obtain ⟨_, w2, f2, ⟨n, rfl, n1, n2⟩, c3, c4⟩ := take_ok (most / 2 + 1) (by omega) (by omega) w1 (by omega) (by omega)
    simp only [List.map_cons, List.map_nil] at f2
    have sm : smallI n = true := by unfold smallI; simp; omega
    have dv : fdivD (.int most) (.int 2) = some (.int (most / 2)) := rfl
    obtain ⟨out, ρ', e, l, w3, rfl, rfl, hl1, hl2, hc1, hc2⟩ := lcE_inv (vs := [4]) (fi := rng1I (consE (callE m__law_take (argS 0 (argV (bin2 addD (bin2 fdivD (varE 2) (retE (.int 2))) (retE (.int 1))) (retE [])))) (retE []))) (g := setT 4) (ft := yesT) (fe := callE m__law_statement (argS 0 (argV (varE 1) (argV (retE (.str "rows")) (retE [])))))
      (ρ0 := [.p w1.d, .v (.int b), .v (.int most), .v (.tup []), .u, .u, .u, .u, .u]) (ρ := [.p w2.d, .v (.int b), .v (.int most), .v (.tup []), .u, .u, .u, .u, .u]) (ds := rngD 0 n.toNat)
      (fun i acc ρ => ∃ (l : List Stm) (w' : Bag), acc = l.map Stm.d ∧ ρ = [.p w'.d, .v (.int b), .v (.int most), .v (.tup []), .u, .u, .u, .u, .u] ∧ l.length = i ∧ (∀ s ∈ l, s.ok b) ∧ w2.c ≤ w'.c ∧ w'.c ≤ w2.c + 25 * i)
      (by simp [f2, sm, dv]) (by simp) (by rw [rng_len]; omega) ⟨[], w2, rfl, rfl, rfl, by simp, by omega, by omega⟩ (fun j d acc ρ hj ⟨l, w', e1, e2, q1, q2, q3, q4⟩ => by
        obtain ⟨rfl, hj⟩ := rng_get hj
        subst e1 e2
        obtain ⟨_, w4, f4, ⟨s, rfl, s1, s2⟩, c7, c8⟩ := statement_ok b "rows" hb hb2 (.inl rfl) w' (by omega) (by omega)
        simp only [List.map_cons, List.map_nil] at f4
        refine ⟨[.p w'.d, .v (.int b), .v (.int most), .v (.tup []), .v (.int (0 + j)), .u, .u, .u, .u], [.p w'.d, .v (.int b), .v (.int most), .v (.tup []), .v (.int (0 + j)), .u, .u, .u, .u], true, by simp, by simp, by simp, fun _ => ⟨s.d, [.p w4.d, .v (.int b), .v (.int most), .v (.tup []), .v (.int (0 + j)), .u, .u, .u, .u], by simp [f4], l ++ [s], w4, by simp, by simp, by simp [q1], ?_, by omega, by omega⟩⟩
        intro u hu
        rcases List.mem_append.mp hu with hu | hu
        · exact q2 u hu
        · rw [List.mem_singleton.mp hu]; exact s1)
    rw [rng_len] at hl1 hc2
    obtain ⟨out, ρ', e3, l2, w4, rfl, rfl, hk1, hk2, hd1, hd2⟩ := lcE_inv (vs := [7]) (fi := seqI (varE 5)) (g := setT 7) (ft := yesT) (fe := callE m__law_twin (argS 0 (argV (varE 7) (retE []))))
      (ρ0 := [.p w3.d, .v (.int b), .v (.int most), .v (.tup []), .u, .v (.lst (l.map Stm.d)), .u, .u, .u]) (ρ := [.p w3.d, .v (.int b), .v (.int most), .v (.tup []), .u, .v (.lst (l.map Stm.d)), .u, .u, .u]) (ds := l.map Stm.d)
      (fun i acc ρ => ∃ (l2 : List Stm) (w' : Bag), acc = l2.map Stm.d ∧ ρ = [.p w'.d, .v (.int b), .v (.int most), .v (.tup []), .u, .v (.lst (l.map Stm.d)), .u, .u, .u] ∧ l2.length = i ∧ (∀ s ∈ l2, s.ok b) ∧ w3.c ≤ w'.c ∧ w'.c ≤ w3.c + i)
      (by simp) (by simp) (by rw [List.length_map]; omega) ⟨[], w3, rfl, rfl, rfl, by simp, by omega, by omega⟩ (fun j d acc ρ hj ⟨l2, w', e1, e2, q1, q2, q3, q4⟩ => by
        subst e1 e2
        rw [List.getElem?_map] at hj
        have hj' : j < l.length := by
          rcases Nat.lt_or_ge j l.length with h | h
          · exact h
          · rw [List.getElem?_eq_none h] at hj; cases hj
        rw [List.getElem?_eq_getElem hj'] at hj
        cases hj
        have hok := hl2 l[j] (List.getElem_mem hj')
        obtain ⟨_, w4, f4, ⟨s, rfl, s1⟩, c7, c8⟩ := twin_ok l[j] b hok w' (by omega) (by omega)
        simp only [List.map_cons, List.map_nil] at f4
        refine ⟨[.p w'.d, .v (.int b), .v (.int most), .v (.tup []), .u, .v (.lst (l.map Stm.d)), .u, .v l[j].d, .u], [.p w'.d, .v (.int b), .v (.int most), .v (.tup []), .u, .v (.lst (l.map Stm.d)), .u, .v l[j].d, .u], true, by simp, by simp, by simp, fun _ => ⟨s.d, [.p w4.d, .v (.int b), .v (.int most), .v (.tup []), .u, .v (.lst (l.map Stm.d)), .u, .v l[j].d, .u], by simp [f4], l2 ++ [s], w4, by simp, by simp, by simp [q1], ?_, by omega, by omega⟩⟩
        intro u hu
        rcases List.mem_append.mp hu with hu | hu
        · exact q2 u hu
        · rw [List.mem_singleton.mp hu]
          rcases s1 with rfl | rfl
          · exact (refs_ok hok).1
          · exact (back_ok hok).1)
    rw [List.length_map] at hk1 hd2
    obtain ⟨_, w5, f5, ⟨a, rfl, a1, a2⟩, c5, c6⟩ := take_ok (l2.length + 1) (by omega) (by omega) w4 (by omega) (by omega)
    obtain ⟨_, w6, f6, ⟨y, rfl, y1, y2⟩, c7, c8⟩ := take_ok 3 (by omega) (by omega) w5 (by omega) (by omega)
    obtain ⟨_, w7, f7, ⟨z, rfl, z1, z2⟩, c9, c10⟩ := take_ok 4 (by omega) (by omega) w6 (by omega) (by omega)
    simp only [List.map_cons, List.map_nil] at f5 f6 f7
    obtain ⟨m, k, m1, m2, m3, m4, m5⟩ := cut_parts Stm.d l2 a a1 (by omega)
    obtain ⟨l3, e4, g3, g4⟩ : ∃ l3 : List Stm, (if y = 0 then m ++ k else l2) = l3 ∧ (∀ s ∈ l3, s.ok b) ∧ (l3.length : Int) ≤ n := by
      refine ⟨_, rfl, ?_, ?_⟩
      · intro s hs
        split at hs
        · rcases List.mem_append.mp hs with hs | hs
          · exact hk2 s (m3 s hs)
          · exact hk2 s (m4 s hs)
        · exact hk2 s hs
      · split
        · rw [List.length_append]; omega
        · omega
    refine ⟨scD (if 0 < z then l ++ l3 else l3 ++ l), w7, ?_, ⟨_, rfl, ?_, ?_⟩, by omega, by omega⟩
    · simp [f1, g1]
      rw [e]
      simp
      rw [e3]
      have b1 : m.length + k.length ≤ 1000000 := by omega
      have b2 : l.length + l2.length ≤ 1000000 := by omega
      have b3 : l2.length + l.length ≤ 1000000 := by omega
      have b4 : l.length + (m.length + k.length) ≤ 1000000 := by omega
      have b5 : m.length + (k.length + l.length) ≤ 1000000 := by omega
      have b6 : m.length + k.length + l.length ≤ 1000000 := by omega
      by_cases hy : y = 0 <;> by_cases hz : 0 < z <;> simp [f5, f6, f7, hy, hz, m1, m2, scD, b1, b2, b3, b4, b5, b6, ← e4]
    · split <;> rw [List.length_append] <;> omega
    · intro s hs
      split at hs <;> rcases List.mem_append.mp hs with hs | hs <;> first | exact hl2 s hs | exact g3 s hs
end DL

/-! Plain maths, 4: the bags that a law begins with. -/
namespace DL
open PySem L2

def wellB (c t : Int) : Bag := ⟨if 10 ^ 18 ≤ c then c - 10 ^ 18 else 0, c % p61, t⟩
theorem well_is (c t : Int) : m__law_well [.v (.int c), .v (.int t)] = .ok (wellB c t).d [.v (.int c), .v (.int t)] := by
  unfold m__law_well b__law_well
  have pw : powD (.int 10) (.int 18) = some (.int (10 ^ 18)) := rfl
  have md : modD (.int c) (.int 2305843009213693951) = some (.int (c % p61)) := rfl
  by_cases h : (10 : Int) ^ 18 ≤ c
  · simp only [Int.reducePow] at h pw
    simp [pw, md, h, wellB, Bag.d]
  · simp only [Int.reducePow] at h pw
    simp [pw, md, h, wellB, Bag.d]
theorem enum_get {es : List D} {j : Nat} {d : D} (h : (enumD es)[j]? = some d) : ∃ e, es[j]? = some e ∧ d = .prt [.int (j : Nat), e] := by
  unfold enumD at h
  rw [List.getElem?_map, List.getElem?_zipIdx] at h
  cases e : es[j]? with
  | none => rw [e] at h; cases h
  | some x => rw [e] at h; cases h; exact ⟨x, rfl, by simp⟩
@[simp] theorem ev_enumA {fa : EM (List D)} {ρ : Ro} : enumA fa ρ = (fa ρ).bind fun ds ρ1 => liftO (match ds with | [.lst es] => some (enumD es) | [.tup es] => some (enumD es) | _ => none) ρ1 := rfl
@[simp] theorem op_sls {ns : List Int} {lo hi : Option Int} : slD (.scr ns) lo hi = some (.lst (cutD (ns.map .int) lo hi)) := rfl
@[simp] theorem ev_tupT {n : Nat} {g : List D → Ro → Option Ro} {ds : List D} {ρ : Ro} : tupT n g (.tup ds) ρ = if ds.length = n then g ds ρ else none := rfl
@[simp] theorem ev_tupTp {n : Nat} {g : List D → Ro → Option Ro} {ds : List D} {ρ : Ro} : tupT n g (.prt ds) ρ = if ds.length = n then g ds ρ else none := rfl
@[simp] theorem ev_consT {f : D → Ro → Option Ro} {g : List D → Ro → Option Ro} {d : D} {ds : List D} {ρ : Ro} : consT f g (d :: ds) ρ = (f d ρ).bind (g ds) := rfl
@[simp] theorem ev_nilT {ρ : Ro} : nilT [] ρ = some ρ := rfl
theorem bags_is (ns : List Int) (M : Int) (h0 : 0 ≤ M) (h1 : M ≤ 62) (hn : ns.length ≤ 63) : ∃ ws : List Bag, m__law_bags [.v (.scr ns), .v (.int M)] = .ok (.lst (ws.map Bag.d)) [.v (.scr ns), .v (.int M)] ∧
    (∀ (i j : Nat) (w u : Bag), ws[i]? = some w → ws[j]? = some u → w.c = u.c → i = j) ∧ ∀ w ∈ ws, w.ok := by
  obtain ⟨m, hm, hm2, hm3⟩ := cut_map D.int ns none (some M)
  have hm4 : m.length ≤ 62 := by
    have := congrArg List.length hm
    unfold cutD HT.sIx at this
    rw [List.length_map, List.length_take, List.length_drop] at this
    simp only [List.length_map] at this
    rw [if_neg (by omega)] at this
    omega
  obtain ⟨out, ρ', e, ws, rfl, rfl, hl, hw⟩ := lcE_inv (vs := [2, 3]) (fi := enumA (consE (bin2 addD (slE (varE 0) (retE none) (partE (varE 1))) (lstE (consE (retE (.int 0)) (retE [])))) (retE []))) (g := tupT 2 (consT (setT 2) (consT (setT 3) nilT))) (ft := yesT) (fe := callE m__law_well (argV (varE 3) (argV (bin2 mulD (retE (.int 977)) (varE 2)) (retE []))))
    (ρ0 := [.v (.scr ns), .v (.int M), .u, .u]) (ρ := [.v (.scr ns), .v (.int M), .u, .u]) (ds := enumD ((m ++ [0]).map .int))
    (fun i acc ρ => ∃ ws : List Bag, acc = ws.map Bag.d ∧ ρ = [.v (.scr ns), .v (.int M), .u, .u] ∧ ws.length = i ∧ ∀ (j : Nat) (w : Bag), ws[j]? = some w → ∃ c, w = wellB c (977 * (j : Nat)))
    (by have b1 : m.length ≤ 999999 := by omega
        simp [hm, b1]) (by simp) (by unfold enumD; simp; omega) ⟨[], rfl, rfl, rfl, fun j w h => by simp at h⟩ (fun j d acc ρ hj ⟨ws, e1, e2, q1, q2⟩ => by
      subst e1 e2
      obtain ⟨x, hx, rfl⟩ := enum_get hj
      rw [List.getElem?_map] at hx
      obtain ⟨c, hc, rfl⟩ := map_inv hx
      have mk : mulOk 977 (j : Nat) = true := by unfold mulOk; simp
      refine ⟨[.v (.scr ns), .v (.int M), .v (.int (j : Nat)), .v (.int c)], [.v (.scr ns), .v (.int M), .v (.int (j : Nat)), .v (.int c)], true, by simp, by simp, by simp, fun _ => ⟨(wellB c (977 * (j : Nat))).d, [.v (.scr ns), .v (.int M), .v (.int (j : Nat)), .v (.int c)], by simp [mulD, mk, well_is], ws ++ [wellB c (977 * (j : Nat))], by simp, by simp, by simp [q1], fun i w hi => ?_⟩⟩
      rw [List.getElem?_append] at hi
      split at hi
      · exact q2 i w hi
      · rename_i hge
        rw [List.getElem?_singleton] at hi
        split at hi
        · rename_i hz
          cases hi
          have : i = j := by omega
          subst this
          exact ⟨c, rfl⟩
        · cases hi)
  have hlen : ws.length ≤ 63 := by
    rw [hl]; unfold enumD; simp; omega
  refine ⟨ws, ?_, fun i j w u hi hj hc => ?_, fun w hwm => ?_⟩
  · unfold m__law_bags b__law_bags
    simp
    rw [e]
    simp
  · obtain ⟨c, rfl⟩ := hw i w hi
    obtain ⟨c', rfl⟩ := hw j u hj
    unfold wellB at hc
    simp at hc
    omega
  · obtain ⟨i, hi⟩ := List.mem_iff_getElem?.mp hwm
    obtain ⟨c, rfl⟩ := hw i w hi
    have hi' := (List.getElem?_eq_some_iff.mp hi).1
    unfold Bag.ok wellB p61
    refine ⟨?_, ?_, ?_, ?_, ?_⟩
    · simp only
      split <;> omega
    · exact Int.emod_nonneg _ (by decide)
    · exact Int.emod_lt_of_pos _ (by decide)
    · simp only; omega
    · simp only; omega
end DL

/-! Plain maths: what is a statement, a script (printed by split.py). -/
namespace DL
open PySem L2


/-- good data: not deep, not long -/
def Gd : Nat → D → Prop
  | _, .non => True
  | _, .bl _ => True
  | _, .int _ => True
  | _, .str s => PyData.canLay0 (.str s) = true
  | n + 1, .tup ds => ds.length ≤ 40 ∧ ∀ x ∈ ds, Gd n x
  | n + 1, .lst ds => ds.length ≤ 40 ∧ ∀ x ∈ ds, Gd n x
  | _, _ => False
theorem Gd.up : ∀ {n : Nat} {d : D}, Gd n d → Gd (n + 1) d
  | n, d, h => by
    induction n generalizing d with
    | zero => cases d <;> simp [Gd] at h ⊢ <;> assumption
    | succ n ih =>
      cases d <;> simp only [Gd] at h ⊢ <;> first | exact h | exact ⟨h.1, fun x hx => ih x (h.2 x hx)⟩
theorem Gd.toP : ∀ {n : Nat} {d : D}, Gd n d → ∃ p, toP d = some p ∧ p.canLay0 = true ∧ p.depth ≤ n
  | n, .non, _ => ⟨_, rfl, rfl, Nat.zero_le _⟩
  | n, .bl b, _ => ⟨_, rfl, rfl, Nat.zero_le _⟩
  | n, .int b, _ => ⟨_, rfl, rfl, Nat.zero_le _⟩
  | n, .str s, h => ⟨.str s, rfl, by simpa [Gd] using h, Nat.zero_le _⟩
  | 0, .tup ds, h => by simp [Gd] at h
  | 0, .lst ds, h => by simp [Gd] at h
  | n + 1, .tup ds, h => by
    simp only [Gd] at h
    have : ∀ l : List D, (∀ x ∈ l, Gd n x) → ∃ ps, toPs l = some ps ∧ PyData.canLayAll0 ps = true ∧ PyData.depthAll ps ≤ n := by
      intro l
      induction l with
      | nil => intro _; exact ⟨[], rfl, rfl, Nat.zero_le _⟩
      | cons x l ih =>
        intro h
        obtain ⟨p, h1, h2, h3⟩ := Gd.toP (h x List.mem_cons_self)
        obtain ⟨ps, h4, h5, h6⟩ := ih fun y hy => h y (List.mem_cons_of_mem _ hy)
        exact ⟨p :: ps, by rw [toPs, h1, h4], by rw [PyData.canLayAll0, h2, h5]; rfl, by rw [PyData.depthAll]; omega⟩
    obtain ⟨ps, h4, h5, h6⟩ := this ds h.2
    exact ⟨.tuple ps, by rw [DL.toP, h4]; rfl, by rw [PyData.canLay0]; exact h5, by rw [PyData.depth]; omega⟩
  | n + 1, .lst ds, h => by
    simp only [Gd] at h
    have : ∀ l : List D, (∀ x ∈ l, Gd n x) → ∃ ps, toPs l = some ps ∧ PyData.canLayAll0 ps = true ∧ PyData.depthAll ps ≤ n := by
      intro l
      induction l with
      | nil => intro _; exact ⟨[], rfl, rfl, Nat.zero_le _⟩
      | cons x l ih =>
        intro h
        obtain ⟨p, h1, h2, h3⟩ := Gd.toP (h x List.mem_cons_self)
        obtain ⟨ps, h4, h5, h6⟩ := ih fun y hy => h y (List.mem_cons_of_mem _ hy)
        exact ⟨p :: ps, by rw [toPs, h1, h4], by rw [PyData.canLayAll0, h2, h5]; rfl, by rw [PyData.depthAll]; omega⟩
    obtain ⟨ps, h4, h5, h6⟩ := this ds h.2
    exact ⟨.list ps, by rw [DL.toP, h4]; rfl, by rw [PyData.canLay0]; exact h5, by rw [PyData.depth]; omega⟩
  | n, .ref _, h => by cases n <;> simp [Gd] at h
  | n, .ty _, h => by cases n <;> simp [Gd] at h
  | n, .dct _, h => by cases n <;> simp [Gd] at h
  | n, .dcn _, h => by cases n <;> simp [Gd] at h
  | n, .ins _ _, h => by cases n <;> simp [Gd] at h
  | n, .scr _, h => by cases n <;> simp [Gd] at h
  | n, .prt _, h => by cases n <;> simp [Gd] at h
theorem Gd.shaped {n : Nat} {d : D} (h : Gd n d) (hn : n ≤ 60) : ∃ p, DL.toP d = some p ∧ PySem.SeqAt.shaped p = true := by
  obtain ⟨p, h1, h2, h3⟩ := h.toP
  exact ⟨p, h1, by unfold PySem.SeqAt.shaped; rw [h2, decide_eq_true (by omega)]; rfl⟩
theorem Gd.eq {n m : Nat} {d e : D} (h : Gd n d) (hn : n ≤ 60) (h' : Gd m e) (hm : m ≤ 60) : ∃ b, eqD d e = some (.bl b) ∧ neD d e = some (.bl (!b)) := by
  obtain ⟨p, h1, h2⟩ := h.shaped hn
  obtain ⟨q, h3, h4⟩ := h'.shaped hm
  refine ⟨PyData.eqv p q, ?_, ?_⟩
  · unfold eqD eqvD; rw [h1, h3]; simp only [h2, h4]; rfl
  · unfold neD eqvD; rw [h1, h3]; simp only [h2, h4]; rfl
/-- a list beside the empty one -/
theorem Gd.nil {n : Nat} {ds : List D} (h : Gd n (.lst ds)) (hn : n ≤ 60) : eqD (.lst ds) (.lst []) = some (.bl ds.isEmpty) ∧ neD (.lst ds) (.lst []) = some (.bl (!ds.isEmpty)) := by
  obtain ⟨p, h1, h2⟩ := h.shaped hn
  have e : PyData.eqv p (.list []) = ds.isEmpty := by
    cases ds with
    | nil => cases h1; rfl
    | cons x xs =>
      rw [DL.toP] at h1
      obtain ⟨ps, h3, rfl⟩ := map_inv h1
      rw [toPs] at h3
      cases e1 : DL.toP x with
      | none => rw [e1] at h3; cases h3
      | some p =>
        cases e2 : toPs xs with
        | none => rw [e1, e2] at h3; cases h3
        | some qs => rw [e1, e2] at h3; cases h3; rfl
  constructor
  · unfold eqD eqvD; rw [h1, show DL.toP (.lst []) = some (.list []) from rfl]; simp only [h2, show PySem.SeqAt.shaped (.list []) = true from rfl, e]; rfl
  · unfold neD eqvD; rw [h1, show DL.toP (.lst []) = some (.list []) from rfl]; simp only [h2, show PySem.SeqAt.shaped (.list []) = true from rfl, e]; rfl
/-- what a value is -/
def isTup : D → Bool
  | .tup _ => true
  | _ => false
def isStr : D → Bool
  | .str _ => true
  | _ => false
def isInt : D → Bool
  | .int _ => true
  | .bl _ => true
  | _ => false
def isBool : D → Bool
  | .bl _ => true
  | _ => false
theorem isi_tup {n : Nat} {d : D} (h : Gd n d) : isiF [d, .ty "tuple"] = some (.bl (isTup d)) := by cases d <;> first | rfl | (cases n <;> simp [Gd] at h)
theorem isi_str {n : Nat} {d : D} (h : Gd n d) : isiF [d, .ty "str"] = some (.bl (isStr d)) := by cases d <;> first | rfl | (cases n <;> simp [Gd] at h)
theorem isi_int {n : Nat} {d : D} (h : Gd n d) : isiF [d, .ty "int"] = some (.bl (isInt d)) := by cases d <;> first | rfl | (cases n <;> simp [Gd] at h)
theorem isi_bool {n : Nat} {d : D} (h : Gd n d) : isiF [d, .ty "bool"] = some (.bl (isBool d)) := by cases d <;> first | rfl | (cases n <;> simp [Gd] at h)
/-- a whole number between -/
def inI (d : D) (lo hi : Int) : Bool := match d with
  | .int i => decide (lo ≤ i) && decide (i ≤ hi)
  | _ => false
theorem within_is {n : Nat} {d : D} (h : Gd n d) (lo hi : Int) : m_is_within [.v d, .v (.int lo), .v (.int hi)] = .ok (.bl (inI d lo hi)) [.v d, .v (.int lo), .v (.int hi)] := by
  unfold m_is_within b_is_within
  have h1 := isi_int h
  have h2 := isi_bool h
  cases d <;> (try (simp [h1, h2, isInt, isBool, inI]; done))
  case int i => by_cases q : lo ≤ i <;> simp [h1, h2, isInt, isBool, inI, q]
/-- a word among some -/
def wd (d : D) (ss : List Str) : Bool := match d with
  | .str s => ss.any fun t => t == s
  | _ => false
theorem in_strs (s : Str) (ss : List Str) : memF (.str s) (ss.map .str) = ss.any fun t => t == s := by
  unfold memF
  rw [List.any_map]
  rfl
theorem flat_strs (ss : List Str) : (ss.map D.str).all flatD = true := by simp [flatD]
theorem one_of_is {n : Nat} {d : D} (h : Gd n d) (ss : List Str) : m_is_one_of [.v d, .v (.tup (ss.map .str))] = .ok (.bl (wd d ss)) [.v d, .v (.tup (ss.map .str))] := by
  unfold m_is_one_of b_is_one_of
  have h1 := isi_str h
  cases d <;> (try (simp [h1, isStr, wd]; done))
  case str s =>
    have e : inD (.str s) (.tup (ss.map .str)) = some (.bl (wd (.str s) ss)) := by
      unfold inD seqOf wd
      simp only [flat_strs, in_strs]
      rfl
    simp [h1, isStr, e]


theorem Gd.kids {n : Nat} {ds : List D} (h : Gd n (.tup ds)) : ds.length ≤ 40 ∧ ∀ x ∈ ds, Gd n x := by
  cases n with
  | zero => simp [Gd] at h
  | succ n =>
    simp only [Gd] at h
    exact ⟨h.1, fun x hx => (h.2 x hx).up⟩
theorem bls_map (f : D → Bool) : ∀ ds : List D, blsD (ds.map fun x => .bl (f x)) = some (ds.map f)
  | [] => rfl
  | d :: ds => by rw [List.map_cons, blsD, bls_map f ds]; rfl
theorem all_map (f : D → Bool) (ds : List D) : allF [.lst (ds.map fun x => .bl (f x))] = some (.bl (ds.all f)) := by
  unfold allF
  simp only [bls_map]
  simp
def pairB (b : Int) (d : D) : Bool := match d with
  | .tup ds => ds.length == 2 && ds.all fun x => inI x 0 (b - 1)
  | _ => false
theorem pairB_inv {b : Int} {d : D} (h : pairB b d = true) : ∃ p : Int × Int, d = prD p ∧ inB b p := by
  match d, h with
  | .tup [x, y], h =>
    simp [pairB] at h
    obtain ⟨h1, h2⟩ := h
    cases x <;> simp [inI] at h1
    cases y <;> simp [inI] at h2
    rename_i i j
    exact ⟨(i, j), rfl, h1.1, by omega, h2.1, by omega⟩
  | .tup [], h => simp [pairB] at h
  | .tup [_], h => simp [pairB] at h
  | .tup (_ :: _ :: _ :: _), h => simp [pairB] at h
theorem pairB_pr {b : Int} {p : Int × Int} (h : inB b p) : pairB b (prD p) = true := by
  obtain ⟨h1, h2, h3, h4⟩ := h
  simp [pairB, prD, inI]
  omega
theorem pairs_inv {b : Int} : ∀ {ds : List D}, ds.all (pairB b) = true → ∃ l : List (Int × Int), ds = l.map prD ∧ ∀ p ∈ l, inB b p
  | [], _ => ⟨[], rfl, by simp⟩
  | d :: ds, h => by
    rw [List.all_cons, Bool.and_eq_true] at h
    obtain ⟨p, rfl, hp⟩ := pairB_inv h.1
    obtain ⟨l, rfl, hl⟩ := pairs_inv h.2
    exact ⟨p :: l, rfl, fun q hq => by
      rcases List.mem_cons.mp hq with e | hq
      · exact e ▸ hp
      · exact hl q hq⟩
theorem is_pair_is {n : Nat} {d : D} (h : Gd n d) (b : Int) : m_is_pair [.v (.int b), .v d] = .ok (.bl (pairB b d)) [.v (.int b), .v d] := by
  unfold m_is_pair b_is_pair
  have h1 := isi_tup h
  cases d <;> (try (simp [h1, isTup, pairB]; done))
  case tup ds =>
    obtain ⟨h2, h3⟩ := h.kids
    have e := lcE_map (vs := [2]) (fi := seqI (varE 1)) (g := setT 2) (ft := yesT) (fe := callE m_is_within (argV (varE 2) (argV (retE (.int 0)) (argV (bin2 subD (varE 0) (retE (.int 1))) (retE [])))))
      (ρ := [.v (.int b), .v (.tup ds), .u]) (ds := ds) (fun x => .bl (inI x 0 (b - 1))) (by simp) (by simp) (by omega) (fun x hx => ⟨[.v (.int b), .v (.tup ds), .v x], [.v (.int b), .v (.tup ds), .v x], [.v (.int b), .v (.tup ds), .v x], by simp, by simp, by simp [within_is (h3 x hx)], by simp⟩)
    by_cases q : ds.length = 2
    · simp [h1, isTup, pairB, q, e, all_map]
    · have q2 : ¬ ((ds.length : Int) = 2) := by omega
      simp [h1, isTup, pairB, q, q2]
/-! ### rising -/
def risesB (l : List Int) : Bool := (l.zip (l.drop 1)).all fun p => decide (p.1 < p.2)
theorem risesB_iff : ∀ l : List Int, risesB l = true ↔ l.Pairwise (· < ·)
  | [] => by simp [risesB]
  | [x] => by simp [risesB]
  | x :: y :: l => by
    have ih := risesB_iff (y :: l)
    have e : risesB (x :: y :: l) = (decide (x < y) && risesB (y :: l)) := by simp [risesB]
    rw [e, Bool.and_eq_true, ih, decide_eq_true_eq, List.pairwise_cons (a := x)]
    constructor
    · rintro ⟨h1, h2⟩
      refine ⟨fun z hz => ?_, h2⟩
      rcases List.mem_cons.mp hz with rfl | hz
      · exact h1
      · exact Int.lt_trans h1 ((List.pairwise_cons.mp h2).1 z hz)
    · rintro ⟨h1, h2⟩
      exact ⟨h1 y List.mem_cons_self, h2⟩
theorem cut_tail (xs : List D) : cutD xs (some 1) none = xs.drop 1 := by
  unfold cutD HT.sIx
  simp only
  rw [if_neg (by omega)]
  rcases Nat.eq_zero_or_pos xs.length with h | h
  · rw [List.eq_nil_of_length_eq_zero h]; rfl
  · rw [show min (1 : Int).toNat xs.length = 1 by simp; omega, List.take_of_length_le (by simp)]
theorem zip_ints (l m : List Int) : zipD (l.map .int) (m.map .int) = (l.zip m).map fun p => .prt [.int p.1, .int p.2] := by
  unfold zipD
  rw [List.zip_map, List.map_map]
  rfl
@[simp] theorem ev_zipI {fa : EM (List D)} {ρ : Ro} : zipI fa ρ = (fa ρ).bind fun ds ρ1 => liftO (match ds with | [.lst xs, .lst ys] => some (zipD xs ys) | [.tup xs, .tup ys] => some (zipD xs ys) | _ => none) ρ1 := rfl
@[simp] theorem op_sll {ds : List D} {lo hi : Option Int} : slD (.lst ds) lo hi = some (.lst (cutD ds lo hi)) := rfl
theorem rises_is (l : List Int) (s : D) (hs : s = .lst (l.map .int) ∨ s = .tup (l.map .int)) (hl : l.length ≤ 1000) : m_rises [.v s] = .ok (.bl (risesB l)) [.v s] := by
  unfold m_rises b_rises
  have hz : zipD (l.map .int) ((l.map .int).drop 1) = (l.zip (l.drop 1)).map fun p => .prt [.int p.1, .int p.2] := by rw [← List.map_drop, zip_ints]
  have e := lcE_map (vs := [1, 2]) (fi := zipI (consE (varE 0) (consE (slE (varE 0) (partE (retE (.int 1))) (retE none)) (retE [])))) (g := tupT 2 (consT (setT 1) (consT (setT 2) nilT))) (ft := yesT) (fe := bin2 ltD (varE 1) (varE 2))
    (ρ := [.v s, .u, .u]) (ds := (l.zip (l.drop 1)).map fun p => .prt [.int p.1, .int p.2]) (fun d => match d with | .prt [.int x, .int y] => .bl (decide (x < y)) | _ => .non)
    (by
      have hz2 : zipD (l.map D.int) (l.map D.int).tail = (l.zip l.tail).map (fun p => D.prt [.int p.1, .int p.2]) := by simpa using hz
      rcases hs with rfl | rfl <;> simp [cut_tail, hz2]) (by simp) (by simp; omega) (fun d hd => by
      obtain ⟨p, _, rfl⟩ := List.mem_map.mp hd
      exact ⟨[.v s, .v (.int p.1), .v (.int p.2)], [.v s, .v (.int p.1), .v (.int p.2)], [.v s, .v (.int p.1), .v (.int p.2)], by simp, by simp, by simp, by simp⟩)
  have ha : allF [.lst (((l.zip (l.drop 1)).map fun p => D.prt [.int p.1, .int p.2]).map fun d => match d with | .prt [.int x, .int y] => .bl (decide (x < y)) | _ => .non)] = some (.bl (risesB l)) := by
    rw [List.map_map]
    have := all_map (fun d => match d with | .prt [.int x, .int y] => decide (x < y) | _ => false) ((l.zip (l.drop 1)).map fun p => D.prt [.int p.1, .int p.2])
    rw [List.map_map, List.all_map] at this
    exact this
  simp
  rw [e]
  simp only [ev_okb, ev_lift1]
  rw [ha]
  simp
/-- how many of rising numbers below a bound -/
theorem rise_len : ∀ (l : List Int) (m b : Int), l.Pairwise (· < ·) → (∀ i ∈ l, m ≤ i ∧ i < b) → (l.length : Int) ≤ max 0 (b - m)
  | [], m, b, _, _ => by simp; omega
  | x :: l, m, b, h1, h2 => by
    have q := List.pairwise_cons.mp h1
    have hx := h2 x List.mem_cons_self
    have := rise_len l (x + 1) b q.2 fun i hi => ⟨by have := q.1 i hi; omega, (h2 i (List.mem_cons_of_mem _ hi)).2⟩
    rw [List.length_cons]
    omega
/-! ### tables and rows of pairs -/
def fst0 (d : D) : Int := match d with
  | .tup (.int i :: _) => i
  | _ => 0
theorem fst_pr (l : List (Int × Int)) : (l.map prD).map fst0 = l.map (·.1) := by rw [List.map_map]; rfl
def prsB (b : Int) (d : D) : Bool := match d with
  | .tup ds => decide (1 ≤ ds.length) && decide (ds.length ≤ 6) && ds.all (pairB b)
  | _ => false
def tabB (b : Int) (d : D) : Bool := match d with
  | .tup ds => decide (1 ≤ ds.length) && decide ((ds.length : Int) ≤ b) && ds.all (pairB b) && risesB (ds.map fst0)
  | _ => false
theorem lc_pairs {n : Nat} {ds : List D} (h : Gd n (.tup ds)) (b : Int) : lcE [2] (seqI (varE 1)) (setT 2) yesT (callE m_is_pair (argV (varE 0) (argV (varE 2) (retE [])))) [.v (.int b), .v (.tup ds), .u] = .ok (.lst (ds.map fun x => .bl (pairB b x))) [.v (.int b), .v (.tup ds), .u] := by
  obtain ⟨h2, h3⟩ := h.kids
  exact lcE_map (ρ := [.v (.int b), .v (.tup ds), .u]) (ds := ds) (fun x => .bl (pairB b x)) (by simp) (by simp) (by omega) (fun x hx => ⟨[.v (.int b), .v (.tup ds), .v x], [.v (.int b), .v (.tup ds), .v x], [.v (.int b), .v (.tup ds), .v x], by simp, by simp, by simp [is_pair_is (h3 x hx)], by simp⟩)
theorem row_is {n : Nat} {d : D} (h : Gd n d) (b : Int) : m_is_row_of_pairs [.v (.int b), .v d] = .ok (.bl (prsB b d)) [.v (.int b), .v d] := by
  unfold m_is_row_of_pairs b_is_row_of_pairs
  have h1 := isi_tup h
  cases d <;> (try (simp [h1, isTup, prsB]; done))
  case tup ds =>
    have e := lc_pairs h b
    by_cases q1 : 1 ≤ ds.length
    · have q1' : (1 : Int) ≤ (ds.length : Int) := by omega
      by_cases q2 : ds.length ≤ 6
      · have q2' : (ds.length : Int) ≤ 6 := by omega
        simp [h1, isTup, prsB, q1, q2, q1', q2', e, all_map]
      · have q2' : ¬ (ds.length : Int) ≤ 6 := by omega
        simp [h1, isTup, prsB, q1, q2, q1', q2']
    · have q1' : ¬ (1 : Int) ≤ (ds.length : Int) := by omega
      simp [h1, isTup, prsB, q1, q1']
theorem lc_firsts (l : List (Int × Int)) (b : Int) (hl : l.length ≤ 1000) : lcE [2] (seqI (varE 1)) (setT 2) yesT (bin2 ixD (varE 2) (retE (.int 0))) [.v (.int b), .v (prsD l), .u] = .ok (.lst ((l.map (·.1)).map .int)) [.v (.int b), .v (prsD l), .u] := by
  have := lcE_map (vs := [2]) (fi := seqI (varE 1)) (g := setT 2) (ft := yesT) (fe := bin2 ixD (varE 2) (retE (.int 0))) (ρ := [.v (.int b), .v (prsD l), .u]) (ds := l.map prD) (fun d => .int (fst0 d)) (by simp [prsD]) (by simp) (by simp; omega) (fun x hx => by
    obtain ⟨p, _, rfl⟩ := List.mem_map.mp hx
    exact ⟨[.v (.int b), .v (prsD l), .v (prD p)], [.v (.int b), .v (prsD l), .v (prD p)], [.v (.int b), .v (prsD l), .v (prD p)], by simp, by simp, by simp [prD, atI, ixN, fst0], by simp⟩)
  rw [this, List.map_map, List.map_map]
  rfl
theorem table_is {n : Nat} {d : D} (h : Gd n d) (b : Int) : m_is_table [.v (.int b), .v d] = .ok (.bl (tabB b d)) [.v (.int b), .v d] := by
  unfold m_is_table b_is_table
  have h1 := isi_tup h
  cases d <;> (try (simp [h1, isTup, tabB]; done))
  case tup ds =>
    have e := lc_pairs h b
    by_cases q1 : 1 ≤ ds.length
    · have q1' : (1 : Int) ≤ (ds.length : Int) := by omega
      by_cases q2 : (ds.length : Int) ≤ b
      · by_cases q3 : ds.all (pairB b) = true
        · obtain ⟨l, eds, hl⟩ := pairs_inv q3
          have hlen : l.length ≤ 1000 := by have := h.kids.1; rw [eds, List.length_map] at this; omega
          obtain ⟨fs, efs⟩ : ∃ fs, ds.map fst0 = fs := ⟨_, rfl⟩
          have efs2 : fs = l.map (·.1) := by rw [← efs, eds, fst_pr]
          have e2 : lcE [2] (seqI (varE 1)) (setT 2) yesT (bin2 ixD (varE 2) (retE (.int 0))) [.v (.int b), .v (.tup ds), .u] = .ok (.lst (fs.map .int)) [.v (.int b), .v (.tup ds), .u] := by
            rw [efs2, eds]; exact lc_firsts l b hlen
          have e3 := rises_is fs _ (.inl rfl) (by rw [efs2, List.length_map]; exact hlen)
          simp [h1, isTup, tabB, q1, q2, q1', e, all_map, q3, e2, e3, efs]
        · simp [h1, isTup, tabB, q1, q2, q1', e, all_map, q3]
      · simp [h1, isTup, tabB, q1, q2, q1']
    · have q1' : ¬ (1 : Int) ≤ (ds.length : Int) := by omega
      simp [h1, isTup, tabB, q1, q1']



@[simp] theorem w_one_one : wd (.str "one") ["one"] = true := by kernel_rfl
@[simp] theorem w_one_add : wd (.str "one") ["add"] = false := by kernel_rfl
@[simp] theorem w_one_all : wd (.str "one") ["all"] = false := by kernel_rfl
@[simp] theorem w_one_each : wd (.str "one") ["each"] = false := by kernel_rfl
@[simp] theorem w_add_one : wd (.str "add") ["one"] = false := by kernel_rfl
@[simp] theorem w_add_add : wd (.str "add") ["add"] = true := by kernel_rfl
@[simp] theorem w_add_all : wd (.str "add") ["all"] = false := by kernel_rfl
@[simp] theorem w_add_each : wd (.str "add") ["each"] = false := by kernel_rfl
@[simp] theorem w_all_one : wd (.str "all") ["one"] = false := by kernel_rfl
@[simp] theorem w_all_add : wd (.str "all") ["add"] = false := by kernel_rfl
@[simp] theorem w_all_all : wd (.str "all") ["all"] = true := by kernel_rfl
@[simp] theorem w_all_each : wd (.str "all") ["each"] = false := by kernel_rfl
@[simp] theorem w_each_one : wd (.str "each") ["one"] = false := by kernel_rfl
@[simp] theorem w_each_add : wd (.str "each") ["add"] = false := by kernel_rfl
@[simp] theorem w_each_all : wd (.str "each") ["all"] = false := by kernel_rfl
@[simp] theorem w_each_each : wd (.str "each") ["each"] = true := by kernel_rfl
theorem wd_one {d : D} {t : Str} (h : wd d [t] = true) : d = .str t := by
  cases d <;> simp [wd] at h
  rw [h]
theorem wd_cons (d : D) (t u : Str) : wd d [t, u] = (wd d [t] || wd d [u]) := by cases d <;> simp [wd]
theorem kcases (k : D) : k = .str "one" ∨ k = .str "add" ∨ k = .str "all" ∨ k = .str "each" ∨ (wd k ["one"] = false ∧ wd k ["add"] = false ∧ wd k ["all"] = false ∧ wd k ["each"] = false) := by
  cases h1 : wd k ["one"] with
  | true => exact .inl (wd_one h1)
  | false =>
    cases h2 : wd k ["add"] with
    | true => exact .inr (.inl (wd_one h2))
    | false =>
      cases h3 : wd k ["all"] with
      | true => exact .inr (.inr (.inl (wd_one h3)))
      | false =>
        cases h4 : wd k ["each"] with
        | true => exact .inr (.inr (.inr (.inl (wd_one h4))))
        | false => exact .inr (.inr (.inr (.inr ⟨rfl, rfl, rfl, rfl⟩)))
def nz (d : D) : Bool := match d with
  | .int i => !(i == 0)
  | _ => false
def stB (b : Int) (d : D) : Bool := match d with
  | .tup [k, p, t] => wd p ["refs", "rows"] && ((wd k ["all"] && tabB b t) || (wd k ["each"] && prsB b t))
  | .tup [k, p, x, y] => wd p ["refs", "rows"] && ((wd k ["one"] && pairB b (.tup [x, y])) || (wd k ["add"] && inI x (-4) 4 && nz x && wd y ["down", "up"]))
  | _ => false
theorem is_statement_is {n : Nat} {d : D} (h : Gd n d) (b : Int) : m_is_statement [.v (.int b), .v d] = .ok (.bl (stB b d)) [.v (.int b), .v d] := by
  unfold m_is_statement b_is_statement
  have h1 := isi_tup h
  cases d <;> (try (simp [h1, isTup, stB]; done))
  case tup ds =>
    obtain ⟨h2, h3⟩ := h.kids
    match ds, h, h1, h2, h3 with
    | [], _, h1, _, _ => simp [h1, isTup, stB]
    | [_], _, h1, _, _ => simp [h1, isTup, stB]
    | [_, _], _, h1, _, _ => simp [h1, isTup, stB]
    | [k, p, t], _, h1, _, h3 =>
      have hk := h3 k (by simp)
      have hp := h3 p (by simp)
      have ht := h3 t (by simp)
      have ep := one_of_is hp ["refs", "rows"]
      have e1 := one_of_is hk ["one"]
      have e2 := one_of_is hk ["add"]
      have e3 := one_of_is hk ["all"]
      have e4 := one_of_is hk ["each"]
      have et := table_is ht b
      have er := row_is ht b
      simp only [List.map_cons, List.map_nil] at ep e1 e2 e3 e4
      cases wp : wd p ["refs", "rows"] with
      | false => simp [h1, isTup, stB, atI, ixN, ep, wp, c_PLACES]
      | true =>
        rcases kcases k with rfl | rfl | rfl | rfl | ⟨k1, k2, k3, k4⟩ <;> simp [h1, isTup, stB, atI, ixN, ep, wp, c_PLACES, e1, e2, e3, e4, et, er, *]
    | [k, p, x, y], h, h1, h2, h3 =>
      have hk := h3 k (by simp)
      have hp := h3 p (by simp)
      have hx := h3 x (by simp)
      have hy := h3 y (by simp)
      have hxy : Gd n (.tup [x, y]) := by
        cases n with
        | zero => simp [Gd] at h
        | succ n =>
          simp only [Gd] at h ⊢
          refine ⟨by simp, fun z hz => h.2 z ?_⟩
          exact List.mem_cons_of_mem _ (List.mem_cons_of_mem _ hz)
      have ep := one_of_is hp ["refs", "rows"]
      have e1 := one_of_is hk ["one"]
      have e2 := one_of_is hk ["add"]
      have e3 := one_of_is hk ["all"]
      have e4 := one_of_is hk ["each"]
      have ey := one_of_is hy ["down", "up"]
      have ex := within_is hx (-4) 4
      have exy := is_pair_is hxy b
      simp only [List.map_cons, List.map_nil] at ep e1 e2 e3 e4 ey
      cases wp : wd p ["refs", "rows"] with
      | false => simp [h1, isTup, stB, atI, ixN, ep, wp, c_PLACES]
      | true =>
        rcases kcases k with rfl | rfl | rfl | rfl | ⟨k1, k2, k3, k4⟩
        · simp [h1, isTup, stB, atI, ixN, ep, wp, c_PLACES, e1, cut_two, exy]
        · cases wx : inI x (-4) 4 with
          | false => simp [h1, isTup, stB, atI, ixN, ep, wp, c_PLACES, e1, e2, ex, wx]
          | true =>
            obtain ⟨i, rfl⟩ : ∃ i, x = .int i := by cases x <;> first | exact ⟨_, rfl⟩ | (simp [inI] at wx)
            have wx2 : -4 ≤ i ∧ i ≤ 4 := by simpa [inI] using wx
            by_cases hi : i = 0
            · subst hi
              simp [h1, isTup, stB, atI, ixN, ep, wp, c_PLACES, e1, e2, ex, wx2, nz, ey, c_WAYS, inI]
            · simp [h1, isTup, stB, atI, ixN, ep, wp, c_PLACES, e1, e2, ex, wx2, hi, nz, ey, c_WAYS, inI]
        · simp [h1, isTup, stB, atI, ixN, ep, wp, c_PLACES, e1, e2, e3]
        · simp [h1, isTup, stB, atI, ixN, ep, wp, c_PLACES, e1, e2, e3, e4]
        · simp [h1, isTup, stB, atI, ixN, ep, wp, c_PLACES, e1, e2, e3, e4, k1, k2, k3, k4]
    | k :: p :: x :: y :: z :: r, _, h1, _, h3 =>
      have hk := h3 k (by simp)
      have hp := h3 p (by simp)
      have ep := one_of_is hp ["refs", "rows"]
      have e1 := one_of_is hk ["one"]
      have e2 := one_of_is hk ["add"]
      have e3 := one_of_is hk ["all"]
      have e4 := one_of_is hk ["each"]
      simp only [List.map_cons, List.map_nil] at ep e1 e2 e3 e4
      obtain ⟨ds, eds⟩ : ∃ ds, ds = k :: p :: x :: y :: z :: r := ⟨_, rfl⟩
      have l1 : 5 ≤ ds.length := by rw [eds]; simp
      have a0 : atI ds 0 = some k := by rw [eds, show (0 : Int) = ((0 : Nat) : Int) from rfl, at_nat]; rfl
      have a1 : atI ds 1 = some p := by rw [eds, show (1 : Int) = ((1 : Nat) : Int) from rfl, at_nat]; rfl
      have sf : stB b (.tup ds) = false := by rw [eds]; rfl
      rw [← eds] at h1 ⊢
      have l2 : ¬ (ds.length : Int) < 3 := by omega
      have l3 : ¬ (ds.length : Int) = 3 := by omega
      have l4 : ¬ (ds.length : Int) = 4 := by omega
      cases wp : wd p ["refs", "rows"] with
      | false => simp [h1, isTup, sf, a0, a1, ep, wp, c_PLACES, l2]
      | true =>
        clear eds
        rcases kcases k with rfl | rfl | rfl | rfl | ⟨k1, k2, k3, k4⟩
        · simp [h1, isTup, sf, a0, a1, ep, wp, c_PLACES, l2, l3, l4, e1, e2, e3, e4]
        · simp [h1, isTup, sf, a0, a1, ep, wp, c_PLACES, l2, l3, l4, e1, e2, e3, e4]
        · simp [h1, isTup, sf, a0, a1, ep, wp, c_PLACES, l2, l3, l4, e1, e2, e3, e4]
        · simp [h1, isTup, sf, a0, a1, ep, wp, c_PLACES, l2, l3, l4, e1, e2, e3, e4]
        · simp [h1, isTup, sf, a0, a1, ep, wp, c_PLACES, l2, l3, l4, e1, e2, e3, e4, k1, k2, k3, k4]



theorem Gd.tnil {n : Nat} {ds : List D} (h : Gd n (.tup ds)) (hn : n ≤ 60) : eqD (.tup ds) (.tup []) = some (.bl ds.isEmpty) := by
  obtain ⟨p, h1, h2⟩ := h.shaped hn
  have e : PyData.eqv p (.tuple []) = ds.isEmpty := by
    cases ds with
    | nil => cases h1; rfl
    | cons x xs =>
      rw [DL.toP] at h1
      obtain ⟨ps, h3, rfl⟩ := map_inv h1
      rw [toPs] at h3
      cases e1 : DL.toP x with
      | none => rw [e1] at h3; cases h3
      | some p =>
        cases e2 : toPs xs with
        | none => rw [e1, e2] at h3; cases h3
        | some qs => rw [e1, e2] at h3; cases h3; rfl
  unfold eqD eqvD; rw [h1, show DL.toP (.tup []) = some (.tuple []) from rfl]; simp only [h2, show PySem.SeqAt.shaped (.tuple []) = true from rfl, e]; rfl
theorem eqv_ints : ∀ l m : List Int, PyData.eqvAll (l.map PyData.int) (m.map PyData.int) = decide (l = m)
  | [], [] => rfl
  | [], _ :: _ => rfl
  | _ :: _, [] => rfl
  | i :: l, j :: m => by
    rw [List.map_cons, List.map_cons, PyData.eqvAll, eqv_ints l m, PyData.eqv]
    by_cases h1 : i = j <;> by_cases h2 : l = m <;> simp [h1, h2]
theorem eq_ints (l m : List Int) : eqD (.lst (l.map .int)) (.lst (m.map .int)) = some (.bl (decide (l = m))) := by
  unfold eqD eqvD
  rw [show toP (.lst (l.map D.int)) = some (.list (l.map PyData.int)) by rw [toP, toPs_ints]; rfl, show toP (.lst (m.map D.int)) = some (.list (m.map PyData.int)) by rw [toP, toPs_ints]; rfl]
  simp only [shaped_ints]
  rw [PyData.eqv, eqv_ints]
  rfl
theorem ints_of : ∀ l : List Int, intsD (l.map D.int) = some l
  | [] => rfl
  | i :: l => by rw [List.map_cons, intsD, ints_of l]; rfl
@[simp] theorem ev_sortSet {fe : EM D} {ρ : Ro} : sortSetE fe ρ = (fe ρ).bind fun d ρ1 => liftO (match seqInts d with | some ns => if ns.length < 64 then some (.lst ((sortU ns).map .int)) else none | none => none) ρ1 := rfl
@[simp] theorem si_lst (l : List Int) : seqInts (.lst (l.map .int)) = some l := ints_of l
@[simp] theorem si_tup (l : List Int) : seqInts (.tup (l.map .int)) = some l := ints_of l
theorem rises_sort (l : List Int) : decide (l = sortU l) = risesB l := by
  by_cases h : risesB l = true
  · rw [h, decide_eq_true_eq]
    exact pw_uniq ((risesB_iff l).mp h) sortU_pw fun k => mem_sortU.symm
  · have : ¬ l = sortU l := fun e => h ((risesB_iff l).mpr (e ▸ sortU_pw))
    rw [decide_eq_false this]
    cases q : risesB l
    · rfl
    · exact absurd q h
theorem not_pairs {P : D → Bool} : ∀ ds : List D, (ds.filter fun x => !P x).isEmpty = ds.all P
  | [] => rfl
  | d :: ds => by
    have ih := not_pairs (P := P) ds
    cases h : P d
    · rw [List.filter_cons_of_pos (by simp [h])]; simp [h]
    · rw [List.filter_cons_of_neg (by simp [h]), ih]; simp [h]
theorem Gd.part {n : Nat} {ds : List D} (h : Gd n (.tup ds)) (P : D → Bool) : Gd n (.lst (ds.filter P)) := by
  cases n with
  | zero => simp [Gd] at h
  | succ n =>
    simp only [Gd] at h ⊢
    exact ⟨Nat.le_trans (List.length_filter_le _ _) h.1, fun x hx => h.2 x (List.mem_filter.mp hx).1⟩
theorem amount_is (x : D) : (inI x (-4) (-1) || inI x 1 4) = (inI x (-4) 4 && nz x) := by
  cases x <;> simp [inI, nz]
  rename_i i
  rw [Bool.eq_iff_iff]
  simp
  omega


theorem size_ok (b : Int) (h1 : 2 ≤ b) (h2 : b ≤ 5) : m_look_at_size [.v (.int b)] = .ok .non [.v (.int b)] := by
  unfold m_look_at_size b_look_at_size
  have e := within_is (n := 0) (d := .int b) trivial 2 5
  have : inI (.int b) 2 5 = true := by simp [inI]; omega
  simp [e, this]
def scB (b : Int) (d : D) : Bool := match d with
  | .tup ds => decide (ds.length ≤ 8) && ds.all (stB b)
  | _ => false
theorem fits_is {n : Nat} {d : D} (h : Gd n d) (b : Int) : m_fits [.v (.int b), .v d] = .ok (.bl (scB b d)) [.v (.int b), .v d] := by
  unfold m_fits b_fits
  have h1 := isi_tup h
  cases d <;> (try (simp [h1, isTup, scB]; done))
  case tup ds =>
    obtain ⟨h2, h3⟩ := h.kids
    have e := lcE_map (vs := [2]) (fi := seqI (varE 1)) (g := setT 2) (ft := yesT) (fe := callE m_is_statement (argV (varE 0) (argV (varE 2) (retE [])))) (ρ := [.v (.int b), .v (.tup ds), .u]) (ds := ds) (fun x => .bl (stB b x)) (by simp) (by simp) (by omega)
      (fun x hx => ⟨[.v (.int b), .v (.tup ds), .v x], [.v (.int b), .v (.tup ds), .v x], [.v (.int b), .v (.tup ds), .v x], by simp, by simp, by simp [is_statement_is (h3 x hx)], by simp⟩)
    by_cases q : ds.length ≤ 8
    · have q2 : (ds.length : Int) ≤ 8 := by omega
      simp [h1, isTup, scB, q, q2, e, all_map, c_MOST]
    · have q2 : ¬ (ds.length : Int) ≤ 8 := by omega
      simp [h1, isTup, scB, q, q2, c_MOST]
theorem is_script_is {n : Nat} {d : D} (h : Gd n d) (b : Int) (h1 : 2 ≤ b) (h2 : b ≤ 5) : m_is_script [.v (.int b), .v d] = .ok (.bl (scB b d)) [.v (.int b), .v d] := by
  unfold m_is_script b_is_script
  simp [size_ok b h1 h2, fits_is h]
/-! ### contents -/
def int0 (d : D) : Int := match d with
  | .int i => i
  | _ => 0
def coB (b : Int) (d : D) : Bool := match d with
  | .tup ds => ds.all (fun x => inI x 0 (b - 1)) && risesB (ds.map int0)
  | _ => false
theorem ints_inv {lo hi : Int} : ∀ {ds : List D}, (ds.all fun x => inI x lo hi) = true → ∃ l : List Int, ds = l.map .int ∧ ∀ i ∈ l, lo ≤ i ∧ i ≤ hi
  | [], _ => ⟨[], rfl, by simp⟩
  | d :: ds, h => by
    rw [List.all_cons, Bool.and_eq_true] at h
    obtain ⟨l, rfl, hl⟩ := ints_inv h.2
    obtain ⟨i, rfl⟩ : ∃ i, d = .int i := by cases d <;> first | exact ⟨_, rfl⟩ | (have := h.1; simp [inI] at this)
    exact ⟨i :: l, rfl, fun j hj => by
      rcases List.mem_cons.mp hj with rfl | hj
      · have := h.1; simpa [inI] using this
      · exact hl j hj⟩
theorem int0_map (l : List Int) : (l.map D.int).map int0 = l := by
  rw [List.map_map]
  exact List.map_id' l


/-- data of a depth and of lengths -/
def GL (L : Nat) : Nat → D → Prop
  | _, .non => True
  | _, .bl _ => True
  | _, .int _ => True
  | _, .str s => PyData.canLay0 (.str s) = true
  | n + 1, .tup ds => ds.length ≤ L ∧ ∀ x ∈ ds, GL L n x
  | n + 1, .lst ds => ds.length ≤ L ∧ ∀ x ∈ ds, GL L n x
  | _, _ => False
theorem GL.up : ∀ {L n : Nat} {d : D}, GL L n d → GL L (n + 1) d
  | L, n, d, h => by
    induction n generalizing d with
    | zero => cases d <;> simp [GL] at h ⊢ <;> assumption
    | succ n ih =>
      cases d <;> simp only [GL] at h ⊢ <;> first | exact h | exact ⟨h.1, fun x hx => ih x (h.2 x hx)⟩
theorem GL.wide : ∀ {L M n : Nat} {d : D}, L ≤ M → GL L n d → GL M n d
  | L, M, n, d, hl, h => by
    induction n generalizing d with
    | zero => cases d <;> simp [GL] at h ⊢ <;> assumption
    | succ n ih =>
      cases d <;> simp only [GL] at h ⊢ <;> first | exact h | exact ⟨Nat.le_trans h.1 hl, fun x hx => ih x (h.2 x hx)⟩
theorem GL.gd : ∀ {n : Nat} {d : D}, GL 40 n d → Gd n d
  | n, d, h => by
    induction n generalizing d with
    | zero => cases d <;> simp [GL, Gd] at h ⊢ <;> assumption
    | succ n ih =>
      cases d <;> simp only [GL, Gd] at h ⊢ <;> first | exact h | exact ⟨h.1, fun x hx => ih x (h.2 x hx)⟩
theorem GL.kids {L n : Nat} {ds : List D} (h : GL L n (.tup ds)) : ds.length ≤ L ∧ ∃ m, n = m + 1 ∧ ∀ x ∈ ds, GL L m x := by
  cases n with
  | zero => simp [GL] at h
  | succ n => simp only [GL] at h; exact ⟨h.1, n, rfl, h.2⟩
@[simp] theorem lay0 : PyData.canLay0 (.str "") = true := by kernel_rfl
@[simp] theorem lay1 : PyData.canLay0 (.str "one") = true := by kernel_rfl
@[simp] theorem lay2 : PyData.canLay0 (.str "all") = true := by kernel_rfl
@[simp] theorem lay3 : PyData.canLay0 (.str "each") = true := by kernel_rfl
@[simp] theorem lay4 : PyData.canLay0 (.str "add") = true := by kernel_rfl
@[simp] theorem lay5 : PyData.canLay0 (.str "rows") = true := by kernel_rfl
@[simp] theorem lay6 : PyData.canLay0 (.str "refs") = true := by kernel_rfl
@[simp] theorem lay7 : PyData.canLay0 (.str "up") = true := by kernel_rfl
@[simp] theorem lay8 : PyData.canLay0 (.str "down") = true := by kernel_rfl
@[simp] theorem lay9 : PyData.canLay0 (.str "Up") = true := by kernel_rfl
@[simp] theorem ev_parS {i j : Nat} {fr : EM (List D)} {ρ : Ro} : parS i j fr ρ = (fr ρ).bind fun ds ρ1 => match ds with | [d, e] => (match (setT i d ρ1).bind (setT j e) with | some ρ2 => .ok .nx ρ2 | none => .bad) | _ => .bad := rfl
theorem cut1 (ds : List D) (k : Nat) (h : k ≤ ds.length) : cutD ds none (some (k : Int)) = ds.take k := by
  unfold cutD
  rw [HT.sIx_nat, HT.sIx_none, List.drop_zero, Nat.sub_zero, Nat.min_eq_left h]
theorem cut2 (ds : List D) (k : Nat) (h : k ≤ ds.length) : cutD ds (some (k : Int)) none = ds.drop k := by
  unfold cutD
  rw [HT.sIx_nat, HT.sIx_none, Nat.min_eq_left h, List.take_of_length_le (by rw [List.length_drop]; omega)]
theorem cut3 (ds : List D) (k : Nat) (h : k < ds.length) : cutD ds (some (k : Int)) (some ((k : Int) + 1)) = (ds.drop k).take 1 := by
  unfold cutD
  rw [show (k : Int) + 1 = ((k + 1 : Nat) : Int) by omega, HT.sIx_nat, HT.sIx_nat, Nat.min_eq_left (by omega), Nat.min_eq_left (by omega), show k + 1 - k = 1 by omega]
theorem cut2' (ds : List D) (k : Nat) (h : k + 1 ≤ ds.length) : cutD ds (some ((k : Int) + 1)) none = ds.drop (k + 1) := by
  rw [show (k : Int) + 1 = ((k + 1 : Nat) : Int) by omega, cut2 ds (k + 1) h]
theorem GL.up2 {L n m : Nat} {d : D} (h : GL L n d) (hm : n ≤ m) : GL L m d := by
  induction hm with
  | refl => exact h
  | step _ ih => exact ih.up
theorem nt_of {L n : Nat} {x : D} (h : GL L n x) : isiF [x, .ty "tuple"] = some (.bl (isTup x)) := by cases x <;> first | rfl | (cases n <;> simp [GL] at h)


theorem lst_len {xs : List D} : lenF [.lst xs] = some (.int xs.length) := rfl
/-! ### what was drawn is good data -/
theorem gl_prs {b : Int} {L : Nat} {t : List (Int × Int)} (h : t.length ≤ L) (hL : 2 ≤ L) : GL L 2 (prsD t) := by
  refine ⟨by rw [List.length_map]; exact h, fun x hx => ?_⟩
  obtain ⟨p, _, rfl⟩ := List.mem_map.mp hx
  exact ⟨hL, by simp [GL]⟩
theorem tab_len {b : Int} {t : List (Int × Int)} (h : okTab b t) (hb : 0 ≤ b) : (t.length : Int) ≤ b := by
  have := rise_len (t.map (·.1)) 0 b (by have := h.2.1; unfold incr at this; exact this) fun i hi => by
    obtain ⟨p, hp, rfl⟩ := List.mem_map.mp hi
    exact ⟨(h.2.2 p hp).1, (h.2.2 p hp).2.1⟩
  rw [List.length_map] at this
  omega
theorem gl_stm {b : Int} {s : Stm} (h : s.ok b) (h0 : 0 ≤ b) (hb : b ≤ 5) : GL 10 3 s.d := by
  have lp : ∀ p : Str, place p → PyData.canLay0 (.str p) = true := fun p hp => by rcases hp with rfl | rfl <;> simp
  cases s with
  | one p x y => exact ⟨by simp, by simp [GL, lp p h.1]⟩
  | all p t =>
    have hl := tab_len h.2 h0
    have := gl_prs (b := b) (L := 10) (t := t) (by omega) (by decide)
    exact ⟨by simp, by simp [lp p h.1, this]; simp [GL, lp p h.1]⟩
  | each p t =>
    have := gl_prs (b := b) (L := 10) (t := t) (by have := h.2.2.1; omega) (by decide)
    exact ⟨by simp, by simp [lp p h.1, this]; simp [GL, lp p h.1]⟩
  | add p n y =>
    have hy : PyData.canLay0 (.str y) = true := by rcases h.2.2.2.2 with rfl | rfl <;> simp
    exact ⟨by simp, by simp [GL, lp p h.1, hy]⟩
theorem gl_sc {b n : Int} {l : List Stm} (h : okSc b n l) (h0 : 0 ≤ b) (hb : b ≤ 5) (hn : n ≤ 10) : GL 10 4 (scD l) := by
  refine ⟨by rw [List.length_map]; have := h.1; omega, fun x hx => ?_⟩
  obtain ⟨s, hs, rfl⟩ := List.mem_map.mp hx
  exact gl_stm (h.2 s hs) h0 hb

end DL

/-! Effects, 1: numbers turned, single changes, in plain terms; the program's small functions. -/
namespace DL
open PySem L2

def notP : Sl → Bool
  | .p _ => false
  | _ => true
@[simp] theorem notP_u : notP .u = true := rfl
@[simp] theorem notP_v {d : D} : notP (.v d) = true := rfl
theorem ev_setTn {i : Nat} {d : D} {ρ : Ro} : setT i d ρ = if ((ρ[i]?).map notP).getD false = true then some (ρ.set i (.v d)) else none := by
  unfold setT
  cases ρ[i]? with
  | none => rfl
  | some x => cases x <;> rfl
def tupI' (l : List Int) : D := .tup (l.map .int)
def addZ (b n x : Int) : Int := if 0 ≤ x + n ∧ x + n < b then x + n else x
def lkp (t : List (Int × Int)) (x : Int) : Int := (t.lookup x).getD x
def eachZ (t : List (Int × Int)) (x : Int) : Int := t.foldl (fun x p => if x = p.1 then p.2 else x) x
def Stm.turn (b : Int) : Stm → Int → Int
  | .one _ a c, x => if x = a then c else x
  | .all _ t, x => lkp t x
  | .each _ t, x => eachZ t x
  | .add _ n _, x => addZ b n x
/-- (index, new number) -/
def chD (p : Nat × Int) : D := .tup [.int (p.1 : Nat), .int p.2]
def chO (a c : Int) (rows : List Int) : List (Nat × Int) := (rows.zipIdx.filter fun p => p.1 == a).map fun p => (p.2, c)
def leZN (x y : Int × Nat) : Bool := !decide (y.1 < x.1 ∨ (y.1 = x.1 ∧ y.2 < x.2))
def ordZ (y : Str) (rows : List Int) : List (Int × Nat) := if y = "down" then (isort leZN rows.zipIdx).reverse else isort leZN rows.zipIdx
def chA (b n : Int) (y : Str) (rows : List Int) : List (Nat × Int) := (ordZ y rows).map fun p => (p.2, addZ b n p.1)

theorem added_is (b x n : Int) : m_added [.v (.int b), .v (.int x), .v (.int n)] = .ok (.int (addZ b n x)) [.v (.int b), .v (.int x), .v (.int n)] := by
  unfold m_added b_added addZ
  by_cases h1 : 0 ≤ x + n
  · by_cases h2 : x + n < b
    · simp [h1, h2]
    · simp [h1, h2]
  · simp [h1]
@[simp] theorem ev_lenSet {fe : EM D} {ρ : Ro} : lenSetE fe ρ = (fe ρ).bind fun d ρ1 => liftO (match seqInts d with | some ns => if ns.length < 4000 then some (.int (sortU ns).length) else none | none => none) ρ1 := rfl
theorem sortU_nodup (l : List Int) : (sortU l).Nodup := List.Pairwise.imp (fun h => by omega) (sortU_pw (l := l))
theorem clashes_is (rows : List Int) (hl : rows.length ≤ 1000) : m_clashes [.v (tupI' rows)] = .ok (.bl (!decide rows.Nodup)) [.v (tupI' rows)] := by
  unfold m_clashes b_clashes tupI'
  have h := len_lt (sortU_nodup rows) fun k => mem_sortU
  have h4 : rows.length < 4000 := by omega
  simp [h4]
  rw [← h]
  simp
theorem enum_ints (l : List Int) : enumD (l.map .int) = l.zipIdx.map fun p => .prt [.int (p.2 : Nat), .int p.1] := by
  unfold enumD
  rw [List.zipIdx_map, List.map_map]
  rfl
theorem changes_one (b a c : Int) (p : Str) (rows : List Int) (hl : rows.length ≤ 1000) : m_changes_of [.v (.int b), .v (Stm.one p a c).d, .v (tupI' rows)] = .ok (.lst ((chO a c rows).map chD)) [.v (.int b), .v (Stm.one p a c).d, .v (tupI' rows)] := by
  unfold m_changes_of b_changes_of
  have q1 : eqD (.str "one") (.str "one") = some (.bl true) := by kernel_rfl
  have e := lcE_filter (vs := [3, 4]) (fi := enumA (consE (varE 2) (retE []))) (g := tupT 2 (consT (setT 3) (consT (setT 4) nilT))) (ft := testE (bin2 eqD (varE 4) (bin2 ixD (varE 1) (retE (.int 2))))) (fe := tupE (consE (varE 3) (consE (bin2 ixD (varE 1) (retE (.int 3))) (retE []))))
    (ρ := [.v (.int b), .v (Stm.one p a c).d, .v (tupI' rows), .u, .u, .u]) (ds := rows.zipIdx.map fun p => .prt [.int (p.2 : Nat), .int p.1])
    (fun d => match d with | .prt [_, .int x] => x == a | _ => false) (fun d => match d with | .prt [i, _] => .tup [i, .int c] | _ => .non)
    (by simp [tupI', enum_ints]) (by simp) (by simp; omega) (fun d hd => by
      obtain ⟨q, _, rfl⟩ := List.mem_map.mp hd
      exact ⟨[.v (.int b), .v (Stm.one p a c).d, .v (tupI' rows), .v (.int (q.2 : Nat)), .v (.int q.1), .u], [.v (.int b), .v (Stm.one p a c).d, .v (tupI' rows), .v (.int (q.2 : Nat)), .v (.int q.1), .u], by simp, by simp [Stm.d, atI, ixN], by simp, fun _ => ⟨[.v (.int b), .v (Stm.one p a c).d, .v (tupI' rows), .v (.int (q.2 : Nat)), .v (.int q.1), .u], by simp [Stm.d, atI, ixN], by simp⟩⟩)
  have e2 : ((rows.zipIdx.map fun p => D.prt [.int (p.2 : Nat), .int p.1]).filter (fun d => match d with | .prt [_, .int x] => x == a | _ => false)).map (fun d => match d with | .prt [i, _] => D.tup [i, .int c] | _ => .non) = (chO a c rows).map chD := by
    unfold chO
    rw [List.filter_map, List.map_map, List.map_map]
    rfl
  rw [e2] at e
  simp [Stm.d, atI, ixN, q1]
  simp only [Stm.d] at e
  rw [e]
  simp

/-! ### sorting pairs of ints -/
def leZZ (x y : Int × Int) : Bool := !decide (y.1 < x.1 ∨ (y.1 = x.1 ∧ y.2 < x.2))
theorem isort_congr {α : Type} {le le' : α → α → Bool} : ∀ {l : List α}, (∀ x ∈ l, ∀ y ∈ l, le x y = le' x y) → isort le l = isort le' l
  | [], _ => rfl
  | x :: l, h => by
    have e : isort le l = isort le' l := isort_congr fun a ha b hb => h a (List.mem_cons_of_mem _ ha) b (List.mem_cons_of_mem _ hb)
    show insD le x (isort le l) = insD le' x (isort le' l)
    rw [e]
    have : ∀ m : List α, (∀ y ∈ m, y ∈ l) → insD le x m = insD le' x m := by
      intro m
      induction m with
      | nil => intro _; rfl
      | cons y m ih =>
        intro hm
        show (if le x y then _ else _) = (if le' x y then _ else _)
        rw [h x List.mem_cons_self y (List.mem_cons_of_mem _ (hm y List.mem_cons_self)), ih fun z hz => hm z (List.mem_cons_of_mem _ hz)]
    exact this _ fun y hy => mem_isort hy
theorem toPs_prs : ∀ L : List (Int × Int), toPs (L.map prD) = some (L.map fun p => PyData.tuple [.int p.1, .int p.2])
  | [] => rfl
  | p :: L => by
    rw [List.map_cons, toPs, toPs_prs L]; rfl
theorem leD_prs (x y : Int × Int) : leD' (prD x) (prD y) = leZZ x y := by
  unfold leD' leZZ
  rw [show pOf (prD y) = .tuple [.int y.1, .int y.2] from rfl, show pOf (prD x) = .tuple [.int x.1, .int x.2] from rfl, PySem.W.dataLt_ii]
theorem sort_prs (L : List (Int × Int)) : sortF [.lst (L.map prD)] = some (.lst ((isort leZZ L).map prD)) := by
  have key : isort leD' (L.map prD) = (isort leZZ L).map prD := by
    rw [← isort_map prD leD' L, isort_congr (le' := leZZ) fun x _ y _ => leD_prs x y]
  have ok : sortOk (L.map fun p => PyData.tuple [.int p.1, .int p.2]) = true := by
    unfold sortOk
    simp only [List.all_map, Bool.and_eq_true, Bool.or_eq_true, List.all_eq_true]
    exact ⟨⟨fun x _ => List.all_eq_true.mpr fun y _ => rfl, .inl fun x _ => rfl⟩, fun x _ => rfl⟩
  simp only [sortF]
  by_cases h2 : (L.map prD).length < 2
  · rw [if_pos h2, ← key]
    match L, h2 with
    | [], _ => rfl
    | [_], _ => rfl
    | _ :: _ :: _, h2 => exact absurd h2 (by simp)
  · rw [if_neg h2, toPs_prs]
    simp only [ok, if_true, key]
def zn (p : Int × Nat) : Int × Int := (p.1, (p.2 : Nat))
theorem leZN_is (x y : Int × Nat) : leZZ (zn x) (zn y) = leZN x y := by
  unfold leZZ leZN zn
  simp
theorem sort_zn (T : List (Int × Nat)) : isort leZZ (T.map zn) = (isort leZN T).map zn := by
  rw [← isort_map zn leZZ T, isort_congr (le' := leZN) fun x _ y _ => leZN_is x y]
theorem changes_add (b n : Int) (p y : Str) (rows : List Int) (hl : rows.length ≤ 1000) (hy : y = "up" ∨ y = "down") : m_changes_of [.v (.int b), .v (Stm.add p n y).d, .v (tupI' rows)] = .ok (.lst ((chA b n y rows).map chD)) [.v (.int b), .v (Stm.add p n y).d, .v (tupI' rows)] := by
  unfold m_changes_of b_changes_of
  have q1 : eqD (.str "add") (.str "one") = some (.bl false) := by kernel_rfl
  have q2 : eqD (.str "up") (.str "down") = some (.bl false) := by kernel_rfl
  have q3 : eqD (.str "down") (.str "down") = some (.bl true) := by kernel_rfl
  generalize hs : (Stm.add p n y).d = sd
  have a0 : ixD sd (.int 0) = some (.str "add") := by rw [← hs]; rfl
  have a2 : ixD sd (.int 2) = some (.int n) := by rw [← hs]; rfl
  have a3 : ixD sd (.int 3) = some (.str y) := by rw [← hs]; rfl
  have e1 := lcE_map (vs := [3, 4]) (fi := enumA (consE (varE 2) (retE []))) (g := tupT 2 (consT (setT 3) (consT (setT 4) nilT))) (ft := yesT) (fe := tupE (consE (varE 4) (consE (varE 3) (retE []))))
    (ρ := [.v (.int b), .v sd, .v (tupI' rows), .u, .u, .u]) (ds := rows.zipIdx.map fun p => .prt [.int (p.2 : Nat), .int p.1])
    (fun d => match d with | .prt [i, x] => .tup [x, i] | _ => .non)
    (by simp [tupI', enum_ints]) (by simp) (by simp; omega) (fun d hd => by
      obtain ⟨q, _, rfl⟩ := List.mem_map.mp hd
      exact ⟨[.v (.int b), .v sd, .v (tupI' rows), .v (.int (q.2 : Nat)), .v (.int q.1), .u], [.v (.int b), .v sd, .v (tupI' rows), .v (.int (q.2 : Nat)), .v (.int q.1), .u], [.v (.int b), .v sd, .v (tupI' rows), .v (.int (q.2 : Nat)), .v (.int q.1), .u], by simp, by simp, by simp, by simp⟩)
  have e2 : (rows.zipIdx.map fun p => D.prt [.int (p.2 : Nat), .int p.1]).map (fun d => match d with | .prt [i, x] => D.tup [x, i] | _ => .non) = (rows.zipIdx.map zn).map prD := by
    rw [List.map_map, List.map_map]
    rfl
  rw [e2] at e1
  have e3 := sort_prs (rows.zipIdx.map zn)
  rw [sort_zn] at e3
  have hlen : (ordZ y rows).length ≤ 1000 := by
    have h5 : (isort leZN rows.zipIdx).length = rows.length := by
      have : ∀ l : List (Int × Nat), (isort leZN l).length = l.length := by
        intro l
        induction l with
        | nil => rfl
        | cons a l ih =>
          have ins : ∀ m : List (Int × Nat), (insD leZN a m).length = m.length + 1 := by
            intro m
            induction m with
            | nil => rfl
            | cons c m ih => unfold insD; split <;> simp [ih]
          show (insD leZN a (isort leZN l)).length = _
          rw [ins, ih]; rfl
      rw [this, List.length_zipIdx]
    unfold ordZ
    split <;> simp [h5] <;> omega
  have fin : lcE [4, 3] (seqI (varE 5)) (tupT 2 (consT (setT 4) (consT (setT 3) nilT))) yesT (tupE (consE (varE 3) (consE (callE m_added (argV (varE 0) (argV (varE 4) (argV (bin2 ixD (varE 1) (retE (.int 2))) (retE []))))) (retE []))))
      [.v (.int b), .v sd, .v (tupI' rows), .u, .u, .v (.lst ((ordZ y rows).map (prD ∘ zn)))] = .ok (.lst ((chA b n y rows).map chD)) [.v (.int b), .v sd, .v (tupI' rows), .u, .u, .v (.lst ((ordZ y rows).map (prD ∘ zn)))] := by
    have := lcE_map (vs := [4, 3]) (fi := seqI (varE 5)) (g := tupT 2 (consT (setT 4) (consT (setT 3) nilT))) (ft := yesT) (fe := tupE (consE (varE 3) (consE (callE m_added (argV (varE 0) (argV (varE 4) (argV (bin2 ixD (varE 1) (retE (.int 2))) (retE []))))) (retE []))))
      (ρ := [.v (.int b), .v sd, .v (tupI' rows), .u, .u, .v (.lst ((ordZ y rows).map (prD ∘ zn)))]) (ds := (ordZ y rows).map (prD ∘ zn))
      (fun d => match d with | .tup [.int x, i] => .tup [i, .int (addZ b n x)] | _ => .non)
      (by simp) (by simp) (by simp; omega) (fun d hd => by
        obtain ⟨q, _, rfl⟩ := List.mem_map.mp hd
        exact ⟨[.v (.int b), .v sd, .v (tupI' rows), .v (.int (q.2 : Nat)), .v (.int q.1), .v (.lst ((ordZ y rows).map (prD ∘ zn)))], [.v (.int b), .v sd, .v (tupI' rows), .v (.int (q.2 : Nat)), .v (.int q.1), .v (.lst ((ordZ y rows).map (prD ∘ zn)))], [.v (.int b), .v sd, .v (tupI' rows), .v (.int (q.2 : Nat)), .v (.int q.1), .v (.lst ((ordZ y rows).map (prD ∘ zn)))], by simp [prD, zn], by simp, by simp [a2, added_is, prD, zn], by simp⟩)
    rw [this, List.map_map]
    unfold chA
    rw [List.map_map]
    rfl
  simp [a0, q1]
  rw [e1]
  simp only [ev_okb]
  rw [e3]
  simp
  rcases hy with rfl | rfl
  · have : ordZ "up" rows = isort leZN rows.zipIdx := by unfold ordZ; rw [if_neg (by decide)]
    rw [this] at fin
    simp [a3, q2]
    rw [fin]
    simp
  · have : ordZ "down" rows = (isort leZN rows.zipIdx).reverse := by unfold ordZ; rw [if_pos rfl]
    rw [this, List.map_reverse] at fin
    simp [a3, q3]
    rw [fin]
    simp
end DL

/-! Effects, 2: the program's statements. -/
namespace DL
open PySem L2

theorem set_cut (rows : List Int) (i : Nat) (n : Int) (h : i < rows.length) : cutD (rows.map .int) none (some (i : Int)) ++ D.int n :: cutD (rows.map .int) (some ((i : Int) + 1)) none = (rows.set i n).map .int := by
  rw [cut1 _ _ (by simp; omega), cut2' _ _ (by simp; omega), List.set_eq_take_append_cons_drop, if_pos h, List.map_append, List.map_cons, List.map_take, List.map_drop]
@[simp] theorem ev_forS {fi : EM (List D)} {g : D → Ro → Option Ro} {f : SM} {ρ : Ro} : forS fi g f ρ = (fi ρ).bind fun ds ρ1 => loopS g f ds ρ1 := rfl
theorem loop_cons {g : D → Ro → Option Ro} {f : SM} {d : D} {ds : List D} {ρ ρ1 : Ro} (h : g d ρ = some ρ1) : loopS g f (d :: ds) ρ = match f ρ1 with
      | .ok .nx ρ2 => loopS g f ds ρ2
      | .ok .cnt ρ2 => loopS g f ds ρ2
      | .ok .brk ρ2 => .ok .nx ρ2
      | r => r := by
  conv => lhs; unfold loopS
  first
    | (rw [h]; done)
    | (rw [h]; rfl)
theorem single_loop (b : Int) (st : D) : ∀ (cs : List (Nat × Int)) (rows : List Int) (x3 x4 x5 : Sl), notP x3 = true → notP x4 = true → notP x5 = true → rows.length ≤ 1000 → (∀ q ∈ cs, q.1 < rows.length) →
    ∃ y3 y4 y5, loopS (tupT 2 (consT (setT 3) (consT (setT 4) nilT))) (seqS (asgS (bin2 addD (bin2 addD (slE (varE 2) (retE none) (partE (varE 3))) (tupE (consE (varE 4) (retE [])))) (slE (varE 2) (partE (bin2 addD (varE 3) (retE (.int 1)))) (retE none))) (setT 5)) (seqS (ifS (testE (callE m_clashes (argV (varE 5) (retE [])))) (retS (tupE (consE (varE 2) (consE (retE (.bl true)) (retE []))))) nextS) (asgS (varE 5) (setT 2)))) (cs.map chD)
      [.v (.int b), .v st, .v (tupI' rows), x3, x4, x5] = .ok (if (sing cs rows).2 = true then .ret (.tup [tupI' (sing cs rows).1, .bl true]) else .nx) [.v (.int b), .v st, .v (tupI' (sing cs rows).1), y3, y4, y5]
  | [], rows, x3, x4, x5, _, _, _, _, _ => ⟨x3, x4, x5, rfl⟩
  | (i, n) :: cs, rows, x3, x4, x5, h3, h4, h5, hl, hc => by
    have hi : i < rows.length := hc (i, n) List.mem_cons_self
    have e1 : tupT 2 (consT (setT 3) (consT (setT 4) nilT)) (chD (i, n)) [.v (.int b), .v st, .v (tupI' rows), x3, x4, x5] = some [.v (.int b), .v st, .v (tupI' rows), .v (.int i), .v (.int n), x5] := by
      simp [-ev_setT, ev_setTn, chD, h3, h4]
    have hs := set_cut rows i n hi
    have hll : (rows.set i n).length = rows.length := List.length_set
    have hsing : sing ((i, n) :: cs) rows = if (rows.set i n).Nodup then sing cs (rows.set i n) else (rows, true) := rfl
    rw [hsing]
    generalize rows.set i n = r' at hs hll
    have cl := clashes_is r' (by omega)
    unfold tupI' at cl
    rw [List.map_cons, loop_cons e1]
    have l1 : (cutD (rows.map D.int) none (some (i : Int))).length ≤ 1000 := by rw [cut1 _ _ (by simp; omega), List.length_take]; simp; omega
    have l2 : (cutD (rows.map D.int) (some ((i : Int) + 1)) none).length ≤ 1000 := by rw [cut2' _ _ (by simp; omega), List.length_drop]; simp; omega
    have l3 : (cutD (rows.map D.int) none (some (i : Int))).length ≤ 999999 := by omega
    have l4 : (cutD (rows.map D.int) none (some (i : Int))).length + ((cutD (rows.map D.int) (some ((i : Int) + 1)) none).length + 1) ≤ 1000000 := by omega
    have l5 : (cutD (rows.map D.int) none (some (i : Int))).length + 1 + (cutD (rows.map D.int) (some ((i : Int) + 1)) none).length ≤ 1000000 := by omega
    by_cases hn : r'.Nodup
    · obtain ⟨y3, y4, y5, e⟩ := single_loop b st cs r' (.v (.int i)) (.v (.int n)) (.v (tupI' r')) rfl rfl rfl (by omega) fun q hq => by rw [hll]; exact hc q (List.mem_cons_of_mem _ hq)
      refine ⟨y3, y4, y5, ?_⟩
      rw [if_pos hn, ← e]
      simp [-ev_setT, ev_setTn, h5, tupI', l3, l4, l5, hn, cl, hs]
    · refine ⟨.v (.int i), .v (.int n), .v (tupI' r'), ?_⟩
      rw [if_neg hn]
      simp [-ev_setT, ev_setTn, h5, tupI', l3, l4, l5, hn, cl, hs]
theorem singles_is (b : Int) (st : D) (cs : List (Nat × Int)) (rows : List Int) (hl : rows.length ≤ 1000) (hc : ∀ q ∈ cs, q.1 < rows.length) (e : m_changes_of [.v (.int b), .v st, .v (tupI' rows)] = .ok (.lst (cs.map chD)) [.v (.int b), .v st, .v (tupI' rows)]) :
    m_single_changes [.v (.int b), .v st, .v (tupI' rows)] = .ok (.tup [tupI' (sing cs rows).1, .bl (sing cs rows).2]) [.v (.int b), .v st, .v (tupI' rows)] := by
  obtain ⟨y3, y4, y5, h⟩ := single_loop b st cs rows .u .u .u rfl rfl rfl hl hc
  unfold m_single_changes b_single_changes
  simp [e]
  rw [h]
  cases q : (sing cs rows).2 <;> simp
end DL

/-! Effects, 3: statements on rows and pointers, scripts: the program. -/
namespace DL
open PySem L2

@[simp] theorem ev_getE {fd fk fx : EM D} {ρ : Ro} : getE' fd fk fx ρ = (fd ρ).bind fun d ρ1 => if isDct d = true then (fk ρ1).bind fun k ρ2 => (fx ρ2).bind fun z ρ3 => liftO (getF d k z) ρ3 else .bad := by
  unfold getE' bindM
  congr
  funext d ρ1
  cases isDct d <;> rfl
@[simp] theorem ev_disp1 {fk fv : EM D} {ρ : Ro} : disp1E fk fv ρ = (fk ρ).bind fun kd ρ1 => (fv ρ1).bind fun d ρ2 => liftO ((keyD kd).map fun _ => .dct [(kd, d)]) ρ2 := rfl
@[simp] theorem key_int {i : Int} : keyD (.int i) = some (.inl i) := rfl
@[simp] theorem is_dct {kvs : List (D × D)} : isDct (.dct kvs) = true := rfl
theorem get_int (kvs : List (D × D)) (x : Int) : getF (.dct kvs) (.int x) (.int x) = some ((valD kvs (.inl x)).getD (.int x)) := rfl
theorem turned_by_is (kvs : List (D × D)) (f : Int → Int) (hf : ∀ x, (valD kvs (.inl x)).getD (.int x) = .int (f x)) (xs : List Int) (hl : xs.length ≤ 1000) : m_turned_by [.v (.dct kvs), .v (tupI' xs)] = .ok (tupI' (xs.map f)) [.v (.dct kvs), .v (tupI' xs)] := by
  unfold m_turned_by b_turned_by
  have e := lcE_map (vs := [2]) (fi := seqI (varE 1)) (g := setT 2) (ft := yesT) (fe := getE' (varE 0) (varE 2) (varE 2)) (ρ := [.v (.dct kvs), .v (tupI' xs), .u]) (ds := xs.map .int)
    (fun d => match d with | .int x => .int (f x) | _ => .non)
    (by simp [tupI']) (by simp) (by simp; omega) (fun d hd => by
      obtain ⟨x, _, rfl⟩ := List.mem_map.mp hd
      exact ⟨[.v (.dct kvs), .v (tupI' xs), .v (.int x)], [.v (.dct kvs), .v (tupI' xs), .v (.int x)], [.v (.dct kvs), .v (tupI' xs), .v (.int x)], by simp, by simp, by simp [get_int, hf], by simp⟩)
  rw [List.map_map] at e
  have e2 : (xs.map ((fun d => match d with | .int x => D.int (f x) | _ => .non) ∘ D.int)) = (xs.map f).map .int := by rw [List.map_map]; rfl
  rw [e2] at e
  simp
  rw [e]
  simp [tupI']
theorem one_val (a c x : Int) : (valD [(.int a, .int c)] (.inl x)).getD (.int x) = .int (if x = a then c else x) := by
  unfold valD
  by_cases h : x = a
  · simp [h]
  · have : ¬ a = x := fun e => h e.symm
    simp [h, this]
def kvD (p : Int × Int) : D × D := (.int p.1, .int p.2)
theorem tab_val (t : List (Int × Int)) (x : Int) : valD (t.map kvD) (.inl x) = (t.lookup x).map .int := by
  induction t with
  | nil => rfl
  | cons p t ih =>
    unfold valD at ih ⊢
    rw [List.map_cons, List.find?_cons, List.lookup_cons]
    by_cases h : x = p.1
    · subst h; simp [kvD]
    · have h1 : ¬ p.1 = x := fun e => h e.symm
      have h2 : (x == p.1) = false := beq_eq_false_iff_ne.mpr h
      rw [h2]
      simp only [kvD, key_int, Option.some.injEq, Sum.inl.injEq, h1, decide_false]
      exact ih
theorem lkp_val (t : List (Int × Int)) (x : Int) : (valD (t.map kvD) (.inl x)).getD (.int x) = .int (lkp t x) := by
  rw [tab_val]
  unfold lkp
  cases t.lookup x <;> rfl
theorem merge_tab : ∀ (t acc : List (Int × Int)), ((acc ++ t).map (·.1)).Nodup → mergeD (acc.map kvD) (t.map prD) = some ((acc ++ t).map kvD)
  | [], acc, _ => by simp [mergeD]
  | p :: t, acc, h => by
    have hp : putD (acc.map kvD) (.int p.1) (.inl p.1) (.int p.2) = (acc ++ [p]).map kvD := by
      unfold putD
      have : ((acc.map kvD).any fun q => decide (keyD q.1 = some (.inl p.1))) = false := by
        rw [List.any_map, List.any_eq_false]
        intro q hq
        simp only [Function.comp, kvD, key_int, Option.some.injEq, Sum.inl.injEq, decide_eq_true_eq]
        intro e
        rw [List.map_append, List.nodup_append] at h
        exact h.2.2 q.1 (List.mem_map.mpr ⟨q, hq, rfl⟩) p.1 (by simp) e
      rw [if_neg (by rw [this]; simp), List.map_append]
      rfl
    rw [List.map_cons]
    unfold mergeD
    simp only [prD, key_int]
    rw [hp]
    have := merge_tab t (acc ++ [p]) (by rw [List.append_assoc]; exact h)
    rw [this, List.append_assoc]
    rfl
theorem dict_tab (t : List (Int × Int)) (h : (t.map (·.1)).Nodup) : dictF2 [prsD t] = some (.dct (t.map kvD)) := by
  have := merge_tab t [] (by simpa using h)
  simp only [List.map_nil, List.nil_append] at this
  show Option.map D.dct (mergeD [] (t.map prD)) = _
  rw [this]
  rfl
theorem tab_nodup {b : Int} {t : List (Int × Int)} (h : okTab b t) : (t.map (·.1)).Nodup := List.Pairwise.imp (fun h => by omega) (show (t.map (·.1)).Pairwise (· < ·) from h.2.1)

/-! ### statements on rows -/
def eachR : List (Int × Int) → List Int → List Int × Bool
  | [], rows => (rows, false)
  | (a, c) :: t, rows => if (sing (chO a c rows) rows).2 = true then sing (chO a c rows) rows else eachR t (sing (chO a c rows) rows).1
def rowsSt (b : Int) : Stm → List Int → List Int × Bool
  | .one _ a c, rows => sing (chO a c rows) rows
  | .all _ t, rows => if (rows.map (lkp t)).Nodup then (rows.map (lkp t), false) else (rows, true)
  | .each _ t, rows => eachR t rows
  | .add _ n y, rows => sing (chA b n y rows) rows
theorem eachR_keep : ∀ (t : List (Int × Int)) (rows : List Int), rows.Nodup → (eachR t rows).1.Nodup ∧ (eachR t rows).1.length = rows.length
  | [], rows, h => ⟨h, rfl⟩
  | (a, c) :: t, rows, h => by
    obtain ⟨h1, h2⟩ := sing_keep (chO a c rows) rows h
    unfold eachR
    split
    · exact ⟨h1, h2⟩
    · obtain ⟨h3, h4⟩ := eachR_keep t _ h1
      exact ⟨h3, by omega⟩
theorem rowsSt_keep (b : Int) (s : Stm) (rows : List Int) (h : rows.Nodup) : (rowsSt b s rows).1.Nodup ∧ (rowsSt b s rows).1.length = rows.length := by
  cases s with
  | one p a c => exact sing_keep _ _ h
  | all p t =>
    show (if (rows.map (lkp t)).Nodup then (rows.map (lkp t), false) else (rows, true)).1.Nodup ∧ (if (rows.map (lkp t)).Nodup then (rows.map (lkp t), false) else (rows, true)).1.length = _
    by_cases q : (rows.map (lkp t)).Nodup
    · rw [if_pos q]; exact ⟨q, by simp⟩
    · rw [if_neg q]; exact ⟨h, rfl⟩
  | each p t => exact eachR_keep t rows h
  | add p n y => exact sing_keep _ _ h
theorem chO_lt {a c : Int} {rows : List Int} {q : Nat × Int} (h : q ∈ chO a c rows) : q.1 < rows.length := by
  unfold chO at h
  obtain ⟨p, hp, rfl⟩ := List.mem_map.mp h
  exact (List.mem_zipIdx' (List.mem_filter.mp hp).1).1
theorem ordZ_mem {y : Str} {rows : List Int} {p : Int × Nat} (h : p ∈ ordZ y rows) : p ∈ rows.zipIdx := by
  unfold ordZ at h
  split at h
  · exact mem_isort (List.mem_reverse.mp h)
  · exact mem_isort h
theorem chA_lt {b n : Int} {y : Str} {rows : List Int} {q : Nat × Int} (h : q ∈ chA b n y rows) : q.1 < rows.length := by
  unfold chA at h
  obtain ⟨p, hp, rfl⟩ := List.mem_map.mp h
  exact (List.mem_zipIdx' (ordZ_mem hp)).1
theorem one_rows (b a c : Int) (p : Str) (rows : List Int) (hl : rows.length ≤ 1000) : m_single_changes [.v (.int b), .v (Stm.one p a c).d, .v (tupI' rows)] = .ok (.tup [tupI' (sing (chO a c rows) rows).1, .bl (sing (chO a c rows) rows).2]) [.v (.int b), .v (Stm.one p a c).d, .v (tupI' rows)] :=
  singles_is b _ _ rows hl (fun q hq => chO_lt hq) (changes_one b a c p rows hl)
theorem add_rows (b n : Int) (p y : Str) (rows : List Int) (hl : rows.length ≤ 1000) (hy : y = "up" ∨ y = "down") : m_single_changes [.v (.int b), .v (Stm.add p n y).d, .v (tupI' rows)] = .ok (.tup [tupI' (sing (chA b n y rows) rows).1, .bl (sing (chA b n y rows) rows).2]) [.v (.int b), .v (Stm.add p n y).d, .v (tupI' rows)] :=
  singles_is b _ _ rows hl (fun q hq => chA_lt hq) (changes_add b n p y rows hl hy)
theorem each_skip (b : Int) (st : D) (rows : D) (x3 : Sl) : ∀ (t : List (Int × Int)) (x5 x6 : Sl), notP x5 = true → notP x6 = true →
    ∃ y5 y6, loopS (tupT 2 (consT (setT 5) (consT (setT 6) nilT))) (ifS (notT (testE (varE 4))) (asgS (callE m_single_changes (argV (varE 0) (argV (tupE (consE (retE (.str "one")) (consE (retE (.str "rows")) (consE (varE 5) (consE (varE 6) (retE [])))))) (argV (varE 2) (retE []))))) (tupT 2 (consT (setT 2) (consT (setT 4) nilT)))) nextS) (t.map prD)
      [.v (.int b), .v st, .v rows, x3, .v (.bl true), x5, x6] = .ok .nx [.v (.int b), .v st, .v rows, x3, .v (.bl true), y5, y6]
  | [], x5, x6, _, _ => ⟨x5, x6, rfl⟩
  | p :: t, x5, x6, h5, h6 => by
    obtain ⟨y5, y6, e⟩ := each_skip b st rows x3 t (.v (.int p.1)) (.v (.int p.2)) rfl rfl
    refine ⟨y5, y6, ?_⟩
    rw [List.map_cons, loop_cons (ρ1 := [.v (.int b), .v st, .v rows, x3, .v (.bl true), .v (.int p.1), .v (.int p.2)]) (by simp [-ev_setT, ev_setTn, prD, h5, h6]), ← e]
    simp
theorem each_loop (b : Int) (st : D) (x3 : Sl) : ∀ (t : List (Int × Int)) (rows : List Int) (x5 x6 : Sl), notP x5 = true → notP x6 = true → rows.length ≤ 1000 → rows.Nodup →
    ∃ y5 y6, loopS (tupT 2 (consT (setT 5) (consT (setT 6) nilT))) (ifS (notT (testE (varE 4))) (asgS (callE m_single_changes (argV (varE 0) (argV (tupE (consE (retE (.str "one")) (consE (retE (.str "rows")) (consE (varE 5) (consE (varE 6) (retE [])))))) (argV (varE 2) (retE []))))) (tupT 2 (consT (setT 2) (consT (setT 4) nilT)))) nextS) (t.map prD)
      [.v (.int b), .v st, .v (tupI' rows), x3, .v (.bl false), x5, x6] = .ok .nx [.v (.int b), .v st, .v (tupI' (eachR t rows).1), x3, .v (.bl (eachR t rows).2), y5, y6]
  | [], rows, x5, x6, _, _, _, _ => ⟨x5, x6, rfl⟩
  | (a, c) :: t, rows, x5, x6, h5, h6, hl, hn => by
    have e1 := one_rows b a c "rows" rows hl
    obtain ⟨k1, k2⟩ := sing_keep (chO a c rows) rows hn
    simp only [Stm.d] at e1
    unfold eachR
    generalize sing (chO a c rows) rows = r at *
    obtain ⟨r1, r2⟩ := r
    simp only at k1 k2 e1
    have s1 : tupT 2 (consT (setT 5) (consT (setT 6) nilT)) (prD (a, c)) [.v (.int b), .v st, .v (tupI' rows), x3, .v (.bl false), x5, x6] = some [.v (.int b), .v st, .v (tupI' rows), x3, .v (.bl false), .v (.int a), .v (.int c)] := by simp [-ev_setT, ev_setTn, prD, h5, h6]
    rw [List.map_cons, loop_cons s1]
    cases r2 with
    | true =>
      obtain ⟨y5, y6, e⟩ := each_skip b st (tupI' r1) x3 t (.v (.int a)) (.v (.int c)) rfl rfl
      refine ⟨y5, y6, ?_⟩
      simp [e1]
      exact e
    | false =>
      obtain ⟨y5, y6, e⟩ := each_loop b st x3 t r1 (.v (.int a)) (.v (.int c)) rfl rfl (by omega) k1
      refine ⟨y5, y6, ?_⟩
      simp [e1]
      exact e
theorem turned_rows_is (b : Int) (s : Stm) (hs : s.ok b) (rows : List Int) (hl : rows.length ≤ 1000) (hn : rows.Nodup) : m_turned_rows [.v (.int b), .v s.d, .v (tupI' rows)] = .ok (.tup [tupI' (rowsSt b s rows).1, .bl (rowsSt b s rows).2]) [.v (.int b), .v s.d, .v (tupI' rows)] := by
  unfold m_turned_rows b_turned_rows
  cases s with
  | one p a c =>
    have e := one_rows b a c p rows hl
    have q1 : eqD (.str "one") (.str "all") = some (.bl false) := by kernel_rfl
    have q2 : neD (.str "one") (.str "each") = some (.bl true) := by kernel_rfl
    have a0 : ixD (Stm.one p a c).d (.int 0) = some (.str "one") := rfl
    simp [a0, q1, q2, e, rowsSt]
  | add p n y =>
    have e := add_rows b n p y rows hl hs.2.2.2.2
    have q1 : eqD (.str "add") (.str "all") = some (.bl false) := by kernel_rfl
    have q2 : neD (.str "add") (.str "each") = some (.bl true) := by kernel_rfl
    have a0 : ixD (Stm.add p n y).d (.int 0) = some (.str "add") := rfl
    simp [a0, q1, q2, e, rowsSt]
  | all p t =>
    have q1 : eqD (.str "all") (.str "all") = some (.bl true) := by kernel_rfl
    have a0 : ixD (Stm.all p t).d (.int 0) = some (.str "all") := rfl
    have a2 : ixD (Stm.all p t).d (.int 2) = some (prsD t) := rfl
    have e1 := dict_tab t (tab_nodup hs.2)
    have e2 := turned_by_is (t.map kvD) (lkp t) (lkp_val t) rows hl
    have e3 := clashes_is (rows.map (lkp t)) (by simp; exact hl)
    simp [a0, a2, q1, e1, e2, e3, rowsSt]
    by_cases h : (rows.map (lkp t)).Nodup <;> simp [h]
  | each p t =>
    have q1 : eqD (.str "each") (.str "all") = some (.bl false) := by kernel_rfl
    have q2 : neD (.str "each") (.str "each") = some (.bl false) := by kernel_rfl
    have a0 : ixD (Stm.each p t).d (.int 0) = some (.str "each") := rfl
    have a2 : ixD (Stm.each p t).d (.int 2) = some (.tup (t.map prD)) := rfl
    obtain ⟨y5, y6, e⟩ := each_loop b (Stm.each p t).d .u t rows .u .u rfl rfl hl hn
    simp [a0, a2, q1, q2]
    rw [e]
    simp [rowsSt]
end DL

/-! Effects, 4: pointers, scripts: the program. -/
namespace DL
open PySem L2

theorem refs_each (b : Int) (st : D) (x3 : Sl) : ∀ (t : List (Int × Int)) (refs : List Int) (x4 x5 : Sl), notP x4 = true → notP x5 = true → refs.length ≤ 1000 →
    ∃ y4 y5, loopS (tupT 2 (consT (setT 4) (consT (setT 5) nilT))) (asgS (callE m_turned_by (argV (disp1E (varE 4) (varE 5)) (argV (varE 2) (retE [])))) (setT 2)) (t.map prD)
      [.v (.int b), .v st, .v (tupI' refs), x3, x4, x5] = .ok .nx [.v (.int b), .v st, .v (tupI' (refs.map (eachZ t))), x3, y4, y5]
  | [], refs, x4, x5, _, _, _ => ⟨x4, x5, by
      have : refs.map (eachZ []) = refs := by
        have : eachZ [] = id := rfl
        rw [this, List.map_id]
      rw [this]; rfl⟩
  | (a, c) :: t, refs, x4, x5, h4, h5, hl => by
    have e1 := turned_by_is [(.int a, .int c)] (fun x => if x = a then c else x) (one_val a c) refs hl
    obtain ⟨y4, y5, e⟩ := refs_each b st x3 t (refs.map fun x => if x = a then c else x) (.v (.int a)) (.v (.int c)) rfl rfl (by simp; exact hl)
    have e2 : (refs.map fun x => if x = a then c else x).map (eachZ t) = refs.map (eachZ ((a, c) :: t)) := by rw [List.map_map]; rfl
    rw [e2] at e
    refine ⟨y4, y5, ?_⟩
    rw [List.map_cons, loop_cons (ρ1 := [.v (.int b), .v st, .v (tupI' refs), x3, .v (.int a), .v (.int c)]) (by simp [-ev_setT, ev_setTn, prD, h4, h5]), ← e]
    simp [e1]
theorem turned_refs_is (b : Int) (s : Stm) (hs : s.ok b) (refs : List Int) (hl : refs.length ≤ 1000) : m_turned_refs [.v (.int b), .v s.d, .v (tupI' refs)] = .ok (tupI' (refs.map (s.turn b))) [.v (.int b), .v s.d, .v (tupI' refs)] := by
  unfold m_turned_refs b_turned_refs
  cases s with
  | one p a c =>
    have q1 : eqD (.str "one") (.str "one") = some (.bl true) := by kernel_rfl
    have a0 : ixD (Stm.one p a c).d (.int 0) = some (.str "one") := rfl
    have a2 : ixD (Stm.one p a c).d (.int 2) = some (.int a) := rfl
    have a3 : ixD (Stm.one p a c).d (.int 3) = some (.int c) := rfl
    have e1 := turned_by_is [(.int a, .int c)] (fun x => if x = a then c else x) (one_val a c) refs hl
    have e2 : refs.map ((Stm.one p a c).turn b) = refs.map fun x => if x = a then c else x := rfl
    rw [e2]
    simp [a0, a2, a3, q1, e1]
  | all p t =>
    have q1 : eqD (.str "all") (.str "one") = some (.bl false) := by kernel_rfl
    have q2 : eqD (.str "all") (.str "all") = some (.bl true) := by kernel_rfl
    have a0 : ixD (Stm.all p t).d (.int 0) = some (.str "all") := rfl
    have a2 : ixD (Stm.all p t).d (.int 2) = some (prsD t) := rfl
    have e1 := dict_tab t (tab_nodup hs.2)
    have e2 := turned_by_is (t.map kvD) (lkp t) (lkp_val t) refs hl
    have e3 : refs.map ((Stm.all p t).turn b) = refs.map (lkp t) := rfl
    rw [e3]
    simp [a0, a2, q1, q2, e1, e2]
  | add p n y =>
    have q1 : eqD (.str "add") (.str "one") = some (.bl false) := by kernel_rfl
    have q2 : eqD (.str "add") (.str "all") = some (.bl false) := by kernel_rfl
    have q3 : eqD (.str "add") (.str "add") = some (.bl true) := by kernel_rfl
    generalize hd : (Stm.add p n y).d = sd
    have a0 : ixD sd (.int 0) = some (.str "add") := by rw [← hd]; rfl
    have a2 : ixD sd (.int 2) = some (.int n) := by rw [← hd]; rfl
    have e := lcE_map (vs := [3]) (fi := seqI (varE 2)) (g := setT 3) (ft := yesT) (fe := callE m_added (argV (varE 0) (argV (varE 3) (argV (bin2 ixD (varE 1) (retE (.int 2))) (retE []))))) (ρ := [.v (.int b), .v sd, .v (tupI' refs), .u, .u, .u]) (ds := refs.map .int)
      (fun d => match d with | .int x => .int (addZ b n x) | _ => .non)
      (by simp [tupI']) (by simp) (by simp; omega) (fun d hd => by
        obtain ⟨x, _, rfl⟩ := List.mem_map.mp hd
        exact ⟨[.v (.int b), .v sd, .v (tupI' refs), .v (.int x), .u, .u], [.v (.int b), .v sd, .v (tupI' refs), .v (.int x), .u, .u], [.v (.int b), .v sd, .v (tupI' refs), .v (.int x), .u, .u], by simp, by simp, by simp [a2, added_is], by simp⟩)
    have e2 : ((refs.map D.int).map fun d => match d with | .int x => D.int (addZ b n x) | _ => .non) = (refs.map ((Stm.add p n y).turn b)).map .int := by rw [List.map_map, List.map_map]; rfl
    rw [e2] at e
    simp [a0, q1, q2, q3]
    rw [e]
    simp [tupI']
  | each p t =>
    have q1 : eqD (.str "each") (.str "one") = some (.bl false) := by kernel_rfl
    have q2 : eqD (.str "each") (.str "all") = some (.bl false) := by kernel_rfl
    have q3 : eqD (.str "each") (.str "add") = some (.bl false) := by kernel_rfl
    have a0 : ixD (Stm.each p t).d (.int 0) = some (.str "each") := rfl
    have a2 : ixD (Stm.each p t).d (.int 2) = some (.tup (t.map prD)) := rfl
    obtain ⟨y4, y5, e⟩ := refs_each b (Stm.each p t).d .u t refs .u .u rfl rfl hl
    have e3 : refs.map ((Stm.each p t).turn b) = refs.map (eachZ t) := rfl
    rw [e3]
    simp [a0, a2, q1, q2, q3]
    rw [e]
    simp

/-! ### scripts -/
abbrev Eff := List Int × List Int × Int
def doneP (b : Int) : List (Stm × Nat) → List Int → List Int → Eff
  | [], rows, refs => (rows, refs, -1)
  | (s, i) :: l, rows, refs => if s.p = "refs" then doneP b l rows (refs.map (s.turn b)) else if (rowsSt b s rows).2 = true then ((rowsSt b s rows).1, refs, (i : Int)) else doneP b l (rowsSt b s rows).1 refs
def effD (e : Eff) : D := .tup [tupI' e.1, tupI' e.2.1, .int e.2.2]
def stI (p : Stm × Nat) : D := .prt [.int (p.2 : Nat), p.1.d]
theorem enum_stm (l : List Stm) : enumD (l.map Stm.d) = l.zipIdx.map stI := by
  unfold enumD
  rw [List.zipIdx_map, List.map_map]
  rfl
theorem place_eq {b : Int} {s : Stm} (h : s.ok b) : eqD (.str s.p) (.str "refs") = some (.bl (decide (s.p = "refs"))) := by
  have : place s.p := by cases s <;> exact h.1
  rcases this with e | e
  · rw [e]; kernel_rfl
  · rw [e]; kernel_rfl
theorem stm_p (s : Stm) : ixD s.d (.int 1) = some (.str s.p) := by cases s <;> rfl
theorem doneP_keep (b : Int) : ∀ (l : List (Stm × Nat)) (rows refs : List Int), rows.Nodup → (doneP b l rows refs).1.Nodup ∧ (doneP b l rows refs).1.length = rows.length ∧ (doneP b l rows refs).2.1.length = refs.length ∧ -1 ≤ (doneP b l rows refs).2.2
  | [], rows, refs, h => ⟨h, rfl, rfl, by show (-1 : Int) ≤ -1; omega⟩
  | (s, i) :: l, rows, refs, h => by
    obtain ⟨h1, h2⟩ := rowsSt_keep b s rows h
    unfold doneP
    split
    · obtain ⟨k1, k2, k3, k4⟩ := doneP_keep b l rows (refs.map (s.turn b)) h
      exact ⟨k1, k2, by rw [k3]; simp, k4⟩
    · split
      · exact ⟨h1, h2, rfl, by show (-1 : Int) ≤ (i : Int); omega⟩
      · obtain ⟨k1, k2, k3, k4⟩ := doneP_keep b l _ refs h1
        exact ⟨k1, by omega, k3, k4⟩
theorem done_loop (b : Int) (sc : D) : ∀ (l : List (Stm × Nat)) (rows refs : List Int) (x4 x5 x6 : Sl), notP x4 = true → notP x5 = true → notP x6 = true → (∀ p ∈ l, p.1.ok b) → rows.length ≤ 1000 → refs.length ≤ 1000 → rows.Nodup →
    ∃ y4 y5 y6, loopS (tupT 2 (consT (setT 4) (consT (setT 5) nilT))) (ifS (testE (bin2 eqD (bin2 ixD (varE 5) (retE (.int 1))) (retE (.str "refs")))) (asgS (callE m_turned_refs (argV (varE 0) (argV (varE 5) (argV (varE 3) (retE []))))) (setT 3)) (seqS (asgS (callE m_turned_rows (argV (varE 0) (argV (varE 5) (argV (varE 2) (retE []))))) (tupT 2 (consT (setT 2) (consT (setT 6) nilT)))) (ifS (testE (varE 6)) (retS (tupE (consE (varE 2) (consE (varE 3) (consE (varE 4) (retE [])))))) nextS))) (l.map stI)
      [.v (.int b), .v sc, .v (tupI' rows), .v (tupI' refs), x4, x5, x6] = .ok (if (doneP b l rows refs).2.2 = -1 then .nx else .ret (effD (doneP b l rows refs))) [.v (.int b), .v sc, .v (tupI' (doneP b l rows refs).1), .v (tupI' (doneP b l rows refs).2.1), y4, y5, y6]
  | [], rows, refs, x4, x5, x6, _, _, _, _, _, _, _ => ⟨x4, x5, x6, rfl⟩
  | (s, i) :: l, rows, refs, x4, x5, x6, h4, h5, h6, hok, hl, hl2, hn => by
    have hs := hok (s, i) List.mem_cons_self
    have hok' : ∀ p ∈ l, p.1.ok b := fun p hp => hok p (List.mem_cons_of_mem _ hp)
    have s1 : tupT 2 (consT (setT 4) (consT (setT 5) nilT)) (stI (s, i)) [.v (.int b), .v sc, .v (tupI' rows), .v (tupI' refs), x4, x5, x6] = some [.v (.int b), .v sc, .v (tupI' rows), .v (tupI' refs), .v (.int i), .v s.d, x6] := by simp [-ev_setT, ev_setTn, stI, h4, h5]
    have ep := place_eq hs
    have ip := stm_p s
    rw [List.map_cons, loop_cons s1]
    unfold doneP
    by_cases hp : s.p = "refs"
    · have e1 := turned_refs_is b s hs refs hl2
      obtain ⟨y4, y5, y6, e⟩ := done_loop b sc l rows (refs.map (s.turn b)) (.v (.int i)) (.v s.d) x6 rfl rfl h6 hok' hl (by simp; exact hl2) hn
      refine ⟨y4, y5, y6, ?_⟩
      rw [if_pos hp]
      rw [decide_eq_true hp] at ep
      simp [ip, ep, e1]
      exact e
    · have e1 := turned_rows_is b s hs rows hl hn
      obtain ⟨k1, k2⟩ := rowsSt_keep b s rows hn
      rw [if_neg hp]
      rw [decide_eq_false hp] at ep
      generalize rowsSt b s rows = r at *
      obtain ⟨r1, r2⟩ := r
      simp only at k1 k2 e1
      cases r2 with
      | true =>
        refine ⟨.v (.int i), .v s.d, .v (.bl true), ?_⟩
        have : ¬ ((i : Int) = -1) := by omega
        simp [-ev_setT, ev_setTn, h6, ip, ep, e1, this, effD]
      | false =>
        obtain ⟨y4, y5, y6, e⟩ := done_loop b sc l r1 refs (.v (.int i)) (.v s.d) (.v (.bl false)) rfl rfl rfl hok' (by omega) hl2 k1
        refine ⟨y4, y5, y6, ?_⟩
        simp [-ev_setT, ev_setTn, h6, ip, ep, e1]
        exact e
theorem done_is (b : Int) (l : List Stm) (hok : ∀ s ∈ l, s.ok b) (rows refs : List Int) (hl : rows.length ≤ 1000) (hl2 : refs.length ≤ 1000) (hn : rows.Nodup) : m_done [.v (.int b), .v (scD l), .v (tupI' rows), .v (tupI' refs)] = .ok (effD (doneP b l.zipIdx rows refs)) [.v (.int b), .v (scD l), .v (tupI' rows), .v (tupI' refs)] := by
  obtain ⟨y4, y5, y6, e⟩ := done_loop b (scD l) l.zipIdx rows refs .u .u .u rfl rfl rfl (fun p hp => hok p.1 (List.fst_mem_of_mem_zipIdx hp)) hl hl2 hn
  have ev : enumA (consE (varE 1) (retE [])) [.v (.int b), .v (scD l), .v (tupI' rows), .v (tupI' refs), .u, .u, .u] = .ok (l.zipIdx.map stI) [.v (.int b), .v (scD l), .v (tupI' rows), .v (tupI' refs), .u, .u, .u] := by
    have : scD l = .tup (l.map Stm.d) := rfl
    simp [scD, enum_stm]
  unfold m_done b_done
  simp [-ev_enumA]
  rw [ev]
  simp only [ev_okb]
  rw [e]
  by_cases q : (doneP b l.zipIdx rows refs).2.2 = -1
  · simp [q, effD]
  · simp [q]
def rgZ (b : Int) : List Int := (List.range b.toNat).map fun i : Nat => (i : Int)
theorem rg_ints (b : Int) : rngD 0 b.toNat = (rgZ b).map .int := by
  unfold rngD rgZ
  rw [List.map_map]
  exact List.map_congr_left fun i _ => by simp
def effP (b : Int) (l : List Stm) (cs : List Int) : Eff := doneP b l.zipIdx cs (rgZ b)
theorem effect_of_is (b : Int) (hb : 0 ≤ b) (hb2 : b ≤ 5) (l : List Stm) (hok : ∀ s ∈ l, s.ok b) (cs : List Int) (hl : cs.length ≤ 1000) (hn : cs.Nodup) : m_effect_of [.v (.int b), .v (scD l), .v (tupI' cs)] = .ok (effD (effP b l cs)) [.v (.int b), .v (scD l), .v (tupI' cs)] := by
  have e := done_is b l hok cs (rgZ b) hl (by unfold rgZ; simp; omega) hn
  have sm : smallI b = true := by unfold smallI; simp; omega
  unfold m_effect_of b_effect_of
  have r1 : rg1 (.int b) = some ((rgZ b).map .int) := by
    show (if smallI b then some (rngD 0 b.toNat) else none) = _
    rw [sm, if_pos rfl, rg_ints]
  unfold tupI' at e
  simp [r1, tupI', e, effP]
end DL

/-! Effects, 5: the law's own turning of numbers; dicts from row to number. -/
namespace DL
open PySem L2

@[simp] theorem ev_inRg {fa fb : EM D} {ρ : Ro} : inRgE fa fb ρ = (fa ρ).bind fun x ρ1 => (fb ρ1).bind fun y ρ2 => liftO (match x, y with | .int i, .int n => some (.bl (decide (0 ≤ i) && decide (i < n))) | _, _ => none) ρ2 := rfl
@[simp] theorem ev_vals {fe : EM D} {ρ : Ro} : valsE fe ρ = (fe ρ).bind fun d ρ1 => liftO (match d with | .dct kvs => if kvs.length ≤ 1000000 then some (.lst (kvs.map (·.2))) else none | _ => none) ρ1 := rfl
@[simp] theorem ev_ownK {i : Nat} {ρ : Ro} : ownK i ρ = match ρ[i]? with | some (.o (.dct kvs)) => .ok kvs ρ | some (.p (.dct kvs)) => .ok kvs ρ | _ => .bad := rfl
@[simp] theorem ev_setK {i : Nat} {fk fv : EM D} {ρ : Ro} : setK i fk fv ρ = (fv ρ).bind fun d ρ1 => (ownS i ρ1).bind fun _ ρ2 => (fk ρ2).bind fun j ρ3 => (ownK i ρ3).bind fun kvs ρ4 => (liftO (setKF kvs d j) ρ4).bind fun es ρ5 => .ok .nx (putO i (.dct es) ρ5) := by
  unfold setK doS bindM
  cases fv ρ with
  | bad => rfl
  | err x => rfl
  | ok d ρ1 =>
    simp only [ev_okb]
    cases ownS i ρ1 with
    | bad => rfl
    | err x => rfl
    | ok u ρ2 =>
      simp only [ev_okb]
      cases fk ρ2 with
      | bad => rfl
      | err x => rfl
      | ok j ρ3 =>
        simp only [ev_okb]
        cases ownK i ρ3 with
        | bad => rfl
        | err x => rfl
        | ok ds ρ4 =>
          simp only [ev_okb]
          cases (liftO (setKF ds d j) ρ4) <;> rfl
theorem law_sum_is (b x n : Int) : m__law_sum [.v (.int b), .v (.int x), .v (.int n)] = .ok (.int (addZ b n x)) [.v (.int b), .v (.int x), .v (.int n)] := by
  unfold m__law_sum b__law_sum addZ
  by_cases h1 : 0 ≤ x + n
  · by_cases h2 : x + n < b
    · simp [h1, h2]
    · simp [h1, h2]
  · simp [h1]
theorem lkp_first (t : List (Int × Int)) (x : Int) : (((t.filter fun p => p.1 == x).map fun p => D.int p.2) ++ [D.int x])[0]? = some (.int (lkp t x)) := by
  unfold lkp
  induction t with
  | nil => rfl
  | cons p t ih =>
    rw [List.lookup_cons]
    by_cases h : p.1 = x
    · subst h; simp
    · have h1 : (p.1 == x) = false := beq_eq_false_iff_ne.mpr h
      have h2 : (x == p.1) = false := beq_eq_false_iff_ne.mpr fun e => h e.symm
      rw [List.filter_cons_of_neg (by simp [h1]), ih, h2]
theorem law_each (b : Int) (st : D) : ∀ (t : List (Int × Int)) (x : Int) (x3 x4 : Sl), notP x3 = true → notP x4 = true →
    ∃ y3 y4, loopS (tupT 2 (consT (setT 3) (consT (setT 4) nilT))) (ifS (testE (bin2 eqD (varE 2) (varE 3))) (asgS (varE 4) (setT 2)) nextS) (t.map prD) [.v (.int b), .v st, .v (.int x), x3, x4] = .ok .nx [.v (.int b), .v st, .v (.int (eachZ t x)), y3, y4]
  | [], x, x3, x4, _, _ => ⟨x3, x4, rfl⟩
  | (a, c) :: t, x, x3, x4, h3, h4 => by
    obtain ⟨y3, y4, e⟩ := law_each b st t (if x = a then c else x) (.v (.int a)) (.v (.int c)) rfl rfl
    have e2 : eachZ ((a, c) :: t) x = eachZ t (if x = a then c else x) := rfl
    refine ⟨y3, y4, ?_⟩
    rw [e2, List.map_cons, loop_cons (ρ1 := [.v (.int b), .v st, .v (.int x), .v (.int a), .v (.int c)]) (by simp [-ev_setT, ev_setTn, prD, h3, h4]), ← e]
    by_cases h : x = a <;> simp [h]
theorem law_refs_is (b : Int) (s : Stm) (hs : s.ok b) (hb : b ≤ 5) (hb0 : 0 ≤ b) (x : Int) : m__law_refs [.v (.int b), .v s.d, .v (.int x)] = .ok (.int (s.turn b x)) [.v (.int b), .v s.d, .v (.int x)] := by
  unfold m__law_refs b__law_refs
  cases s with
  | add p n y =>
    have q1 : eqD (.str "add") (.str "add") = some (.bl true) := by kernel_rfl
    have a0 : ixD (Stm.add p n y).d (.int 0) = some (.str "add") := rfl
    have a2 : ixD (Stm.add p n y).d (.int 2) = some (.int n) := rfl
    have e : (Stm.add p n y).turn b x = addZ b n x := rfl
    rw [e]
    simp [a0, a2, q1, law_sum_is]
  | all p t =>
    have q1 : eqD (.str "all") (.str "add") = some (.bl false) := by kernel_rfl
    have q2 : eqD (.str "all") (.str "all") = some (.bl true) := by kernel_rfl
    have ht := tab_len hs.2 hb0
    generalize hd : (Stm.all p t).d = sd
    have a0 : ixD sd (.int 0) = some (.str "all") := by rw [← hd]; rfl
    have a2 : ixD sd (.int 2) = some (.tup (t.map prD)) := by rw [← hd]; rfl
    have e := lcE_filter (vs := [3, 4]) (fi := seqI (bin2 ixD (varE 1) (retE (.int 2)))) (g := tupT 2 (consT (setT 3) (consT (setT 4) nilT))) (ft := testE (bin2 eqD (varE 3) (varE 2))) (fe := varE 4) (ρ := [.v (.int b), .v sd, .v (.int x), .u, .u]) (ds := t.map prD)
      (fun d => match d with | .tup [.int k, _] => k == x | _ => false) (fun d => match d with | .tup [_, v] => v | _ => .non)
      (by simp [a2]) (by simp) (by simp; omega) (fun d hd => by
        obtain ⟨q, _, rfl⟩ := List.mem_map.mp hd
        exact ⟨[.v (.int b), .v sd, .v (.int x), .v (.int q.1), .v (.int q.2)], [.v (.int b), .v sd, .v (.int x), .v (.int q.1), .v (.int q.2)], by simp [prD], by simp [prD], by simp, fun _ => ⟨[.v (.int b), .v sd, .v (.int x), .v (.int q.1), .v (.int q.2)], by simp [prD], by simp⟩⟩)
    have e2 : ((t.map prD).filter fun d => match d with | .tup [.int k, _] => k == x | _ => false).map (fun d => match d with | .tup [_, v] => v | _ => .non) = (t.filter fun p => p.1 == x).map fun p => D.int p.2 := by
      rw [List.filter_map, List.map_map]; rfl
    rw [e2] at e
    have e3 := lkp_first t x
    have e4 : (Stm.all p t).turn b x = lkp t x := rfl
    have hl : ((t.filter fun p => p.1 == x).map fun p => D.int p.2).length ≤ 999999 := by
      rw [List.length_map]
      have := List.length_filter_le (fun p : Int × Int => p.1 == x) t
      omega
    rw [e4]
    generalize ((t.filter fun p => p.1 == x).map fun p => D.int p.2) = L at *
    have e5 : atI (L ++ [D.int x]) 0 = some (.int (lkp t x)) := by
      have := at_nat (xs := L ++ [D.int x]) (i := 0)
      rw [Int.ofNat_zero] at this
      rw [show (0 : Int) = ((0 : Nat) : Int) from rfl, at_nat]; exact e3
    simp [a0, q1, q2]
    rw [e]
    simp [hl, e5]
  | each p t =>
    have q1 : eqD (.str "each") (.str "add") = some (.bl false) := by kernel_rfl
    have q2 : eqD (.str "each") (.str "all") = some (.bl false) := by kernel_rfl
    have q3 : eqD (.str "each") (.str "each") = some (.bl true) := by kernel_rfl
    have a0 : ixD (Stm.each p t).d (.int 0) = some (.str "each") := rfl
    have a2 : ixD (Stm.each p t).d (.int 2) = some (.tup (t.map prD)) := rfl
    obtain ⟨y3, y4, e⟩ := law_each b (Stm.each p t).d t x .u .u rfl rfl
    have e4 : (Stm.each p t).turn b x = eachZ t x := rfl
    rw [e4]
    simp [a0, a2, q1, q2, q3]
    rw [e]
    simp
  | one p a c =>
    have q1 : eqD (.str "one") (.str "add") = some (.bl false) := by kernel_rfl
    have q2 : eqD (.str "one") (.str "all") = some (.bl false) := by kernel_rfl
    have q3 : eqD (.str "one") (.str "each") = some (.bl false) := by kernel_rfl
    generalize hd : (Stm.one p a c).d = sd
    have a0 : ixD sd (.int 0) = some (.str "one") := by rw [← hd]; rfl
    have a2 : slD sd (some 2) none = some (prD (a, c)) := by rw [← hd]; show some (D.tup (cutD _ _ _)) = _; rw [cut_two]; rfl
    obtain ⟨y3, y4, e⟩ := law_each b sd [(a, c)] x .u .u rfl rfl
    have e4 : (Stm.one p a c).turn b x = eachZ [(a, c)] x := rfl
    rw [e4]
    rw [List.map_cons, List.map_nil] at e
    simp [a0, a2, q1, q2, q3]
    rw [e]
    simp

/-! ### dicts from row to number -/
def dz (cs rows : List Int) : D := .dct ((cs.zip rows).map kvD)
theorem dz_keys {cs rows : List Int} (h : cs.length = rows.length) : ((cs.zip rows).map kvD).map (·.1) = cs.map .int := by
  rw [List.map_map]
  have : (fun p : D × D => p.1) ∘ kvD = D.int ∘ Prod.fst := rfl
  rw [this, ← List.map_map, List.map_fst_zip (by omega)]
/-- what is walked of a value -/
def seqD (d : D) : Option (List D) := match d with
  | .lst ds => some ds
  | .tup ds => some ds
  | .dct kvs => some (kvs.map (·.1))
  | _ => none
theorem ev_seqD {fe : EM D} {ρ : Ro} : seqI fe ρ = (fe ρ).bind fun d ρ1 => liftO (seqD d) ρ1 := rfl
theorem seq_dz {cs rows : List Int} (h : cs.length = rows.length) : seqD (dz cs rows) = some (cs.map D.int) := by
  show some (((cs.zip rows).map kvD).map (·.1)) = _
  rw [dz_keys h]
theorem dz_vals {cs rows : List Int} (h : cs.length = rows.length) : ((cs.zip rows).map kvD).map (·.2) = rows.map .int := by
  rw [List.map_map]
  have : (fun p : D × D => p.2) ∘ kvD = D.int ∘ Prod.snd := rfl
  rw [this, ← List.map_map, List.map_snd_zip (by omega)]
theorem dz_at {cs rows : List Int} {c : Int} (hc : cs.Nodup) (hl : cs.length = rows.length) (h : c ∈ cs) : ixD (dz cs rows) (.int c) = some (.int (getZ cs rows c)) := by
  obtain ⟨j, hj, rfl⟩ := List.getElem_of_mem h
  have e1 : cs[j]? = some cs[j] := List.getElem?_eq_getElem hj
  have e2 : rows[j]? = some rows[j] := List.getElem?_eq_getElem (by omega)
  show (keyD (.int cs[j])).bind (valD ((cs.zip rows).map kvD)) = _
  rw [key_int, Option.bind_some, tab_val, getZ_at hc e1 e2, lookup_zip hc e1 e2]
  rfl
theorem dz_get {cs rows : List Int} (hc : cs.Nodup) (hl : cs.length = rows.length) : cs.map (getZ cs rows) = rows := by
  apply List.ext_getElem?
  intro j
  rw [List.getElem?_map]
  rcases Nat.lt_or_ge j cs.length with h | h
  · have e1 : cs[j]? = some cs[j] := List.getElem?_eq_getElem h
    have e2 : rows[j]? = some rows[j] := List.getElem?_eq_getElem (by omega)
    rw [e1, e2, Option.map_some, getZ_at hc e1 e2]
  · rw [List.getElem?_eq_none h, List.getElem?_eq_none (by omega)]; rfl
theorem dz_put {cs rows : List Int} {i : Nat} {c n : Int} (hc : cs.Nodup) (hl : cs.length = rows.length) (hi : cs[i]? = some c) (hz : cs.length ≤ 1000) : setKF ((cs.zip rows).map kvD) (.int n) (.int c) = some ((cs.zip (rows.set i n)).map kvD) := by
  have hil : i < cs.length := (List.getElem?_eq_some_iff.mp hi).1
  unfold setKF
  rw [key_int]
  simp only
  rw [if_pos (by simp; omega)]
  congr 1
  unfold putD
  rw [if_pos ?_, ← put_zip hc hi, List.map_map, List.map_map]
  · refine List.map_congr_left fun p _ => ?_
    simp only [Function.comp, kvD, key_int, Option.some.injEq, Sum.inl.injEq]
    by_cases h : p.1 = c <;> simp [h]
  · rw [List.any_map, List.any_eq_true]
    refine ⟨(c, rows[i]'(by omega)), ?_, by simp [kvD]⟩
    have : (cs.zip rows)[i]? = some (c, rows[i]'(by omega)) := by
      rw [List.getElem?_zip_eq_some]
      exact ⟨hi, List.getElem?_eq_getElem (by omega)⟩
    exact List.mem_of_getElem? this
theorem cs_map {cs rows : List Int} (hl : cs.length = rows.length) : rows.zipIdx.map (fun p => cs.getD p.2 0) = cs := by
  apply List.ext_getElem?
  intro j
  rw [List.getElem?_map, List.getElem?_zipIdx]
  rcases Nat.lt_or_ge j cs.length with h | h
  · have e1 : cs[j]? = some cs[j] := List.getElem?_eq_getElem h
    have e2 : rows[j]? = some rows[j] := List.getElem?_eq_getElem (by omega)
    rw [e1, e2]
    simp [e1]
  · rw [List.getElem?_eq_none h, List.getElem?_eq_none (by omega)]; rfl
end DL

/-! Effects, 6: the law's statements on rows. -/
namespace DL
open PySem L2

/-- (content, new number) -/
def chL (cs : List Int) (q : Nat × Int) : D := .tup [.int (cs.getD q.1 0), .int q.2]
theorem getD_at {cs : List Int} {i : Nat} (h : i < cs.length) : cs[i]? = some (cs.getD i 0) := by
  rw [List.getD_eq_getElem?_getD, List.getElem?_eq_getElem h]; rfl
theorem zi_get {rows : List Int} {p : Int × Nat} (h : p ∈ rows.zipIdx) : rows[p.2]? = some p.1 := by
  obtain ⟨h1, h2⟩ := List.mem_zipIdx' h
  rw [List.getElem?_eq_getElem h1, h2]
def oneP (cs rows : List Int) (a : Int) : D → Bool
  | .int k => getZ cs rows k == a
  | _ => false
def addF (cs rows : List Int) : D → D
  | .int k => .tup [.int (getZ cs rows k), .int k]
  | _ => .non
theorem singles_one (b a c : Int) (p : Str) (cs rows : List Int) (hc : cs.Nodup) (hl : cs.length = rows.length) (hz : cs.length ≤ 1000) : m__law_singles [.v (.int b), .v (Stm.one p a c).d, .v (dz cs rows)] = .ok (.lst ((chO a c rows).map (chL cs))) [.v (.int b), .v (Stm.one p a c).d, .v (dz cs rows)] := by
  unfold m__law_singles b__law_singles
  have q1 : eqD (.str "one") (.str "one") = some (.bl true) := by kernel_rfl
  generalize hd : (Stm.one p a c).d = sd
  have a0 : ixD sd (.int 0) = some (.str "one") := by rw [← hd]; rfl
  have a2 : ixD sd (.int 2) = some (.int a) := by rw [← hd]; rfl
  have a3 : ixD sd (.int 3) = some (.int c) := by rw [← hd]; rfl
  have sq := seq_dz hl
  have hat := fun {k : Int} (h : k ∈ cs) => dz_at hc hl h
  generalize hdz : dz cs rows = dd at *
  have e := lcE_filter (vs := [3]) (fi := seqI (varE 2)) (g := setT 3) (ft := testE (bin2 eqD (bin2 ixD (varE 2) (varE 3)) (bin2 ixD (varE 1) (retE (.int 2))))) (fe := tupE (consE (varE 3) (consE (bin2 ixD (varE 1) (retE (.int 3))) (retE []))))
    (ρ := [.v (.int b), .v sd, .v dd, .u, .u, .u]) (ds := cs.map .int)
    (oneP cs rows a) (fun d => .tup [d, .int c])
    (by simp [-ev_seqI, ev_seqD, sq]) (by simp) (by simp; omega) (fun d hd => by
      obtain ⟨k, hk, rfl⟩ := List.mem_map.mp hd
      exact ⟨[.v (.int b), .v sd, .v dd, .v (.int k), .u, .u], [.v (.int b), .v sd, .v dd, .v (.int k), .u, .u], by simp, by simp [hat hk, a2, oneP], by simp, fun _ => ⟨[.v (.int b), .v sd, .v dd, .v (.int k), .u, .u], by simp [a3], by simp⟩⟩)
  have e2 : ((cs.map D.int).filter (oneP cs rows a)).map (fun d => D.tup [d, .int c]) = (chO a c rows).map (chL cs) := by
    refine (congrArg (fun l : List Int => ((l.map D.int).filter (oneP cs rows a)).map (fun d => D.tup [d, .int c])) (cs_map hl).symm).trans ?_
    rw [List.map_map, List.filter_map, List.map_map]
    unfold chO
    rw [List.map_map]
    have : (rows.zipIdx.filter (oneP cs rows a ∘ D.int ∘ fun p => cs.getD p.2 0)) = rows.zipIdx.filter fun p => p.1 == a := by
      refine List.filter_congr fun p hp => ?_
      have h1 := zi_get hp
      have h2 : p.2 < cs.length := by rw [hl]; exact (List.mem_zipIdx' hp).1
      show (getZ cs rows (cs.getD p.2 0) == a) = _
      rw [getZ_at hc (getD_at h2) h1]
    rw [this]
    rfl
  rw [e2] at e
  simp [a0, q1]
  rw [e]
  simp
theorem pw_lt {cs : List Int} (h : cs.Pairwise (· < ·)) {i j : Nat} (hi : i < cs.length) (hj : j < cs.length) : cs.getD i 0 < cs.getD j 0 ↔ i < j := by
  have h' := List.pairwise_iff_getElem.mp h
  rw [List.getD_eq_getElem?_getD, List.getD_eq_getElem?_getD, List.getElem?_eq_getElem hi, List.getElem?_eq_getElem hj]
  simp only [Option.getD_some]
  constructor
  · intro q
    rcases Nat.lt_trichotomy i j with c | c | c
    · exact c
    · subst c; omega
    · have := h' j i hj hi c; omega
  · exact fun q => h' i j hi hj q
def zc (cs : List Int) (p : Int × Nat) : Int × Int := (p.1, cs.getD p.2 0)
theorem sort_zc {cs rows : List Int} (h : cs.Pairwise (· < ·)) (hl : cs.length = rows.length) : isort leZZ (rows.zipIdx.map (zc cs)) = (isort leZN rows.zipIdx).map (zc cs) := by
  rw [← isort_map (zc cs) leZZ, isort_congr (le' := leZN) fun x hx y hy => ?_]
  have hx' : x.2 < cs.length := by rw [hl]; exact (List.mem_zipIdx' hx).1
  have hy' : y.2 < cs.length := by rw [hl]; exact (List.mem_zipIdx' hy).1
  unfold leZZ leZN zc
  simp only [pw_lt h hy' hx']
theorem ordZ_len (y : Str) (rows : List Int) : (ordZ y rows).length = rows.length := by
  have h5 : (isort leZN rows.zipIdx).length = rows.length := by
    have : ∀ l : List (Int × Nat), (isort leZN l).length = l.length := by
      intro l
      induction l with
      | nil => rfl
      | cons a l ih =>
        have ins : ∀ m : List (Int × Nat), (insD leZN a m).length = m.length + 1 := by
          intro m
          induction m with
          | nil => rfl
          | cons c m ih => unfold insD; split <;> simp [ih]
        show (insD leZN a (isort leZN l)).length = _
        rw [ins, ih]; rfl
    rw [this, List.length_zipIdx]
  unfold ordZ
  split <;> simp [h5]
theorem singles_add (b n : Int) (p y : Str) (cs rows : List Int) (hc : cs.Pairwise (· < ·)) (hl : cs.length = rows.length) (hz : cs.length ≤ 1000) (hy : y = "up" ∨ y = "down") : m__law_singles [.v (.int b), .v (Stm.add p n y).d, .v (dz cs rows)] = .ok (.lst ((chA b n y rows).map (chL cs))) [.v (.int b), .v (Stm.add p n y).d, .v (dz cs rows)] := by
  unfold m__law_singles b__law_singles
  have hcn : cs.Nodup := List.Pairwise.imp (fun h => by omega) hc
  have q1 : eqD (.str "add") (.str "one") = some (.bl false) := by kernel_rfl
  have q2 : eqD (.str "up") (.str "down") = some (.bl false) := by kernel_rfl
  have q3 : eqD (.str "down") (.str "down") = some (.bl true) := by kernel_rfl
  generalize hs : (Stm.add p n y).d = sd
  have a0 : ixD sd (.int 0) = some (.str "add") := by rw [← hs]; rfl
  have a2 : ixD sd (.int 2) = some (.int n) := by rw [← hs]; rfl
  have a3 : ixD sd (.int 3) = some (.str y) := by rw [← hs]; rfl
  have sq := seq_dz hl
  have hat := fun {k : Int} (h : k ∈ cs) => dz_at hcn hl h
  generalize hdz : dz cs rows = dd at *
  have e1 := lcE_map (vs := [3]) (fi := seqI (varE 2)) (g := setT 3) (ft := yesT) (fe := tupE (consE (bin2 ixD (varE 2) (varE 3)) (consE (varE 3) (retE []))))
    (ρ := [.v (.int b), .v sd, .v dd, .u, .u, .u]) (ds := cs.map .int)
    (addF cs rows)
    (by simp [-ev_seqI, ev_seqD, sq]) (by simp) (by simp; omega) (fun d hd => by
      obtain ⟨k, hk, rfl⟩ := List.mem_map.mp hd
      exact ⟨[.v (.int b), .v sd, .v dd, .v (.int k), .u, .u], [.v (.int b), .v sd, .v dd, .v (.int k), .u, .u], [.v (.int b), .v sd, .v dd, .v (.int k), .u, .u], by simp, by simp, by simp [hat hk, addF], by simp⟩)
  have e2 : (cs.map D.int).map (addF cs rows) = (rows.zipIdx.map (zc cs)).map prD := by
    refine (congrArg (fun l : List Int => (l.map D.int).map (addF cs rows)) (cs_map hl).symm).trans ?_
    rw [List.map_map, List.map_map, List.map_map]
    refine List.map_congr_left fun p hp => ?_
    have h1 := zi_get hp
    have h2 : p.2 < cs.length := by rw [hl]; exact (List.mem_zipIdx' hp).1
    show D.tup [.int (getZ cs rows (cs.getD p.2 0)), .int (cs.getD p.2 0)] = prD (p.1, cs.getD p.2 0)
    rw [getZ_at hcn (getD_at h2) h1]
    rfl
  rw [e2] at e1
  have e3 := sort_prs (rows.zipIdx.map (zc cs))
  rw [sort_zc hc hl] at e3
  have hlen : (ordZ y rows).length ≤ 1000 := by rw [ordZ_len]; omega
  have fin : lcE [5, 3] (seqI (varE 4)) (tupT 2 (consT (setT 5) (consT (setT 3) nilT))) yesT (tupE (consE (varE 3) (consE (callE m__law_sum (argV (varE 0) (argV (varE 5) (argV (bin2 ixD (varE 1) (retE (.int 2))) (retE []))))) (retE []))))
      [.v (.int b), .v sd, .v dd, .u, .v (.lst ((ordZ y rows).map (prD ∘ zc cs))), .u] = .ok (.lst ((chA b n y rows).map (chL cs))) [.v (.int b), .v sd, .v dd, .u, .v (.lst ((ordZ y rows).map (prD ∘ zc cs))), .u] := by
    have := lcE_map (vs := [5, 3]) (fi := seqI (varE 4)) (g := tupT 2 (consT (setT 5) (consT (setT 3) nilT))) (ft := yesT) (fe := tupE (consE (varE 3) (consE (callE m__law_sum (argV (varE 0) (argV (varE 5) (argV (bin2 ixD (varE 1) (retE (.int 2))) (retE []))))) (retE []))))
      (ρ := [.v (.int b), .v sd, .v dd, .u, .v (.lst ((ordZ y rows).map (prD ∘ zc cs))), .u]) (ds := (ordZ y rows).map (prD ∘ zc cs))
      (fun d => match d with | .tup [.int x, i] => .tup [i, .int (addZ b n x)] | _ => .non)
      (by simp) (by simp) (by simp; omega) (fun d hd => by
        obtain ⟨q, _, rfl⟩ := List.mem_map.mp hd
        exact ⟨[.v (.int b), .v sd, .v dd, .v (.int (cs.getD q.2 0)), .v (.lst ((ordZ y rows).map (prD ∘ zc cs))), .v (.int q.1)], [.v (.int b), .v sd, .v dd, .v (.int (cs.getD q.2 0)), .v (.lst ((ordZ y rows).map (prD ∘ zc cs))), .v (.int q.1)], [.v (.int b), .v sd, .v dd, .v (.int (cs.getD q.2 0)), .v (.lst ((ordZ y rows).map (prD ∘ zc cs))), .v (.int q.1)], by simp [prD, zc], by simp, by simp [a2, law_sum_is, prD, zc], by simp⟩)
    rw [this, List.map_map]
    unfold chA
    rw [List.map_map]
    rfl
  simp [a0, q1]
  rw [e1]
  simp only [ev_okb]
  rw [e3]
  simp
  rcases hy with rfl | rfl
  · have : ordZ "up" rows = isort leZN rows.zipIdx := by unfold ordZ; rw [if_neg (by decide)]
    rw [this] at fin
    simp [a3, q2]
    rw [fin]
    simp
  · have : ordZ "down" rows = (isort leZN rows.zipIdx).reverse := by unfold ordZ; rw [if_pos rfl]
    rw [this, List.map_reverse] at fin
    simp [a3, q3]
    rw [fin]
    simp
end DL

/-! Effects, 7: the law's statements and scripts. -/
namespace DL
open PySem L2

def othP (cs rows : List Int) (ci n : Int) : D → Bool
  | .int k => !(k == ci) && getZ cs rows k == n
  | _ => false
theorem others_is (b : Int) (st x6 x8 : D) (cs rows : List Int) (i : Nat) (n : Int) (x9' : Sl) (hc : cs.Nodup) (hl : cs.length = rows.length) (hr : rows.Nodup) (hz : cs.length ≤ 1000) (hi : i < cs.length) :
    ∃ L : List Int, lcE [10] (seqI (varE 2)) (setT 10) (andT (testE (bin2 neD (varE 10) (varE 4))) (testE (bin2 eqD (bin2 ixD (varE 2) (varE 10)) (varE 9)))) (varE 10)
      [.v (.int b), .v st, .v (dz cs rows), .u, .v (.int (cs.getD i 0)), .u, .v x6, .u, .v x8, .v (.int n), .u] = .ok (.lst (L.map .int)) [.v (.int b), .v st, .v (dz cs rows), .u, .v (.int (cs.getD i 0)), .u, .v x6, .u, .v x8, .v (.int n), .u] ∧ L.isEmpty = decide ((rows.set i n).Nodup) := by
  have sq := seq_dz hl
  have hat := fun {k : Int} (h : k ∈ cs) => dz_at hc hl h
  generalize hci : cs.getD i 0 = ci
  have oi := other_is (n := n) hc hl hr (hci ▸ getD_at hi)
  generalize hdz : dz cs rows = dd at *
  refine ⟨cs.filter fun c => !(c == ci) && getZ cs rows c == n, ?_, oi⟩
  have e := lcE_filter (vs := [10]) (fi := seqI (varE 2)) (g := setT 10) (ft := andT (testE (bin2 neD (varE 10) (varE 4))) (testE (bin2 eqD (bin2 ixD (varE 2) (varE 10)) (varE 9)))) (fe := varE 10)
    (ρ := [.v (.int b), .v st, .v dd, .u, .v (.int ci), .u, .v x6, .u, .v x8, .v (.int n), .u]) (ds := cs.map .int) (othP cs rows ci n) (fun d => d)
    (by simp [-ev_seqI, ev_seqD, sq]) (by simp) (by simp; omega) (fun d hd => by
      obtain ⟨k, hk, rfl⟩ := List.mem_map.mp hd
      refine ⟨[.v (.int b), .v st, .v dd, .u, .v (.int ci), .u, .v x6, .u, .v x8, .v (.int n), .v (.int k)], [.v (.int b), .v st, .v dd, .u, .v (.int ci), .u, .v x6, .u, .v x8, .v (.int n), .v (.int k)], by simp, ?_, by simp, fun _ => ⟨[.v (.int b), .v st, .v dd, .u, .v (.int ci), .u, .v x6, .u, .v x8, .v (.int n), .v (.int k)], by simp, by simp⟩⟩
      by_cases h : k = ci <;> simp [h, hat hk, othP])
  rw [e]
  rw [List.map_id', List.filter_map]
  rfl
theorem law_single_loop (b : Int) (st x6 x8 : D) (cs : List Int) (hc : cs.Nodup) (hz : cs.length ≤ 1000) : ∀ (ch : List (Nat × Int)) (rows : List Int) (x4 x9 : Sl), notP x4 = true → notP x9 = true → cs.length = rows.length → rows.Nodup → (∀ q ∈ ch, q.1 < rows.length) →
    ∃ y4 y9, notP y4 = true ∧ notP y9 = true ∧ loopS (tupT 2 (consT (setT 4) (consT (setT 9) nilT))) (seqS (ifS (testE (bin2 neD (lcE [10] (seqI (varE 2)) (setT 10) (andT (testE (bin2 neD (varE 10) (varE 4))) (testE (bin2 eqD (bin2 ixD (varE 2) (varE 10)) (varE 9)))) (varE 10)) (lstE (retE [])))) (retS (tupE (consE (varE 2) (consE (retE (.bl true)) (retE []))))) nextS) (seqS (newS 2 (callB dictF2 (consE (varE 2) (retE [])))) (seqS (setK 2 (varE 4) (varE 9)) (seqS (thawS 2) nextS)))) (ch.map (chL cs))
      [.v (.int b), .v st, .v (dz cs rows), .u, x4, .u, .v x6, .u, .v x8, x9, .u] = .ok (if (sing ch rows).2 = true then .ret (.tup [dz cs (sing ch rows).1, .bl true]) else .nx) [.v (.int b), .v st, .v (dz cs (sing ch rows).1), .u, y4, .u, .v x6, .u, .v x8, y9, .u]
  | [], rows, x4, x9, h4, h9, _, _, _ => ⟨x4, x9, h4, h9, rfl⟩
  | (i, n) :: ch, rows, x4, x9, h4, h9, hl, hr, hch => by
    have hi : i < rows.length := hch (i, n) List.mem_cons_self
    obtain ⟨L, e0, oL⟩ := others_is b st x6 x8 cs rows i n .u hc hl hr hz (by omega)
    have e1 : tupT 2 (consT (setT 4) (consT (setT 9) nilT)) (chL cs (i, n)) [.v (.int b), .v st, .v (dz cs rows), .u, x4, .u, .v x6, .u, .v x8, x9, .u] = some [.v (.int b), .v st, .v (dz cs rows), .u, .v (.int (cs.getD i 0)), .u, .v x6, .u, .v x8, .v (.int n), .u] := by
      simp only [chL]
      generalize cs.getD i 0 = ci
      simp [-ev_setT, ev_setTn, h4, h9]
    have pu := dz_put (n := n) hc hl (getD_at (show i < cs.length by omega)) hz
    have hll : (rows.set i n).length = rows.length := List.length_set
    have hsing : sing ((i, n) :: ch) rows = if (rows.set i n).Nodup then sing ch (rows.set i n) else (rows, true) := rfl
    rw [hsing]
    generalize cs.getD i 0 = ci at *
    generalize rows.set i n = r' at *
    have nl := ne_nil L
    have dd : dz cs rows = .dct ((cs.zip rows).map kvD) := rfl
    have dd' : dz cs r' = .dct ((cs.zip r').map kvD) := rfl
    rw [List.map_cons, loop_cons e1]
    by_cases hn : r'.Nodup
    · obtain ⟨y4, y9, n4, n9, e⟩ := law_single_loop b st x6 x8 cs hc hz ch r' (.v (.int ci)) (.v (.int n)) rfl rfl (by omega) hn fun q hq => by rw [hll]; exact hch q (List.mem_cons_of_mem _ hq)
      refine ⟨y4, y9, n4, n9, ?_⟩
      rw [if_pos hn, ← e]
      rw [decide_eq_true hn] at oL
      simp
      rw [e0]
      simp [nl, oL]
      rw [dd, dd']
      have d2 : dictF2 [.dct ((cs.zip rows).map kvD)] = some (.dct ((cs.zip rows).map kvD)) := rfl
      simp [d2, pu]
    · refine ⟨.v (.int ci), .v (.int n), rfl, rfl, ?_⟩
      rw [if_neg hn]
      rw [decide_eq_false hn] at oL
      simp
      rw [e0]
      simp [nl, oL]
/-- the statements that a part is -/
def parts : Stm → List Stm
  | .each _ t => t.map fun q => .one "rows" q.1 q.2
  | s => [s]
def foldR (b : Int) : List Stm → List Int → List Int × Bool
  | [], rows => (rows, false)
  | s :: l, rows => if (rowsSt b s rows).2 = true then rowsSt b s rows else foldR b l (rowsSt b s rows).1
theorem fold_each (b : Int) : ∀ (t : List (Int × Int)) (rows : List Int), foldR b (t.map fun q => .one "rows" q.1 q.2) rows = eachR t rows
  | [], rows => rfl
  | (a, c) :: t, rows => by
    rw [List.map_cons]
    unfold foldR eachR
    rw [fold_each b t]
    rfl
/-- one or add -/
def simple (b : Int) : Stm → Prop
  | .one _ _ _ => True
  | .add _ _ y => y = "up" ∨ y = "down"
  | _ => False
theorem singles_any (b : Int) (s : Stm) (hs : simple b s) (cs rows : List Int) (hc : cs.Pairwise (· < ·)) (hl : cs.length = rows.length) (hz : cs.length ≤ 1000) : ∃ ch : List (Nat × Int), m__law_singles [.v (.int b), .v s.d, .v (dz cs rows)] = .ok (.lst (ch.map (chL cs))) [.v (.int b), .v s.d, .v (dz cs rows)] ∧ (∀ q ∈ ch, q.1 < rows.length) ∧ rowsSt b s rows = sing ch rows := by
  have hcn : cs.Nodup := List.Pairwise.imp (fun h => by omega) hc
  cases s with
  | one p a c => exact ⟨_, singles_one b a c p cs rows hcn hl hz, fun q hq => chO_lt hq, rfl⟩
  | add p n y => exact ⟨_, singles_add b n p y cs rows hc hl hz hs, fun q hq => chA_lt hq, rfl⟩
  | all p t => exact hs.elim
  | each p t => exact hs.elim
theorem law_parts_loop (b : Int) (st x6 : D) (cs : List Int) (hc : cs.Pairwise (· < ·)) (hz : cs.length ≤ 1000) : ∀ (l : List Stm) (rows : List Int) (x4 x8 x9 : Sl), notP x4 = true → notP x8 = true → notP x9 = true → cs.length = rows.length → rows.Nodup → (∀ s ∈ l, simple b s) →
    ∃ y4 y8 y9, loopS (setT 8) (forS (seqI (callE m__law_singles (argV (varE 0) (argV (varE 8) (argV (varE 2) (retE [])))))) (tupT 2 (consT (setT 4) (consT (setT 9) nilT))) (seqS (ifS (testE (bin2 neD (lcE [10] (seqI (varE 2)) (setT 10) (andT (testE (bin2 neD (varE 10) (varE 4))) (testE (bin2 eqD (bin2 ixD (varE 2) (varE 10)) (varE 9)))) (varE 10)) (lstE (retE [])))) (retS (tupE (consE (varE 2) (consE (retE (.bl true)) (retE []))))) nextS) (seqS (newS 2 (callB dictF2 (consE (varE 2) (retE [])))) (seqS (setK 2 (varE 4) (varE 9)) (seqS (thawS 2) nextS))))) (l.map Stm.d)
      [.v (.int b), .v st, .v (dz cs rows), .u, x4, .u, .v x6, .u, x8, x9, .u] = .ok (if (foldR b l rows).2 = true then .ret (.tup [dz cs (foldR b l rows).1, .bl true]) else .nx) [.v (.int b), .v st, .v (dz cs (foldR b l rows).1), .u, y4, .u, .v x6, .u, y8, y9, .u]
  | [], rows, x4, x8, x9, _, _, _, _, _, _ => ⟨x4, x8, x9, rfl⟩
  | s :: l, rows, x4, x8, x9, h4, h8, h9, hl, hr, hs => by
    have hcn : cs.Nodup := List.Pairwise.imp (fun h => by omega) hc
    obtain ⟨ch, e0, hch, er⟩ := singles_any b s (hs s List.mem_cons_self) cs rows hc hl hz
    obtain ⟨z4, z9, n4, n9, e1⟩ := law_single_loop b st x6 s.d cs hcn hz ch rows x4 x9 h4 h9 hl hr hch
    obtain ⟨k1, k2⟩ := sing_keep ch rows hr
    rw [← er] at e1 k1 k2
    unfold foldR
    generalize rowsSt b s rows = r at *
    obtain ⟨r1, r2⟩ := r
    simp only at k1 k2 e1
    have s1 : setT 8 s.d [.v (.int b), .v st, .v (dz cs rows), .u, x4, .u, .v x6, .u, x8, x9, .u] = some [.v (.int b), .v st, .v (dz cs rows), .u, x4, .u, .v x6, .u, .v s.d, x9, .u] := by simp [-ev_setT, ev_setTn, h8]
    rw [List.map_cons, loop_cons s1]
    cases r2 with
    | true =>
      refine ⟨z4, .v s.d, z9, ?_⟩
      simp [e0]
      rw [e1]
      simp
    | false =>
      obtain ⟨y4, y8, y9, e⟩ := law_parts_loop b st x6 cs hc hz l r1 z4 (.v s.d) z9 n4 rfl n9 (by omega) k1 fun u hu => hs u (List.mem_cons_of_mem _ hu)
      refine ⟨y4, y8, y9, ?_⟩
      simp [e0]
      rw [e1]
      simp
      exact e
end DL

/-! Effects, 8: the law's effects. -/
namespace DL
open PySem L2

def bdK (F : Int → Int) (c : Int) : D × D := (.int c, .int (F c))
theorem bd_put (F : Int → Int) {cs : List Int} {j : Nat} {c : Int} (hc : cs.Nodup) (h : cs[j]? = some c) (hz : cs.length ≤ 1000) : setKF ((cs.take j).map (bdK F)) (.int (F c)) (.int c) = some ((cs.take (j + 1)).map (bdK F)) := by
  have hj : j < cs.length := (List.getElem?_eq_some_iff.mp h).1
  unfold setKF
  rw [key_int]
  simp only
  rw [if_pos (by simp; omega)]
  congr 1
  unfold putD
  rw [if_neg ?_, List.take_add_one, h, List.map_append]
  · rfl
  · rw [List.any_map, Bool.not_eq_true, List.any_eq_false]
    intro k hk
    simp only [Function.comp, bdK, key_int, Option.some.injEq, Sum.inl.injEq, decide_eq_true_eq]
    rintro rfl
    obtain ⟨i, hi, e⟩ := List.getElem_of_mem hk
    rw [List.getElem_take] at e
    rw [List.length_take] at hi
    have := (List.getElem?_inj (i := i) (j := j) (by omega) hc).mp (by rw [h, List.getElem?_eq_getElem (by omega), e])
    omega
theorem bd_all (F : Int → Int) (cs : List Int) : D.dct (cs.map (bdK F)) = dz cs (cs.map F) := by
  unfold dz
  congr 1
  induction cs with
  | nil => rfl
  | cons c cs ih => rw [List.map_cons, List.map_cons, List.zip_cons_cons, List.map_cons, ih]; rfl
def vlsD (d : D) : Option D := match d with
  | .dct kvs => if kvs.length ≤ 1000000 then some (.lst (kvs.map (·.2))) else none
  | _ => none
theorem ev_vlsD {fe : EM D} {ρ : Ro} : valsE fe ρ = (fe ρ).bind fun d ρ1 => liftO (vlsD d) ρ1 := rfl
theorem law_rows_all (b : Int) (p : Str) (t : List (Int × Int)) (hs : (Stm.all p t).ok b) (hb0 : 0 ≤ b) (hb : b ≤ 5) (cs rows : List Int) (hc : cs.Nodup) (hl : cs.length = rows.length) (hz : cs.length ≤ 1000) : m__law_rows [.v (.int b), .v (Stm.all p t).d, .v (dz cs rows)] = .ok (.tup [dz cs (rowsSt b (.all p t) rows).1, .bl (rowsSt b (.all p t) rows).2]) [.v (.int b), .v (Stm.all p t).d, .v (dz cs rows)] := by
  unfold m__law_rows b__law_rows
  have q1 : eqD (.str "all") (.str "all") = some (.bl true) := by kernel_rfl
  have hr := fun x => law_refs_is b (Stm.all p t) hs hb hb0 x
  have ht : ∀ x, (Stm.all p t).turn b x = lkp t x := fun x => rfl
  simp only [ht] at hr
  generalize hd : (Stm.all p t).d = sd at *
  have a0 : ixD sd (.int 0) = some (.str "all") := by rw [← hd]; rfl
  have sq := seq_dz hl
  have hat := fun {k : Int} (h : k ∈ cs) => dz_at hc hl h
  have hm : cs.map (fun c => lkp t (getZ cs rows c)) = rows.map (lkp t) := by
    have := dz_get hc hl
    conv => rhs; rw [← this, List.map_map]
    rfl
  have hba := bd_all (fun c => lkp t (getZ cs rows c)) cs
  rw [hm] at hba
  have hrs : rowsSt b (.all p t) rows = if (rows.map (lkp t)).Nodup then (rows.map (lkp t), false) else (rows, true) := rfl
  rw [hrs]
  have hlen : (rows.map (lkp t)).length = rows.length := by simp
  generalize rows.map (lkp t) = r' at *
  generalize hdz : dz cs rows = dd at *
  obtain ⟨ρ', e, x4, n4, rfl⟩ := for_inv (fi := seqI (varE 2)) (g := setT 4) (f := setK 3 (varE 4) (callE m__law_refs (argV (varE 0) (argV (varE 1) (argV (bin2 ixD (varE 2) (varE 4)) (retE []))))))
    (ρ0 := [.v (.int b), .v sd, .v dd, .o (.dct []), .u, .u, .u, .u, .u, .u, .u]) (ρ := [.v (.int b), .v sd, .v dd, .o (.dct []), .u, .u, .u, .u, .u, .u, .u]) (ds := cs.map .int)
    (fun j ρ => ∃ x4, notP x4 = true ∧ ρ = [.v (.int b), .v sd, .v dd, .o (.dct ((cs.take j).map (bdK fun c => lkp t (getZ cs rows c)))), x4, .u, .u, .u, .u, .u, .u])
    (by simp [-ev_seqI, ev_seqD, sq]) ⟨.u, rfl, by simp⟩ (fun j d ρ hj ⟨x4, h4, eρ⟩ => by
      subst eρ
      rw [List.getElem?_map] at hj
      obtain ⟨c, hcj, rfl⟩ := map_inv hj
      have hcm := List.mem_of_getElem? hcj
      have pu := bd_put (fun c => lkp t (getZ cs rows c)) hc hcj hz
      refine ⟨[.v (.int b), .v sd, .v dd, .o (.dct ((cs.take j).map (bdK fun c => lkp t (getZ cs rows c)))), .v (.int c), .u, .u, .u, .u, .u, .u], [.v (.int b), .v sd, .v dd, .o (.dct ((cs.take (j + 1)).map (bdK fun c => lkp t (getZ cs rows c)))), .v (.int c), .u, .u, .u, .u, .u, .u], by simp [-ev_setT, ev_setTn, h4], ?_, .v (.int c), rfl, rfl⟩
      generalize (cs.take j).map (bdK fun c => lkp t (getZ cs rows c)) = K at *
      generalize (cs.take (j + 1)).map (bdK fun c => lkp t (getZ cs rows c)) = K' at *
      simp [hat hcm, hr, pu])
  rw [List.length_map, List.take_length, hba] at e
  have hl2 : cs.length = r'.length := by omega
  have dd' : dz cs r' = .dct ((cs.zip r').map kvD) := rfl
  have hv := dz_vals hl2
  have hzl : ((cs.zip r').map kvD).length = cs.length := by simp; omega
  have hz2 : ((cs.zip r').map kvD).length ≤ 1000000 := by omega
  have sl := len_lt (sortU_nodup r') fun k => mem_sortU
  have sle : (sortU r').length ≤ r'.length := sub_len (sortU_nodup r') fun k hk => mem_sortU.mp hk
  have r4 : r'.length < 4000 := by omega
  have lenK : lenF [dz cs r'] = some (.int cs.length) := by rw [dd']; show some (D.int ((cs.zip r').map kvD).length) = _; rw [hzl]
  have vz : vlsD (dz cs r') = some (.lst (r'.map .int)) := by
    rw [dd']
    unfold vlsD
    simp only [if_pos hz2, hv]
  generalize hed : dz cs r' = ed at *
  simp [-ev_forS, -ev_vals, ev_vlsD, a0, q1]
  rw [e]
  simp [-ev_forS, -ev_vals, ev_vlsD, vz, r4, lenK]
  by_cases h : r'.Nodup
  · rw [decide_eq_true h] at sl
    have : (sortU r').length = r'.length := by simp at sl; omega
    simp [h, hl2, this, hed]
  · rw [decide_eq_false h] at sl
    have : ¬ ((sortU r').length : Int) = (r'.length : Int) := by simp at sl; omega
    have t2 : ¬ (sortU r').length = r'.length := by omega
    simp [h, hl2, this, t2, hdz]
theorem law_rows_is (b : Int) (s : Stm) (hs : s.ok b) (hb0 : 0 ≤ b) (hb : b ≤ 5) (cs rows : List Int) (hc : cs.Pairwise (· < ·)) (hl : cs.length = rows.length) (hz : cs.length ≤ 1000) (hr : rows.Nodup) : m__law_rows [.v (.int b), .v s.d, .v (dz cs rows)] = .ok (.tup [dz cs (rowsSt b s rows).1, .bl (rowsSt b s rows).2]) [.v (.int b), .v s.d, .v (dz cs rows)] := by
  have hcn : cs.Nodup := List.Pairwise.imp (fun h => by omega) hc
  have simp1 : (∃ k : Str, ixD s.d (.int 0) = some (.str k) ∧ eqD (.str k) (.str "all") = some (.bl false) ∧ eqD (.str k) (.str "each") = some (.bl false)) → simple b s → m__law_rows [.v (.int b), .v s.d, .v (dz cs rows)] = .ok (.tup [dz cs (rowsSt b s rows).1, .bl (rowsSt b s rows).2]) [.v (.int b), .v s.d, .v (dz cs rows)] := fun ⟨k, a0, q1, q2⟩ hsim => by
    obtain ⟨y4, y8, y9, e⟩ := law_parts_loop b s.d (.lst [s.d]) cs hc hz [s] rows .u .u .u rfl rfl rfl hl hr fun u hu => by rw [List.mem_singleton.mp hu]; exact hsim
    have hf : foldR b [s] rows = rowsSt b s rows := by
      unfold foldR
      by_cases h : (rowsSt b s rows).2 = true
      · rw [if_pos h]
      · rw [if_neg h]
        show ((rowsSt b s rows).1, false) = _
        cases q : rowsSt b s rows with
        | mk r1 r2 => rw [q] at h; simp only [Bool.not_eq_true] at h; rw [h]
    rw [hf, List.map_cons, List.map_nil] at e
    unfold m__law_rows b__law_rows
    generalize rowsSt b s rows = r at *
    generalize s.d = sd at *
    obtain ⟨r1, r2⟩ := r
    simp [-ev_forS, a0, q1, q2]
    simp only [ev_forS, ev_seqI, ev_varE]
    simp [-ev_forS]
    rw [e]
    cases r2 <;> simp
  cases s with
  | one p a c => exact simp1 ⟨"one", rfl, by kernel_rfl, by kernel_rfl⟩ trivial
  | add p n y => exact simp1 ⟨"add", rfl, by kernel_rfl, by kernel_rfl⟩ hs.2.2.2.2
  | all p t => exact law_rows_all b p t hs hb0 hb cs rows hcn hl hz
  | each p t =>
    have q1 : eqD (.str "each") (.str "all") = some (.bl false) := by kernel_rfl
    have q2 : eqD (.str "each") (.str "each") = some (.bl true) := by kernel_rfl
    have ht : t.length ≤ 6 := hs.2.2.1
    have hrs : rowsSt b (.each p t) rows = eachR t rows := rfl
    rw [hrs]
    unfold m__law_rows b__law_rows
    generalize hd : (Stm.each p t).d = sd
    have a0 : ixD sd (.int 0) = some (.str "each") := by rw [← hd]; rfl
    have a2 : ixD sd (.int 2) = some (.tup (t.map prD)) := by rw [← hd]; rfl
    generalize hdz : dz cs rows = dd
    have e1 := lcE_map (vs := [7]) (fi := seqI (bin2 ixD (varE 1) (retE (.int 2)))) (g := setT 7) (ft := yesT) (fe := bin2 addD (tupE (consE (retE (.str "one")) (consE (retE (.str "rows")) (retE [])))) (varE 7)) (ρ := [.v (.int b), .v sd, .v dd, .u, .u, .u, .u, .u, .u, .u, .u]) (ds := t.map prD)
      (fun d => match d with | .tup [x, y] => .tup [.str "one", .str "rows", x, y] | _ => .non)
      (by simp [a2]) (by simp) (by simp; omega) (fun d hd => by
        obtain ⟨q, _, rfl⟩ := List.mem_map.mp hd
        exact ⟨[.v (.int b), .v sd, .v dd, .u, .u, .u, .u, .v (prD q), .u, .u, .u], [.v (.int b), .v sd, .v dd, .u, .u, .u, .u, .v (prD q), .u, .u, .u], [.v (.int b), .v sd, .v dd, .u, .u, .u, .u, .v (prD q), .u, .u, .u], by simp, by simp, by simp [prD], by simp⟩)
    have e2 : (t.map prD).map (fun d => match d with | .tup [x, y] => D.tup [.str "one", .str "rows", x, y] | _ => .non) = (t.map fun q => Stm.one "rows" q.1 q.2).map Stm.d := by
      rw [List.map_map, List.map_map]; rfl
    rw [e2] at e1
    obtain ⟨y4, y8, y9, e⟩ := law_parts_loop b sd (.lst ((t.map fun q => Stm.one "rows" q.1 q.2).map Stm.d)) cs hc hz (t.map fun q => .one "rows" q.1 q.2) rows .u .u .u rfl rfl rfl hl hr fun u hu => by
      obtain ⟨q, _, rfl⟩ := List.mem_map.mp hu
      trivial
    rw [fold_each, hdz] at e
    generalize (t.map fun q => Stm.one "rows" q.1 q.2).map Stm.d = L at *
    generalize eachR t rows = r at *
    obtain ⟨r1, r2⟩ := r
    simp [-ev_forS, a0, q1, q2]
    rw [e1]
    simp [-ev_forS]
    simp only [ev_forS, ev_seqI, ev_varE]
    simp [-ev_forS]
    rw [e]
    cases r2 <;> simp
end DL

/-! Effects, 9: the law's scripts. -/
namespace DL
open PySem L2

def refF (b : Int) (s : Stm) : D → D
  | .int x => .int (s.turn b x)
  | _ => .non
theorem law_done_loop (b : Int) (hb0 : 0 ≤ b) (hb : b ≤ 5) (sc : D) (cs : List Int) (hc : cs.Pairwise (· < ·)) (hz : cs.length ≤ 1000) : ∀ (l : List (Stm × Nat)) (rows refs : List Int) (x4 x5 x7 : Sl), notP x4 = true → notP x5 = true → notP x7 = true → (∀ p ∈ l, p.1.ok b) → cs.length = rows.length → refs.length ≤ 1000 → rows.Nodup →
    ∃ y4 y5 y7, loopS (tupT 2 (consT (setT 4) (consT (setT 5) nilT))) (ifS (testE (bin2 eqD (bin2 ixD (varE 5) (retE (.int 1))) (retE (.str "refs")))) (asgS (callB tupF (consE (lcE [6] (seqI (varE 3)) (setT 6) yesT (callE m__law_refs (argV (varE 0) (argV (varE 5) (argV (varE 6) (retE [])))))) (retE []))) (setT 3)) (seqS (asgS (callE m__law_rows (argV (varE 0) (argV (varE 5) (argV (varE 2) (retE []))))) (tupT 2 (consT (setT 2) (consT (setT 7) nilT)))) (ifS (testE (varE 7)) (retS (tupE (consE (varE 2) (consE (varE 3) (consE (varE 4) (retE [])))))) nextS))) (l.map stI)
      [.v (.int b), .v sc, .v (dz cs rows), .v (tupI' refs), x4, x5, .u, x7] = .ok (if (doneP b l rows refs).2.2 = -1 then .nx else .ret (.tup [dz cs (doneP b l rows refs).1, tupI' (doneP b l rows refs).2.1, .int (doneP b l rows refs).2.2])) [.v (.int b), .v sc, .v (dz cs (doneP b l rows refs).1), .v (tupI' (doneP b l rows refs).2.1), y4, y5, .u, y7]
  | [], rows, refs, x4, x5, x7, _, _, _, _, _, _, _ => ⟨x4, x5, x7, rfl⟩
  | (s, i) :: l, rows, refs, x4, x5, x7, h4, h5, h7, hok, hl, hl2, hn => by
    have hs := hok (s, i) List.mem_cons_self
    have hok' : ∀ p ∈ l, p.1.ok b := fun p hp => hok p (List.mem_cons_of_mem _ hp)
    have s1 : tupT 2 (consT (setT 4) (consT (setT 5) nilT)) (stI (s, i)) [.v (.int b), .v sc, .v (dz cs rows), .v (tupI' refs), x4, x5, .u, x7] = some [.v (.int b), .v sc, .v (dz cs rows), .v (tupI' refs), .v (.int i), .v s.d, .u, x7] := by
      generalize dz cs rows = dd
      simp [-ev_setT, ev_setTn, stI, h4, h5]
    have ep := place_eq hs
    have ip := stm_p s
    rw [List.map_cons, loop_cons s1]
    unfold doneP
    by_cases hp : s.p = "refs"
    · have e1 := lcE_map (vs := [6]) (fi := seqI (varE 3)) (g := setT 6) (ft := yesT) (fe := callE m__law_refs (argV (varE 0) (argV (varE 5) (argV (varE 6) (retE []))))) (ρ := [.v (.int b), .v sc, .v (dz cs rows), .v (tupI' refs), .v (.int i), .v s.d, .u, x7]) (ds := refs.map .int) (refF b s)
        (by simp [tupI']) (by simp) (by simp; omega) (fun d hd => by
          obtain ⟨x, _, rfl⟩ := List.mem_map.mp hd
          generalize dz cs rows = dd
          exact ⟨[.v (.int b), .v sc, .v dd, .v (tupI' refs), .v (.int i), .v s.d, .v (.int x), x7], [.v (.int b), .v sc, .v dd, .v (tupI' refs), .v (.int i), .v s.d, .v (.int x), x7], [.v (.int b), .v sc, .v dd, .v (tupI' refs), .v (.int i), .v s.d, .v (.int x), x7], by simp, by simp, by simp [law_refs_is b s hs hb hb0, refF], by simp⟩)
      have e2 : (refs.map D.int).map (refF b s) = (refs.map (s.turn b)).map .int := by rw [List.map_map, List.map_map]; rfl
      rw [e2] at e1
      obtain ⟨y4, y5, y7, e⟩ := law_done_loop b hb0 hb sc cs hc hz l rows (refs.map (s.turn b)) (.v (.int i)) (.v s.d) x7 rfl rfl h7 hok' hl (by simp; exact hl2) hn
      refine ⟨y4, y5, y7, ?_⟩
      rw [if_pos hp]
      rw [decide_eq_true hp] at ep
      have tf : tupF [.lst ((refs.map (s.turn b)).map .int)] = some (tupI' (refs.map (s.turn b))) := rfl
      generalize (refs.map (s.turn b)) = refs' at *
      generalize refs'.map D.int = R at *
      simp [ip, ep]
      rw [e1]
      simp only [ev_okb, tf, ev_lift1]
      simp
      exact e
    · have e1 := law_rows_is b s hs hb0 hb cs rows hc hl hz hn
      obtain ⟨k1, k2⟩ := rowsSt_keep b s rows hn
      rw [if_neg hp]
      rw [decide_eq_false hp] at ep
      generalize rowsSt b s rows = r at *
      obtain ⟨r1, r2⟩ := r
      simp only at k1 k2 e1
      cases r2 with
      | true =>
        refine ⟨.v (.int i), .v s.d, .v (.bl true), ?_⟩
        have : ¬ ((i : Int) = -1) := by omega
        generalize dz cs rows = dd at *
        generalize hd1 : dz cs r1 = d1 at *
        simp [-ev_setT, ev_setTn, h7, ip, ep, e1, this, hd1]
      | false =>
        obtain ⟨y4, y5, y7, e⟩ := law_done_loop b hb0 hb sc cs hc hz l r1 refs (.v (.int i)) (.v s.d) (.v (.bl false)) rfl rfl rfl hok' (by omega) hl2 k1
        refine ⟨y4, y5, y7, ?_⟩
        rw [if_neg (show ¬ ((r1, false) : List Int × Bool).2 = true by simp), ← e]
        generalize dz cs rows = dd at *
        generalize dz cs r1 = d1 at *
        simp [-ev_setT, ev_setTn, h7, ip, ep, e1]
def effL (cs : List Int) (e : Eff) : D := .tup [dz cs e.1, tupI' e.2.1, .int e.2.2]
theorem law_done_is (b : Int) (hb0 : 0 ≤ b) (hb : b ≤ 5) (l : List Stm) (hok : ∀ s ∈ l, s.ok b) (cs rows refs : List Int) (hc : cs.Pairwise (· < ·)) (hz : cs.length ≤ 1000) (hl : cs.length = rows.length) (hl2 : refs.length ≤ 1000) (hn : rows.Nodup) : m__law_done [.v (.int b), .v (scD l), .v (dz cs rows), .v (tupI' refs)] = .ok (effL cs (doneP b l.zipIdx rows refs)) [.v (.int b), .v (scD l), .v (dz cs rows), .v (tupI' refs)] := by
  obtain ⟨y4, y5, y7, e⟩ := law_done_loop b hb0 hb (scD l) cs hc hz l.zipIdx rows refs .u .u .u rfl rfl rfl (fun p hp => hok p.1 (List.fst_mem_of_mem_zipIdx hp)) hl hl2 hn
  unfold effL
  generalize doneP b l.zipIdx rows refs = r at *
  generalize dz cs rows = dd at *
  generalize dz cs r.1 = d1 at *
  have ev : enumA (consE (varE 1) (retE [])) [.v (.int b), .v (scD l), .v dd, .v (tupI' refs), .u, .u, .u, .u] = .ok (l.zipIdx.map stI) [.v (.int b), .v (scD l), .v dd, .v (tupI' refs), .u, .u, .u, .u] := by
    simp [scD, enum_stm]
  unfold m__law_done b__law_done
  simp [-ev_enumA]
  rw [ev]
  simp only [ev_okb]
  rw [e]
  by_cases q : r.2.2 = -1
  · simp [q]
  · simp [q]
/-- behind stops -/
def stopsP (b : Int) (l : List Stm) : List Nat → List Int → List Int → List Int × List Int
  | [], rows, refs => (rows, refs)
  | k :: ks, rows, refs => stopsP b l ks (doneP b (l.take k).zipIdx rows refs).1 (doneP b (l.take k).zipIdx rows refs).2.1
def effW (b : Int) (l : List Stm) (cs : List Int) (ks : List Nat) : Eff := doneP b l.zipIdx (stopsP b l ks cs (rgZ b)).1 (stopsP b l ks cs (rgZ b)).2
theorem stopsP_keep (b : Int) (l : List Stm) : ∀ (ks : List Nat) (rows refs : List Int), rows.Nodup → (stopsP b l ks rows refs).1.Nodup ∧ (stopsP b l ks rows refs).1.length = rows.length ∧ (stopsP b l ks rows refs).2.length = refs.length
  | [], rows, refs, h => ⟨h, rfl, rfl⟩
  | k :: ks, rows, refs, h => by
    obtain ⟨h1, h2, h3, _⟩ := doneP_keep b (l.take k).zipIdx rows refs h
    obtain ⟨h4, h5, h6⟩ := stopsP_keep b l ks _ (doneP b (l.take k).zipIdx rows refs).2.1 h1
    exact ⟨h4, by rw [← h2]; exact h5, by rw [← h3]; exact h6⟩
theorem sc_take (l : List Stm) (k : Nat) (h : k ≤ l.length) : slD (scD l) none (some (k : Int)) = some (scD (l.take k)) := by
  show some (D.tup (cutD (l.map Stm.d) none (some (k : Int)))) = _
  rw [cut1 _ _ (by simpa using h), ← List.map_take]
  rfl
def nsD (ks : List Nat) : D := .tup (ks.map fun k : Nat => .int (k : Int))
theorem law_stops_loop (b : Int) (hb0 : 0 ≤ b) (hb : b ≤ 5) (l : List Stm) (hok : ∀ s ∈ l, s.ok b) (cs : List Int) (hc : cs.Pairwise (· < ·)) (hz : cs.length ≤ 1000) (x2 x3 : D) (x6 : Sl) : ∀ (ks : List Nat) (rows refs : List Int) (x7 x8 : Sl), notP x7 = true → notP x8 = true → (∀ k ∈ ks, k ≤ l.length) → cs.length = rows.length → refs.length ≤ 1000 → rows.Nodup →
    ∃ y7 y8, notP y7 = true ∧ notP y8 = true ∧ loopS (setT 7) (asgS (callE m__law_done (argV (varE 0) (argV (slE (varE 1) (retE none) (partE (varE 7))) (argV (varE 4) (argV (varE 5) (retE [])))))) (tupT 3 (consT (setT 4) (consT (setT 5) (consT (setT 8) nilT))))) (ks.map fun k : Nat => .int (k : Int))
      [.v (.int b), .v (scD l), .v x2, .v x3, .v (dz cs rows), .v (tupI' refs), x6, x7, x8] = .ok .nx [.v (.int b), .v (scD l), .v x2, .v x3, .v (dz cs (stopsP b l ks rows refs).1), .v (tupI' (stopsP b l ks rows refs).2), x6, y7, y8]
  | [], rows, refs, x7, x8, h7, h8, _, _, _, _ => ⟨x7, x8, h7, h8, rfl⟩
  | k :: ks, rows, refs, x7, x8, h7, h8, hk, hl, hl2, hn => by
    have hkl := hk k List.mem_cons_self
    have e1 := law_done_is b hb0 hb (l.take k) (fun s hs => hok s (List.mem_of_mem_take hs)) cs rows refs hc hz hl hl2 hn
    obtain ⟨k1, k2, k3, _⟩ := doneP_keep b (l.take k).zipIdx rows refs hn
    have tk := sc_take l k hkl
    unfold stopsP
    generalize doneP b (l.take k).zipIdx rows refs = r at *
    obtain ⟨y7, y8, n7, n8, e⟩ := law_stops_loop b hb0 hb l hok cs hc hz x2 x3 x6 ks r.1 r.2.1 (.v (.int (k : Nat))) (.v (.int r.2.2)) rfl rfl (fun j hj => hk j (List.mem_cons_of_mem _ hj)) (by omega) (by omega) k1
    refine ⟨y7, y8, n7, n8, ?_⟩
    rw [← e]
    unfold effL at e1
    generalize dz cs rows = dd at *
    generalize dz cs r.1 = d1 at *
    generalize scD (l.take k) = st at *
    generalize scD l = sl at *
    rw [List.map_cons, loop_cons (ρ1 := [.v (.int b), .v sl, .v x2, .v x3, .v dd, .v (tupI' refs), x6, .v (.int (k : Nat)), x8]) (by simp [-ev_setT, ev_setTn, h7])]
    simp [-ev_setT, ev_setTn, h7, h8, tk, e1]
@[simp] theorem ev_parNew {i j : Nat} {fa fb : EM D} {ρ : Ro} : parNewS i j fa fb ρ = (fa ρ).bind fun d ρ1 => (fb ρ1).bind fun e ρ2 => match ρ2[i]? with
  | none => .bad
  | some (.p _) => .bad
  | some _ => match setT j e (ρ2.set i (.o d)) with
    | some ρ3 => .ok .nx ρ3
    | none => .bad := rfl
def getF' (cs r : List Int) : D → D
  | .int c => .int (getZ cs r c)
  | _ => .non
theorem law_effect_is (b : Int) (hb0 : 0 ≤ b) (hb : b ≤ 5) (l : List Stm) (hok : ∀ s ∈ l, s.ok b) (cs : List Int) (hc : cs.Pairwise (· < ·)) (hz : cs.length ≤ 1000) (ks : List Nat) (hk : ∀ k ∈ ks, k ≤ l.length) : m__law_effect [.v (.int b), .v (scD l), .v (tupI' cs), .v (nsD ks)] = .ok (effD (effW b l cs ks)) [.v (.int b), .v (scD l), .v (tupI' cs), .v (nsD ks)] := by
  have hcn : cs.Nodup := List.Pairwise.imp (fun h => by omega) hc
  have sm : smallI b = true := by unfold smallI; simp; omega
  have r1 : rg1 (.int b) = some ((rgZ b).map .int) := by
    show (if smallI b then some (rngD 0 b.toNat) else none) = _
    rw [sm, if_pos rfl, rg_ints]
  have rl : (rgZ b).length ≤ 1000 := by unfold rgZ; simp; omega
  have hba := bd_all id cs
  rw [List.map_id] at hba
  obtain ⟨ρ', e0, x6, n6, rfl⟩ := for_inv (fi := seqI (varE 2)) (g := setT 6) (f := setK 4 (varE 6) (varE 6))
    (ρ0 := [.v (.int b), .v (scD l), .v (tupI' cs), .v (nsD ks), .o (.dct []), .v (tupI' (rgZ b)), .u, .u, .u]) (ρ := [.v (.int b), .v (scD l), .v (tupI' cs), .v (nsD ks), .o (.dct []), .v (tupI' (rgZ b)), .u, .u, .u]) (ds := cs.map .int)
    (fun j ρ => ∃ x6, free x6 ∧ ρ = [.v (.int b), .v (scD l), .v (tupI' cs), .v (nsD ks), .o (.dct ((cs.take j).map (bdK id))), .v (tupI' (rgZ b)), x6, .u, .u])
    (by simp [tupI']) ⟨.u, .inl rfl, by simp⟩ (fun j d ρ hj ⟨x6, h6, eρ⟩ => by
      subst eρ
      have h6 : notP x6 = true := by rcases h6 with rfl | ⟨_, rfl⟩ <;> rfl
      rw [List.getElem?_map] at hj
      obtain ⟨c, hcj, rfl⟩ := map_inv hj
      have pu := bd_put id hcn hcj hz
      refine ⟨[.v (.int b), .v (scD l), .v (tupI' cs), .v (nsD ks), .o (.dct ((cs.take j).map (bdK id))), .v (tupI' (rgZ b)), .v (.int c), .u, .u], [.v (.int b), .v (scD l), .v (tupI' cs), .v (nsD ks), .o (.dct ((cs.take (j + 1)).map (bdK id))), .v (tupI' (rgZ b)), .v (.int c), .u, .u], by simp [-ev_setT, ev_setTn, h6], ?_, .v (.int c), .inr ⟨_, rfl⟩, rfl⟩
      generalize (cs.take j).map (bdK id) = K at *
      generalize (cs.take (j + 1)).map (bdK id) = K' at *
      simp only [id] at pu
      simp [pu])
  rw [List.length_map, List.take_length, hba] at e0
  obtain ⟨y7, y8, n7, n8, e1⟩ := law_stops_loop b hb0 hb l hok cs hc hz (tupI' cs) (nsD ks) x6 ks cs (rgZ b) .u .u rfl rfl hk rfl rl hcn
  obtain ⟨k1, k2, k3⟩ := stopsP_keep b l ks cs (rgZ b) hcn
  have e2 := law_done_is b hb0 hb l hok cs (stopsP b l ks cs (rgZ b)).1 (stopsP b l ks cs (rgZ b)).2 hc hz k2.symm (by omega) k1
  obtain ⟨m1, m2, m3, _⟩ := doneP_keep b l.zipIdx (stopsP b l ks cs (rgZ b)).1 (stopsP b l ks cs (rgZ b)).2 k1
  unfold effW
  generalize stopsP b l ks cs (rgZ b) = sp at *
  generalize doneP b l.zipIdx sp.1 sp.2 = r at *
  have hgr := dz_get hcn (show cs.length = r.1.length by omega)
  have hat := fun {k : Int} (h : k ∈ cs) => dz_at hcn (show cs.length = r.1.length by omega) h
  have e3 := fun (x5 : D) (x8 : D) => lcE_map (vs := [6]) (fi := seqI (varE 2)) (g := setT 6) (ft := yesT) (fe := bin2 ixD (varE 4) (varE 6)) (ρ := [.v (.int b), .v (scD l), .v (tupI' cs), .v (nsD ks), .v (dz cs r.1), .v x5, x6, y7, .v x8]) (ds := cs.map .int) (getF' cs r.1)
    (by simp [tupI']) (by rcases n6 with rfl | ⟨_, rfl⟩ <;> simp) (by simp; omega) (fun d hd => by
      obtain ⟨c, hcm, rfl⟩ := List.mem_map.mp hd
      have hac := hat hcm
      generalize dz cs r.1 = d1 at *
      exact ⟨[.v (.int b), .v (scD l), .v (tupI' cs), .v (nsD ks), .v d1, .v x5, .v (.int c), y7, .v x8], [.v (.int b), .v (scD l), .v (tupI' cs), .v (nsD ks), .v d1, .v x5, .v (.int c), y7, .v x8], [.v (.int b), .v (scD l), .v (tupI' cs), .v (nsD ks), .v d1, .v x5, .v (.int c), y7, .v x8], by simp, by simp, by simp [hac, getF'], by simp⟩)
  have e4 : (cs.map D.int).map (getF' cs r.1) = r.1.map .int := by
    rw [List.map_map]
    conv => rhs; rw [← hgr, List.map_map]
    rfl
  rw [e4] at e3
  unfold m__law_effect b__law_effect
  unfold effL at e2
  generalize dz cs cs = d0 at *
  generalize dz cs sp.1 = d1 at *
  generalize dz cs r.1 = d2 at *
  generalize scD l = sl at *
  have rgt : (D.tup ((rgZ b).map .int)) = tupI' (rgZ b) := rfl
  have sqs : seqD (nsD ks) = some (ks.map fun k : Nat => .int (k : Int)) := rfl
  have tf : tupF [.lst (r.1.map .int)] = some (tupI' r.1) := rfl
  generalize nsD ks = nd at *
  generalize r.1.map D.int = R1 at *
  have f7 : notP y7 = true := n7
  simp [-ev_forS, r1, rgt]
  rw [e0]
  simp [-ev_forS]
  simp only [ev_forS, ev_seqD, ev_varE]
  simp [-ev_forS, sqs]
  rw [e1]
  simp [-ev_setT, ev_setTn, e2, n8]
  rw [e3]
  simp [tf, effD]
end DL

/-! Plain maths: what is a statement, a script (printed by split.py). -/
namespace DL
open PySem L2


/-! ### all contents -/
def outI : D → List Int
  | .tup ds => ds.map int0
  | _ => []
def outR (r : Res D) : List (List Int) := match r with
  | .ok (.lst ds) _ => ds.map outI
  | _ => []
def csL (b : Int) : List (List Int) := outR (m__law_all_contents [.v (.int b)])
def allC (b : Int) : D := .lst ((csL b).map tupI')
theorem lawC2 : m__law_all_contents [.v (.int 2)] = .ok (allC 2) [.v (.int 2)] := by kernel_rfl
theorem cs2 : ((csL 2).all (fun l => decide (l.length ≤ 5) && risesB l && l.all fun i => decide (0 ≤ i) && decide (i < 2)) && decide ((csL 2).length ≤ 32)) = true := by kernel_rfl
theorem lawC3 : m__law_all_contents [.v (.int 3)] = .ok (allC 3) [.v (.int 3)] := by kernel_rfl
theorem cs3 : ((csL 3).all (fun l => decide (l.length ≤ 5) && risesB l && l.all fun i => decide (0 ≤ i) && decide (i < 3)) && decide ((csL 3).length ≤ 32)) = true := by kernel_rfl
theorem lawC4 : m__law_all_contents [.v (.int 4)] = .ok (allC 4) [.v (.int 4)] := by kernel_rfl
theorem cs4 : ((csL 4).all (fun l => decide (l.length ≤ 5) && risesB l && l.all fun i => decide (0 ≤ i) && decide (i < 4)) && decide ((csL 4).length ≤ 32)) = true := by kernel_rfl
theorem lawC5 : m__law_all_contents [.v (.int 5)] = .ok (allC 5) [.v (.int 5)] := by kernel_rfl
theorem cs5 : ((csL 5).all (fun l => decide (l.length ≤ 5) && risesB l && l.all fun i => decide (0 ≤ i) && decide (i < 5)) && decide ((csL 5).length ≤ 32)) = true := by kernel_rfl
theorem allC_law (b : Int) (h1 : 2 ≤ b) (h2 : b ≤ 5) : m__law_all_contents [.v (.int b)] = .ok (allC b) [.v (.int b)] := by
  have : b = 2 ∨ b = 3 ∨ b = 4 ∨ b = 5 := by omega
  rcases this with rfl | rfl | rfl | rfl
  · exact lawC2
  · exact lawC3
  · exact lawC4
  · exact lawC5
theorem csL_len (b : Int) (h1 : 2 ≤ b) (h2 : b ≤ 5) : (csL b).length ≤ 32 := by
  have key : ∀ c : Int, ((csL c).all (fun l => decide (l.length ≤ 5) && risesB l && l.all fun i => decide (0 ≤ i) && decide (i < c)) && decide ((csL c).length ≤ 32)) = true → (csL c).length ≤ 32 := fun c h => by
    rw [Bool.and_eq_true] at h
    exact of_decide_eq_true h.2
  have : b = 2 ∨ b = 3 ∨ b = 4 ∨ b = 5 := by omega
  rcases this with rfl | rfl | rfl | rfl
  · exact key 2 cs2
  · exact key 3 cs3
  · exact key 4 cs4
  · exact key 5 cs5
theorem csL_ok (b : Int) (h1 : 2 ≤ b) (h2 : b ≤ 5) {c : List Int} (h : c ∈ csL b) : c.length ≤ 5 ∧ c.Pairwise (· < ·) ∧ ∀ i ∈ c, 0 ≤ i ∧ i < b := by
  have key : ∀ e : Int, ((csL e).all (fun l => decide (l.length ≤ 5) && risesB l && l.all fun i => decide (0 ≤ i) && decide (i < e)) && decide ((csL e).length ≤ 32)) = true → c ∈ csL e → c.length ≤ 5 ∧ c.Pairwise (· < ·) ∧ ∀ i ∈ c, 0 ≤ i ∧ i < e := fun e h hc => by
    rw [Bool.and_eq_true] at h
    have := List.all_eq_true.mp h.1 c hc
    rw [Bool.and_eq_true, Bool.and_eq_true] at this
    refine ⟨of_decide_eq_true this.1.1, (risesB_iff c).mp this.1.2, fun i hi => ?_⟩
    have := List.all_eq_true.mp this.2 i hi
    rw [Bool.and_eq_true] at this
    exact ⟨of_decide_eq_true this.1, of_decide_eq_true this.2⟩
  have : b = 2 ∨ b = 3 ∨ b = 4 ∨ b = 5 := by omega
  rcases this with rfl | rfl | rfl | rfl
  · exact key 2 cs2 h
  · exact key 3 cs3 h
  · exact key 4 cs4 h
  · exact key 5 cs5 h

/-! ### fit scripts -/
theorem wd_place {p : Str} (h : place p) : wd (.str p) ["refs", "rows"] = true := by rcases h with rfl | rfl <;> simp [wd]
theorem prsB_ok {b : Int} {t : List (Int × Int)} (h1 : 1 ≤ t.length) (h2 : t.length ≤ 6) (h : ∀ q ∈ t, inB b q) : prsB b (prsD t) = true := by
  have : (t.map prD).all (pairB b) = true := List.all_eq_true.mpr fun x hx => by
    obtain ⟨q, hq, rfl⟩ := List.mem_map.mp hx
    exact pairB_pr (h q hq)
  unfold prsB prsD
  simp [h1, h2]
  exact fun a c hq => pairB_pr (h (a, c) hq)
theorem tabB_ok {b : Int} {t : List (Int × Int)} (h : okTab b t) (hb : 0 ≤ b) : tabB b (prsD t) = true := by
  have hl := tab_len h hb
  have h1 : 1 ≤ t.length := List.length_pos_iff.mpr h.1
  have hr : risesB ((t.map prD).map fst0) = true := by
    rw [fst_pr]
    exact (risesB_iff _).mpr h.2.1
  have ha : (t.map prD).all (pairB b) = true := List.all_eq_true.mpr fun x hx => by
    obtain ⟨q, hq, rfl⟩ := List.mem_map.mp hx
    exact pairB_pr (h.2.2 q hq)
  show (decide (1 ≤ (t.map prD).length) && decide (((t.map prD).length : Int) ≤ b) && (t.map prD).all (pairB b) && risesB ((t.map prD).map fst0)) = true
  rw [hr, ha, List.length_map, decide_eq_true h1, decide_eq_true hl]
  rfl
theorem stB_ok {b : Int} {s : Stm} (h : s.ok b) (hb : 0 ≤ b) : stB b s.d = true := by
  cases s with
  | one p x y =>
    have hp := wd_place h.1
    have h2 : pairB b (.tup [.int x, .int y]) = true := pairB_pr (p := (x, y)) ⟨h.2.1.1, h.2.1.2, h.2.2.1, h.2.2.2⟩
    have hk : wd (.str "one") ["one"] = true := by simp [wd]
    simp [Stm.d, stB, hp, h2, hk]
  | all p t =>
    have hp := wd_place h.1
    have h2 := tabB_ok h.2 hb
    have hk : wd (.str "all") ["all"] = true := by simp [wd]
    simp [Stm.d, stB, hp, h2, hk]
  | each p t =>
    have hp := wd_place h.1
    have h2 := prsB_ok h.2.1 h.2.2.1 h.2.2.2
    have hk : wd (.str "each") ["each"] = true := by simp [wd]
    simp [Stm.d, stB, hp, h2, hk]
  | add p n y =>
    have hp := wd_place h.1
    obtain ⟨_, n1, n2, n3, hy⟩ := h
    have h2 : inI (.int n) (-4) 4 = true := by simp [inI, n1, n2]
    have h3 : nz (.int n) = true := by simp [nz, n3]
    have h4 : wd (.str y) ["down", "up"] = true := by rcases hy with rfl | rfl <;> simp [wd]
    have hk : wd (.str "add") ["add"] = true := by simp [wd]
    simp [Stm.d, stB, hp, h2, h3, h4, hk]
theorem scB_ok {b n : Int} {l : List Stm} (h : okSc b n l) (hn : n ≤ 8) (hb : 0 ≤ b) : scB b (scD l) = true := by
  have hl := h.1
  have h1 : l.length ≤ 8 := by omega
  unfold scB scD
  simp [h1]
  exact fun s hs => stB_ok (h.2 s hs) hb
theorem fits_ok {b n : Int} {l : List Stm} (h : okSc b n l) (hn : n ≤ 8) (hb : 0 ≤ b) (hb2 : b ≤ 5) : m_fits [.v (.int b), .v (scD l)] = .ok (.bl true) [.v (.int b), .v (scD l)] := by
  have := fits_is ((gl_sc h hb hb2 (by omega)).wide (by omega : (10 : Nat) ≤ 40)).gd b
  rw [scB_ok h hn hb] at this
  exact this
theorem look_script {b n : Int} {l : List Stm} (h : okSc b n l) (hn : n ≤ 8) (hb : 0 ≤ b) (hb2 : b ≤ 5) : m_look_at_script [.v (.int b), .v (scD l)] = .ok .non [.v (.int b), .v (scD l)] := by
  unfold m_look_at_script b_look_at_script
  simp [fits_ok h hn hb hb2]
theorem look_ok {b n : Int} {l : List Stm} (h : okSc b n l) (hn : n ≤ 8) (hb : 2 ≤ b) (hb2 : b ≤ 5) : m_look_at [.v (.int b), .v (scD l)] = .ok .non [.v (.int b), .v (scD l)] := by
  unfold m_look_at b_look_at
  simp [size_ok b hb hb2, look_script h hn (by omega) hb2]

/-! ### a value is like itself -/
theorem eq_self {n : Nat} {d : D} (h : Gd n d) (hn : n ≤ 60) : eqD d d = some (.bl true) := by
  obtain ⟨p, h1, h2, h3⟩ := h.toP
  have h4 : PySem.SeqAt.shaped p = true := by unfold PySem.SeqAt.shaped; rw [h2, decide_eq_true (by omega)]; rfl
  unfold eqD eqvD
  rw [h1]
  simp only [h4]
  rw [PySem.SeqAt.eqv_refl p h2]
  rfl
def sameF (k : Nat) : D → D
  | .prt [x, _] => .bl true
  | _ => .bl true
theorem zip_self (ds : List D) : zipD ds ds = ds.map fun x => .prt [x, x] := by
  unfold zipD
  induction ds with
  | nil => rfl
  | cons x xs ih => rw [List.zip_cons_cons, List.map_cons, List.map_cons, ih]
theorem all_true (ds : List D) : allF [.lst (ds.map fun _ => D.bl true)] = some (.bl true) := by
  have := all_map (fun _ => true) ds
  rw [this]
  congr 2
  induction ds with
  | nil => rfl
  | cons x xs ih => simp
theorem same_self : ∀ (k : Nat) (d : D), Gd k d → k ≤ 60 → r__law_same (k + 1) [.v d, .v d] = .ok (.bl true) [.v d, .v d] := by
  have atom : ∀ (k n : Nat) (d : D), Gd n d → n ≤ 60 → isTup d = false → isiF [d, .ty "list"] = some (.bl false) → r__law_same (k + 1) [.v d, .v d] = .ok (.bl true) [.v d, .v d] := fun k n d h hn ht hl => by
    have h1 := isi_tup h
    have h2 := isi_str h
    have h3 := isi_int h
    have h4 := isi_bool h
    have h5 := eq_self h hn
    rw [ht] at h1
    unfold r__law_same b__law_same
    cases d with
    | non =>
      have q1 : ∀ ρ : Ro, ρ[0]? = some (.v .non) → isiTE ["bool", "list", "tuple"] (varE 0) ρ = .ok (.bl false) ρ := fun ρ hρ => by
        show (varE 0 ρ).bind _ = _
        rw [ev_varE, hρ]; rfl
      have q2 : ∀ ρ : Ro, ρ[1]? = some (.v .non) → isiTE ["bool", "list", "tuple"] (varE 1) ρ = .ok (.bl false) ρ := fun ρ hρ => by
        show (varE 1 ρ).bind _ = _
        rw [ev_varE, hρ]; rfl
      have q3 : isD .non .non = some (.bl true) := rfl
      simp [h1, h2, h3, hl, q1, q2, q3, isStr, isInt]
    | bl b =>
      have q1 : ∀ ρ : Ro, ρ[0]? = some (.v (.bl b)) → isiTE ["bool", "list", "tuple"] (varE 0) ρ = .ok (.bl true) ρ := fun ρ hρ => by
        show (varE 0 ρ).bind _ = _
        rw [ev_varE, hρ]; rfl
      simp [h1, h4, hl, q1, isBool]
    | int i =>
      have q1 : ∀ ρ : Ro, ρ[0]? = some (.v (.int i)) → isiTE ["bool", "list", "tuple"] (varE 0) ρ = .ok (.bl false) ρ := fun ρ hρ => by
        show (varE 0 ρ).bind _ = _
        rw [ev_varE, hρ]; rfl
      have q2 : ∀ ρ : Ro, ρ[1]? = some (.v (.int i)) → isiTE ["bool", "list", "tuple"] (varE 1) ρ = .ok (.bl false) ρ := fun ρ hρ => by
        show (varE 1 ρ).bind _ = _
        rw [ev_varE, hρ]; rfl
      simp [h1, h3, hl, q1, q2, isInt]
    | str s =>
      have q1 : ∀ ρ : Ro, ρ[0]? = some (.v (.str s)) → isiTE ["bool", "list", "tuple"] (varE 0) ρ = .ok (.bl false) ρ := fun ρ hρ => by
        show (varE 0 ρ).bind _ = _
        rw [ev_varE, hρ]; rfl
      have q2 : ∀ ρ : Ro, ρ[1]? = some (.v (.str s)) → isiTE ["bool", "list", "tuple"] (varE 1) ρ = .ok (.bl false) ρ := fun ρ hρ => by
        show (varE 1 ρ).bind _ = _
        rw [ev_varE, hρ]; rfl
      simp [h1, h2, h3, hl, q1, q2, isInt, isStr, h5]
    | tup ds => simp [isTup] at ht
    | lst ds => exact absurd (show some (D.bl true) = some (D.bl false) from hl) (by simp)
    | _ => cases n <;> simp [Gd] at h
  have seq : ∀ (k : Nat) (d : D) (ds : List D), (d = .tup ds ∨ d = .lst ds) → Gd (k + 1) d → (∀ x ∈ ds, r__law_same (k + 1) [.v x, .v x] = .ok (.bl true) [.v x, .v x]) → ds.length ≤ 40 → r__law_same (k + 2) [.v d, .v d] = .ok (.bl true) [.v d, .v d] := fun k d ds hd h hx hl => by
    have e := lcE_map (vs := [2, 3]) (fi := zipI (consE (varE 0) (consE (varE 1) (retE [])))) (g := tupT 2 (consT (setT 2) (consT (setT 3) nilT))) (ft := yesT) (fe := callE (r__law_same (k + 1)) (argV (varE 2) (argV (varE 3) (retE [])))) (ρ := [.v d, .v d, .u, .u]) (ds := ds.map fun x => .prt [x, x]) (fun _ => .bl true)
      (by rcases hd with rfl | rfl <;> simp [zip_self]) (by simp) (by simp; omega) (fun y hy => by
        obtain ⟨x, hxm, rfl⟩ := List.mem_map.mp hy
        exact ⟨[.v d, .v d, .v x, .v x], [.v d, .v d, .v x, .v x], [.v d, .v d, .v x, .v x], by simp, by simp, by simp [hx x hxm], by simp⟩)
    rw [List.map_map] at e
    have al := all_true ds
    unfold r__law_same b__law_same
    rcases hd with rfl | rfl
    · have i1 : isiF [.tup ds, .ty "list"] = some (.bl false) := rfl
      have i2 : isiF [.tup ds, .ty "tuple"] = some (.bl true) := rfl
      simp [i1, i2]
      rw [e]
      simp only [ev_okb]
      rw [show ds.map ((fun _ => D.bl true) ∘ fun x => D.prt [x, x]) = ds.map fun _ => D.bl true from rfl, al]
      simp
    · have i1 : isiF [.lst ds, .ty "list"] = some (.bl true) := rfl
      simp [i1]
      rw [e]
      simp only [ev_okb]
      rw [show ds.map ((fun _ => D.bl true) ∘ fun x => D.prt [x, x]) = ds.map fun _ => D.bl true from rfl, al]
      simp
  intro k
  induction k with
  | zero =>
    intro d h hn
    cases d <;> first | exact atom 0 0 _ h hn rfl rfl | (simp [Gd] at h)
  | succ k ih =>
    intro d h hn
    cases d with
    | tup ds =>
      simp only [Gd] at h
      exact seq k _ ds (.inl rfl) h (fun x hx => ih x (h.2 x hx) (by omega)) h.1
    | lst ds =>
      simp only [Gd] at h
      exact seq k _ ds (.inr rfl) h (fun x hx => ih x (h.2 x hx) (by omega)) h.1
    | _ => first | exact atom (k + 1) (k + 1) _ h hn rfl rfl | (simp [Gd] at h)
theorem same_ok {d : D} (h : Gd 7 d) : m__law_same [.v d, .v d] = .ok (.bl true) [.v d, .v d] := same_self 7 d h (by omega)

end DL

/-! Plain maths: what is a statement, a script (printed by split.py). -/
namespace DL
open PySem L2


def erD (p : Str × Int) : D := .tup [.str p.1, .int p.2]
def errZ (cs rows : List Int) (n there : Int) : List (Str × Int) := if n ∈ cs then (if getZ cs rows n = there then [] else [("astray", n)]) else (if there ∈ rows then [("caught", n)] else [])
def errF (cs : List Int) (e : Eff) : List (Str × Int) := e.2.1.zipIdx.flatMap fun p => errZ cs e.1 (p.2 : Nat) p.1
def clsF (e : Eff) : List (Str × Int) := if 0 ≤ e.2.2 then [("clash", e.2.2)] else []
def errL (cs : List Int) (e : Eff) : List D := isort leD' ((errF cs e).map erD) ++ (clsF e).map erD
def errD (cs : List Int) (e : Eff) : D := .lst (errL cs e)
/-! ### sorting -/
theorem toPs_ers : ∀ L : List (Str × Int), toPs (L.map erD) = some (L.map fun p => PyData.tuple [.str p.1, .int p.2])
  | [] => rfl
  | p :: L => by rw [List.map_cons, toPs, toPs_ers L]; rfl
theorem sort_ers (L : List (Str × Int)) : sortF [.lst (L.map erD)] = some (.lst (isort leD' (L.map erD))) := by
  have ok : sortOk (L.map fun p => PyData.tuple [PyData.str p.1, PyData.int p.2]) = true := by
    unfold sortOk
    simp only [List.all_map, Bool.and_eq_true, Bool.or_eq_true, List.all_eq_true]
    exact ⟨⟨fun x _ => List.all_eq_true.mpr fun y _ => rfl, .inl fun x _ => rfl⟩, fun x _ => rfl⟩
  simp only [sortF]
  by_cases h2 : (L.map erD).length < 2
  · rw [if_pos h2]
    match L, h2 with
    | [], _ => rfl
    | [_], _ => rfl
    | _ :: _ :: _, h2 => exact absurd h2 (by simp)
  · rw [if_neg h2, toPs_ers]
    simp only [ok, if_true]
theorem clash_last (i j : Int) (s : Str) (hs : s = "astray" ∨ s = "caught") : leD' (erD ("clash", i)) (erD (s, j)) = false := by
  unfold leD'
  rw [show pOf (erD (s, j)) = .tuple [.str s, .int j] from rfl, show pOf (erD ("clash", i)) = .tuple [.str "clash", .int i] from rfl, PySem.W.dataLt_pair rfl rfl]
  rcases hs with rfl | rfl
  · rw [if_neg (by decide), PySem.W.dataLt_str]; rfl
  · rw [if_neg (by decide), PySem.W.dataLt_str]; rfl
theorem errF_words {cs : List Int} {e : Eff} {p : Str × Int} (h : p ∈ errF cs e) : p.1 = "astray" ∨ p.1 = "caught" := by
  unfold errF at h
  obtain ⟨q, _, hq⟩ := List.mem_flatMap.mp h
  unfold errZ at hq
  split at hq
  · split at hq
    · simp at hq
    · rw [List.mem_singleton] at hq; rw [hq]; exact .inl rfl
  · split at hq
    · rw [List.mem_singleton] at hq; rw [hq]; exact .inr rfl
    · simp at hq
theorem sort_clash (cs : List Int) (e : Eff) : isort leD' ((clsF e ++ errF cs e).map erD) = errL cs e := by
  unfold clsF errL
  by_cases h : 0 ≤ e.2.2
  · rw [if_pos h]
    unfold clsF
    rw [if_pos h]
    show insD leD' (erD ("clash", e.2.2)) (isort leD' ((errF cs e).map erD)) = _
    have := insD_mid (le := leD') (x := erD ("clash", e.2.2)) (l1 := isort leD' ((errF cs e).map erD)) (l2 := []) (fun y hy => by
      obtain ⟨p, hp, rfl⟩ := List.mem_map.mp (mem_isort hy)
      exact clash_last _ _ _ (errF_words hp)) (by simp)
    rw [List.append_nil] at this
    exact this
  · rw [if_neg h]
    unfold clsF
    rw [if_neg h]
    simp
/-! ### the program -/
@[simp] theorem ev_dictZip {fa : EM (List D)} {ρ : Ro} : dictZipE fa ρ = (fa ρ).bind fun ds ρ1 => liftO (match ds with | [.tup xs, .tup ys] => zipF xs ys | [.lst xs, .lst ys] => zipF xs ys | _ => none) ρ1 := rfl
theorem keysD_ints : ∀ l : List Int, keysD (l.map D.int) = some (l.map Sum.inl)
  | [] => rfl
  | i :: l => by rw [List.map_cons, keysD, keysD_ints l]; rfl
theorem mergeZ_ints : ∀ (cs rows : List Int) (acc : List (Int × Int)), (acc.map (·.1) ++ cs).Nodup → mergeZ (acc.map kvD) (cs.map .int) (rows.map .int) = some ((acc ++ cs.zip rows).map kvD)
  | [], rows, acc, _ => by simp [mergeZ]
  | c :: cs, [], acc, _ => by simp [mergeZ]
  | c :: cs, r :: rows, acc, h => by
    have hp : putD (acc.map kvD) (.int c) (.inl c) (.int r) = (acc ++ [(c, r)]).map kvD := by
      unfold putD
      have : ((acc.map kvD).any fun q => decide (keyD q.1 = some (.inl c))) = false := by
        rw [List.any_map, List.any_eq_false]
        intro q hq
        simp only [Function.comp, kvD, key_int, Option.some.injEq, Sum.inl.injEq, decide_eq_true_eq]
        intro e
        rw [List.nodup_append] at h
        exact h.2.2 q.1 (List.mem_map.mpr ⟨q, hq, rfl⟩) c (by simp) e
      rw [if_neg (by rw [this]; simp), List.map_append]
      rfl
    rw [List.map_cons, List.map_cons]
    unfold mergeZ
    simp only [key_int]
    rw [hp]
    have := mergeZ_ints cs rows (acc ++ [(c, r)]) (by rw [List.map_append, List.append_assoc]; exact h)
    rw [this, List.append_assoc]
    rfl
theorem zip_dz (cs rows : List Int) (h : cs.Nodup) : zipF (cs.map .int) (rows.map .int) = some (dz cs rows) := by
  have := mergeZ_ints cs rows [] (by simpa using h)
  unfold zipF
  rw [keysD_ints]
  simp only
  rw [show ([] : List (D × D)) = ([] : List (Int × Int)).map kvD from rfl, this]
  rfl
theorem lookup_mem {cs rows : List Int} (hl : cs.length = rows.length) (n : Int) : ((cs.zip rows).lookup n).isSome = decide (n ∈ cs) := by
  induction cs generalizing rows with
  | nil => simp
  | cons c cs ih =>
    cases rows with
    | nil => simp at hl
    | cons r rows =>
      rw [List.zip_cons_cons, List.lookup_cons]
      by_cases h : n = c
      · subst h; simp
      · have : (n == c) = false := beq_eq_false_iff_ne.mpr h
        rw [this]
        simp only
        rw [ih (by simpa using hl)]
        simp [h]
theorem in_dz {cs rows : List Int} (hl : cs.length = rows.length) (n : Int) : inK (.int n) (dz cs rows) = some (.bl (decide (n ∈ cs))) := by
  show (keyD (.int n)).map (fun k => D.bl (valD ((cs.zip rows).map kvD) k).isSome) = _
  rw [key_int, Option.map_some, tab_val, Option.isSome_map, lookup_mem hl]
theorem in_rows (rows : List Int) (x : Int) : inD (.int x) (tupI' rows) = some (.bl (decide (x ∈ rows))) := by
  unfold inD
  have h1 : seqOf (tupI' rows) = some (rows.map .int) := rfl
  rw [h1]
  simp only
  have h2 : (rows.map D.int).all flatD = true := by rw [List.all_map]; exact List.all_eq_true.mpr fun _ _ => rfl
  rw [h2]
  have h3 : memF (.int x) (rows.map .int) = decide (x ∈ rows) := by
    unfold memF
    rw [List.any_map, Bool.eq_iff_iff, List.any_eq_true, decide_eq_true_eq]
    constructor
    · rintro ⟨y, hy, e⟩
      have : y = x := by
        have : (y == x) = true := e
        simpa using this
      exact this ▸ hy
    · intro h
      exact ⟨x, h, by show (x == x) = true; simp⟩
  rw [h3]
  rfl
def rfD (p : Int × Nat) : D := .prt [.int (p.2 : Nat), .int p.1]
theorem errs_loop (x1 x3 x4 : Sl) (cs rows : List Int) (hc : cs.Nodup) (hl : cs.length = rows.length) : ∀ (l : List (Int × Nat)) (acc : List (Str × Int)) (x7 x8 : Sl), notP x7 = true → notP x8 = true → acc.length + l.length ≤ 1000 →
    ∃ y7 y8, loopS (tupT 2 (consT (setT 7) (consT (setT 8) nilT))) (ifS (testE (bin2 inK (varE 7) (varE 5))) (ifS (testE (bin2 neD (bin2 ixD (varE 5) (varE 7)) (varE 8))) (appS 6 (tupE (consE (retE (.str "astray")) (consE (varE 7) (retE []))))) nextS) (ifS (testE (bin2 inD (varE 8) (varE 2))) (appS 6 (tupE (consE (retE (.str "caught")) (consE (varE 7) (retE []))))) nextS)) (l.map rfD)
      [.v (tupI' cs), x1, .v (tupI' rows), x3, x4, .v (dz cs rows), .o (.lst (acc.map erD)), x7, x8] = .ok .nx [.v (tupI' cs), x1, .v (tupI' rows), x3, x4, .v (dz cs rows), .o (.lst ((acc ++ l.flatMap fun p => errZ cs rows (p.2 : Nat) p.1).map erD)), y7, y8]
  | [], acc, x7, x8, _, _, _ => ⟨x7, x8, by simp; rfl⟩
  | (t, n) :: l, acc, x7, x8, h7, h8, hz => by
    have i1 := in_dz hl (n : Int)
    have i2 := in_rows rows t
    have i3 := fun (h : (n : Int) ∈ cs) => dz_at hc hl h
    have rest := fun acc' h => errs_loop x1 x3 x4 cs rows hc hl l acc' (.v (.int (n : Nat))) (.v (.int t)) rfl rfl h
    have hla : (acc.map erD).length ≤ 1000000 := by rw [List.length_map]; omega
    rw [List.length_cons] at hz
    generalize dz cs rows = dd at *
    rw [List.map_cons, loop_cons (ρ1 := [.v (tupI' cs), x1, .v (tupI' rows), x3, x4, .v dd, .o (.lst (acc.map erD)), .v (.int (n : Nat)), .v (.int t)]) (by simp [-ev_setT, ev_setTn, rfD, h7, h8]), show ((t, n) :: l).flatMap (fun p => errZ cs rows (p.2 : Nat) p.1) = errZ cs rows (n : Int) t ++ l.flatMap (fun p => errZ cs rows (p.2 : Nat) p.1) from List.flatMap_cons ..]
    have ez : errZ cs rows (n : Int) t = if (n : Int) ∈ cs then (if getZ cs rows n = t then [] else [(("astray" : Str), (n : Int))]) else (if t ∈ rows then [(("caught" : Str), (n : Int))] else []) := rfl
    rw [ez]
    by_cases c1 : (n : Int) ∈ cs
    · rw [decide_eq_true c1] at i1
      have i3' := i3 c1
      rw [if_pos c1]
      by_cases c2 : getZ cs rows n = t
      · rw [if_pos c2, List.nil_append]
        obtain ⟨y7, y8, e⟩ := rest acc (by omega)
        refine ⟨y7, y8, ?_⟩
        generalize (acc ++ l.flatMap fun p => errZ cs rows (p.2 : Nat) p.1).map erD = R at e ⊢
        simp [i1, i3', c2]
        exact e
      · rw [if_neg c2]
        obtain ⟨y7, y8, e⟩ := rest (acc ++ [(("astray" : Str), (n : Int))]) (by rw [List.length_append]; simp; omega)
        refine ⟨y7, y8, ?_⟩
        have hm : (acc ++ [(("astray" : Str), (n : Int))]).map erD = acc.map erD ++ [.tup [.str "astray", .int (n : Int)]] := by rw [List.map_append]; rfl
        rw [hm, List.append_assoc] at e
        generalize (acc ++ ([(("astray" : Str), (n : Int))] ++ l.flatMap fun p => errZ cs rows (p.2 : Nat) p.1)).map erD = R at e ⊢
        have hla' : acc.length ≤ 1000000 := by omega
        simp [i1, i3', c2, hla']
        exact e
    · rw [decide_eq_false c1] at i1
      rw [if_neg c1]
      by_cases c2 : t ∈ rows
      · rw [decide_eq_true c2] at i2
        rw [if_pos c2]
        obtain ⟨y7, y8, e⟩ := rest (acc ++ [(("caught" : Str), (n : Int))]) (by rw [List.length_append]; simp; omega)
        refine ⟨y7, y8, ?_⟩
        have hm : (acc ++ [(("caught" : Str), (n : Int))]).map erD = acc.map erD ++ [.tup [.str "caught", .int (n : Int)]] := by rw [List.map_append]; rfl
        rw [hm, List.append_assoc] at e
        generalize (acc ++ ([(("caught" : Str), (n : Int))] ++ l.flatMap fun p => errZ cs rows (p.2 : Nat) p.1)).map erD = R at e ⊢
        have hla' : acc.length ≤ 1000000 := by omega
        simp [i1, i2, hla']
        exact e
      · rw [decide_eq_false c2] at i2
        rw [if_neg c2, List.nil_append]
        obtain ⟨y7, y8, e⟩ := rest acc (by omega)
        refine ⟨y7, y8, ?_⟩
        generalize (acc ++ l.flatMap fun p => errZ cs rows (p.2 : Nat) p.1).map erD = R at e ⊢
        simp [i1, i2]
        exact e


theorem ne_of_eq {a b : D} {k : Bool} (h : eqD a b = some (.bl k)) : neD a b = some (.bl (!k)) := by
  unfold eqD at h
  unfold neD
  cases e : eqvD a b with
  | none => rw [e] at h; cases h
  | some q =>
    rw [e] at h
    have : D.bl q = D.bl k := Option.some.inj h
    rw [D.bl.inj this]
    rfl
theorem own_is : ∀ (cs rows : List Int) (n : Int), cs.Nodup → cs.length = rows.length → ((cs.zip rows).filter fun p => p.1 == n).map (·.2) = if n ∈ cs then [getZ cs rows n] else []
  | [], rows, n, _, _ => by simp
  | c :: cs, [], n, _, hl => by simp at hl
  | c :: cs, r :: rows, n, hc, hl => by
    rw [List.nodup_cons] at hc
    have ih := own_is cs rows n hc.2 (by simpa using hl)
    rw [List.zip_cons_cons]
    by_cases h : c = n
    · subst h
      rw [if_neg hc.1] at ih
      rw [List.filter_cons_of_pos (by simp), List.map_cons, ih, if_pos List.mem_cons_self]
      simp [getZ]
    · rw [List.filter_cons_of_neg (by simp [h]), ih]
      have h1 : (n ∈ c :: cs) ↔ n ∈ cs := by
        rw [List.mem_cons]
        exact ⟨fun q => q.resolve_left fun e => h e.symm, .inr⟩
      have h2 : getZ (c :: cs) (r :: rows) n = getZ cs rows n := by
        unfold getZ
        rw [List.zip_cons_cons, List.lookup_cons]
        have : (n == c) = false := beq_eq_false_iff_ne.mpr fun e => h e.symm
        rw [this]
      simp only [h1, h2]
theorem own_lc (x1 x3 x4 : Sl) (x5 : Sl) (cs rows : List Int) (hc : cs.Nodup) (hl : cs.length = rows.length) (hz : cs.length ≤ 1000) (n : Int) (there : D) (x8 : Sl) :
    lcE [9, 10] (zipI (consE (varE 0) (consE (varE 2) (retE [])))) (tupT 2 (consT (setT 9) (consT (setT 10) nilT))) (testE (bin2 eqD (varE 9) (varE 6))) (varE 10)
      [.v (tupI' cs), x1, .v (tupI' rows), x3, x4, x5, .v (.int n), .v there, x8, .u, .u] = .ok (.lst ((if n ∈ cs then [getZ cs rows n] else []).map .int)) [.v (tupI' cs), x1, .v (tupI' rows), x3, x4, x5, .v (.int n), .v there, x8, .u, .u] := by
  have zi : zipD (cs.map .int) (rows.map .int) = (cs.zip rows).map fun p => .prt [.int p.1, .int p.2] := zip_ints cs rows
  have e := lcE_filter (vs := [9, 10]) (fi := zipI (consE (varE 0) (consE (varE 2) (retE [])))) (g := tupT 2 (consT (setT 9) (consT (setT 10) nilT))) (ft := testE (bin2 eqD (varE 9) (varE 6))) (fe := varE 10) (ρ := [.v (tupI' cs), x1, .v (tupI' rows), x3, x4, x5, .v (.int n), .v there, x8, .u, .u]) (ds := (cs.zip rows).map fun p => .prt [.int p.1, .int p.2])
    (fun d => match d with | .prt [.int k, _] => k == n | _ => false) (fun d => match d with | .prt [_, v] => v | _ => .non)
    (by simp [tupI', zi]) (by simp) (by simp; omega) (fun d hd => by
      obtain ⟨q, _, rfl⟩ := List.mem_map.mp hd
      exact ⟨[.v (tupI' cs), x1, .v (tupI' rows), x3, x4, x5, .v (.int n), .v there, x8, .v (.int q.1), .v (.int q.2)], [.v (tupI' cs), x1, .v (tupI' rows), x3, x4, x5, .v (.int n), .v there, x8, .v (.int q.1), .v (.int q.2)], by simp, by simp, by simp, fun _ => ⟨[.v (tupI' cs), x1, .v (tupI' rows), x3, x4, x5, .v (.int n), .v there, x8, .v (.int q.1), .v (.int q.2)], by simp, by simp⟩⟩)
  have e2 : (((cs.zip rows).map fun p => D.prt [.int p.1, .int p.2]).filter fun d => match d with | .prt [.int k, _] => k == n | _ => false).map (fun d => match d with | .prt [_, v] => v | _ => .non) = (((cs.zip rows).filter fun p => p.1 == n).map (·.2)).map D.int := by
    rw [List.filter_map, List.map_map, List.map_map]
    rfl
  rw [e2, own_is cs rows n hc hl] at e
  exact e
theorem law_errs_loop (x1 x3 x4 : Sl) (cs rows : List Int) (hc : cs.Nodup) (hl : cs.length = rows.length) (hcz : cs.length ≤ 1000) : ∀ (l : List (Int × Nat)) (acc : List (Str × Int)) (x6 x7 x8 : Sl), notP x6 = true → notP x7 = true → notP x8 = true → acc.length + l.length ≤ 1000 →
    ∃ y6 y7 y8, loopS (tupT 2 (consT (setT 6) (consT (setT 7) nilT))) (seqS (asgS (lcE [9, 10] (zipI (consE (varE 0) (consE (varE 2) (retE [])))) (tupT 2 (consT (setT 9) (consT (setT 10) nilT))) (testE (bin2 eqD (varE 9) (varE 6))) (varE 10)) (setT 8)) (seqS (ifS (andT (testE (bin2 neD (varE 8) (lstE (retE [])))) (testE (bin2 neD (varE 8) (lstE (consE (varE 7) (retE [])))))) (appS 5 (tupE (consE (retE (.str "astray")) (consE (varE 6) (retE []))))) nextS) (ifS (andT (testE (bin2 eqD (varE 8) (lstE (retE [])))) (testE (bin2 inD (varE 7) (varE 2)))) (appS 5 (tupE (consE (retE (.str "caught")) (consE (varE 6) (retE []))))) nextS))) (l.map rfD)
      [.v (tupI' cs), x1, .v (tupI' rows), x3, x4, .o (.lst (acc.map erD)), x6, x7, x8, .u, .u] = .ok .nx [.v (tupI' cs), x1, .v (tupI' rows), x3, x4, .o (.lst ((acc ++ l.flatMap fun p => errZ cs rows (p.2 : Nat) p.1).map erD)), y6, y7, y8, .u, .u]
  | [], acc, x6, x7, x8, _, _, _, _ => ⟨x6, x7, x8, by simp; rfl⟩
  | (t, n) :: l, acc, x6, x7, x8, h6, h7, h8, hz => by
    have ow := own_lc x1 x3 x4 (.o (.lst (acc.map erD))) cs rows hc hl hcz (n : Int) (.int t) x8
    have i2 := in_rows rows t
    have rest := fun acc' z8 n8 h => law_errs_loop x1 x3 x4 cs rows hc hl hcz l acc' (.v (.int (n : Nat))) (.v (.int t)) z8 rfl rfl n8 h
    rw [List.length_cons] at hz
    have hla' : acc.length ≤ 1000000 := by omega
    rw [List.map_cons, loop_cons (ρ1 := [.v (tupI' cs), x1, .v (tupI' rows), x3, x4, .o (.lst (acc.map erD)), .v (.int (n : Nat)), .v (.int t), x8, .u, .u]) (by simp [-ev_setT, ev_setTn, rfD, h6, h7]), show ((t, n) :: l).flatMap (fun p => errZ cs rows (p.2 : Nat) p.1) = errZ cs rows (n : Int) t ++ l.flatMap (fun p => errZ cs rows (p.2 : Nat) p.1) from List.flatMap_cons ..]
    have ez : errZ cs rows (n : Int) t = if (n : Int) ∈ cs then (if getZ cs rows n = t then [] else [(("astray" : Str), (n : Int))]) else (if t ∈ rows then [(("caught" : Str), (n : Int))] else []) := rfl
    rw [ez]
    by_cases c1 : (n : Int) ∈ cs
    · rw [if_pos c1] at ow ⊢
      have n1 : neD (.lst [.int (getZ cs rows n)]) (.lst []) = some (.bl true) := ne_nil [getZ cs rows n]
      have n2 : eqD (.lst [.int (getZ cs rows n)]) (.lst []) = some (.bl false) := eq_ints [getZ cs rows n] []
      have n3 : neD (.lst [.int (getZ cs rows n)]) (.lst [.int t]) = some (.bl (!decide (getZ cs rows n = t))) := by
        have := ne_of_eq (eq_ints [getZ cs rows n] [t])
        simpa using this
      rw [List.map_cons, List.map_nil] at ow
      by_cases c2 : getZ cs rows n = t
      · rw [if_pos c2, List.nil_append]
        rw [decide_eq_true c2] at n3
        obtain ⟨y6, y7, y8, e⟩ := rest acc (.v (.lst [.int (getZ cs rows n)])) rfl (by omega)
        refine ⟨y6, y7, y8, ?_⟩
        generalize (acc ++ l.flatMap fun p => errZ cs rows (p.2 : Nat) p.1).map erD = R at e ⊢
        simp [-ev_setT, ev_setTn, h8]
        rw [ow]
        simp [-ev_setT, ev_setTn, h8, n1, n2, n3]
        exact e
      · rw [if_neg c2]
        rw [decide_eq_false c2] at n3
        obtain ⟨y6, y7, y8, e⟩ := rest (acc ++ [(("astray" : Str), (n : Int))]) (.v (.lst [.int (getZ cs rows n)])) rfl (by rw [List.length_append]; simp; omega)
        refine ⟨y6, y7, y8, ?_⟩
        have hm : (acc ++ [(("astray" : Str), (n : Int))]).map erD = acc.map erD ++ [.tup [.str "astray", .int (n : Int)]] := by rw [List.map_append]; rfl
        rw [hm, List.append_assoc] at e
        generalize (acc ++ ([(("astray" : Str), (n : Int))] ++ l.flatMap fun p => errZ cs rows (p.2 : Nat) p.1)).map erD = R at e ⊢
        simp [-ev_setT, ev_setTn, h8]
        rw [ow]
        simp [-ev_setT, ev_setTn, h8, n1, n2, n3, hla']
        exact e
    · rw [if_neg c1] at ow ⊢
      have n1 : neD (.lst []) (.lst []) = some (.bl false) := rfl
      have n2 : eqD (.lst []) (.lst []) = some (.bl true) := rfl
      rw [List.map_nil] at ow
      by_cases c2 : t ∈ rows
      · rw [decide_eq_true c2] at i2
        rw [if_pos c2]
        obtain ⟨y6, y7, y8, e⟩ := rest (acc ++ [(("caught" : Str), (n : Int))]) (.v (.lst [])) rfl (by rw [List.length_append]; simp; omega)
        refine ⟨y6, y7, y8, ?_⟩
        have hm : (acc ++ [(("caught" : Str), (n : Int))]).map erD = acc.map erD ++ [.tup [.str "caught", .int (n : Int)]] := by rw [List.map_append]; rfl
        rw [hm, List.append_assoc] at e
        generalize (acc ++ ([(("caught" : Str), (n : Int))] ++ l.flatMap fun p => errZ cs rows (p.2 : Nat) p.1)).map erD = R at e ⊢
        simp [-ev_setT, ev_setTn, h8]
        rw [ow]
        simp [-ev_setT, ev_setTn, h8, n1, n2, i2, hla']
        exact e
      · rw [decide_eq_false c2] at i2
        rw [if_neg c2, List.nil_append]
        obtain ⟨y6, y7, y8, e⟩ := rest acc (.v (.lst [])) rfl (by omega)
        refine ⟨y6, y7, y8, ?_⟩
        generalize (acc ++ l.flatMap fun p => errZ cs rows (p.2 : Nat) p.1).map erD = R at e ⊢
        simp [-ev_setT, ev_setTn, h8]
        rw [ow]
        simp [-ev_setT, ev_setTn, h8, n1, n2, i2]
        exact e
theorem law_errors_is (cs : List Int) (e : Eff) (hc : cs.Nodup) (hl : cs.length = e.1.length) (hcz : cs.length ≤ 900) (hz : e.2.1.length ≤ 900) (hk : -1 ≤ e.2.2) : m__law_errors [.v (tupI' cs), .v (effD e)] = .ok (errD cs e) [.v (tupI' cs), .v (effD e)] := by
  obtain ⟨rows, refs, k⟩ := e
  simp only at hl hz hk
  have em : enumD (refs.map .int) = refs.zipIdx.map rfD := enum_ints refs
  have sr := sort_ers (errF cs (rows, refs, k))
  obtain ⟨y6, y7, y8, e⟩ := law_errs_loop (.v (effD (rows, refs, k))) (.v (tupI' refs)) (.v (.int k)) cs rows hc hl (by omega) refs.zipIdx [] .u .u .u rfl rfl rfl (by rw [List.length_zipIdx]; simp; omega)
  have hf : (refs.zipIdx.flatMap fun p => errZ cs rows (p.2 : Nat) p.1) = errF cs (rows, refs, k) := rfl
  rw [hf, List.nil_append, List.map_nil] at e
  have sq : enumA (consE (varE 3) (retE [])) [.v (tupI' cs), .v (effD (rows, refs, k)), .v (tupI' rows), .v (tupI' refs), .v (.int k), .o (.lst []), .u, .u, .u, .u, .u] = .ok (refs.zipIdx.map rfD) [.v (tupI' cs), .v (effD (rows, refs, k)), .v (tupI' rows), .v (tupI' refs), .v (.int k), .o (.lst []), .u, .u, .u, .u, .u] := by
    simp [tupI', em]
  have tt : tupT 3 (consT (setT 2) (consT (setT 3) (consT (setT 4) nilT))) (effD (rows, refs, k)) [.v (tupI' cs), .v (effD (rows, refs, k)), .u, .u, .u, .u, .u, .u, .u, .u, .u] = some [.v (tupI' cs), .v (effD (rows, refs, k)), .v (tupI' rows), .v (tupI' refs), .v (.int k), .u, .u, .u, .u, .u, .u] := by
    simp [effD]
  have hlen : (isort leD' ((errF cs (rows, refs, k)).map erD)).length ≤ 900000 := by
    have ln : ∀ l : List D, (isort leD' l).length = l.length := by
      intro l
      induction l with
      | nil => rfl
      | cons a l ih =>
        have ins : ∀ m : List D, (insD leD' a m).length = m.length + 1 := by
          intro m
          induction m with
          | nil => rfl
          | cons c m ih => unfold insD; split <;> simp [ih]
        show (insD leD' a (isort leD' l)).length = _
        rw [ins, ih]; rfl
    rw [ln, List.length_map]
    unfold errF
    have key : ∀ l : List (Int × Nat), (l.flatMap fun p => errZ cs rows (p.2 : Nat) p.1).length ≤ l.length := by
      intro l
      induction l with
      | nil => simp
      | cons p l ih =>
        rw [List.flatMap_cons, List.length_append, List.length_cons]
        have : (errZ cs rows (p.2 : Nat) p.1).length ≤ 1 := by unfold errZ; split <;> split <;> simp
        omega
    have := key refs.zipIdx
    rw [List.length_zipIdx] at this
    show (refs.zipIdx.flatMap fun p => errZ cs rows (p.2 : Nat) p.1).length ≤ _
    omega
  have fin : ∃ x : D, intF [.bl (decide (-1 < k))] = some x ∧ mulD (.lst [.tup [.str "clash", .int k]]) x = some (.lst ((clsF (rows, refs, k)).map erD)) := by
    unfold clsF
    by_cases h : 0 ≤ k
    · rw [if_pos h, decide_eq_true (show -1 < k by omega)]
      exact ⟨.int 1, rfl, rfl⟩
    · rw [if_neg h, decide_eq_false (show ¬ -1 < k by omega)]
      exact ⟨.int 0, rfl, rfl⟩
  obtain ⟨x, f1, f2⟩ := fin
  have hcl : ((clsF (rows, refs, k)).map erD).length ≤ 1 := by unfold clsF; split <;> simp
  have ad : addD (.lst (isort leD' ((errF cs (rows, refs, k)).map erD))) (.lst ((clsF (rows, refs, k)).map erD)) = some (errD cs (rows, refs, k)) := by
    rw [op_al, if_pos (by omega)]
    rfl
  unfold m__law_errors b__law_errors
  generalize effD (rows, refs, k) = ed at *
  generalize errD cs (rows, refs, k) = er at *
  generalize (clsF (rows, refs, k)).map erD = C at *
  generalize isort leD' ((errF cs (rows, refs, k)).map erD) = S at *
  generalize (errF cs (rows, refs, k)).map erD = F at *
  simp [-ev_forS, tt]
  simp only [ev_forS, sq, ev_okb]
  rw [e]
  simp [sr, f1, f2, ad]

end DL

/-! Moves: drawn, looked at. -/
namespace DL
open PySem L2

@[simp] theorem ev_parNN {i j : Nat} {fa fb : EM D} {ρ : Ro} : parNNS i j fa fb ρ = (fa ρ).bind fun d ρ1 => (fb ρ1).bind fun e ρ2 => match ρ2[i]? with
  | none => .bad
  | some (.p _) => .bad
  | some _ => match (ρ2.set i (.o d))[j]? with
    | none => .bad
    | some (.p _) => .bad
    | some _ => .ok .nx ((ρ2.set i (.o d)).set j (.o e)) := rfl
def okMv (b : Int) (t : List (Int × Int)) : Prop := incr t ∧ (∀ p ∈ t, inB b p) ∧ (t.map (·.2)).Nodup
theorem rg_pw (b : Int) : (rgZ b).Pairwise (· < ·) := by
  unfold rgZ
  rw [List.pairwise_map]
  exact List.pairwise_lt_range.imp (fun h => by omega)
theorem rg_nodup (b : Int) : (rgZ b).Nodup := (rg_pw b).imp (fun h => by omega)
theorem nodup_on {α β : Type} {f : α → β} {l : List α} (h : l.Nodup) (hf : ∀ x ∈ l, ∀ y ∈ l, f x = f y → x = y) : (l.map f).Nodup := by
  rw [List.nodup_iff_pairwise_ne, List.pairwise_map]
  exact (List.nodup_iff_pairwise_ne.mp h).imp_of_mem fun ha hb hne e => hne (hf _ ha _ hb e)
theorem perm_erase {α : Type} : ∀ {l : List α} {i : Nat} (h : i < l.length), (l[i] :: l.eraseIdx i).Perm l
  | x :: l, 0, _ => List.Perm.refl _
  | x :: l, i + 1, h => by
    have h' : i < l.length := by simpa using h
    rw [List.eraseIdx_cons_succ, List.getElem_cons_succ]
    exact (List.Perm.swap x l[i] (l.eraseIdx i)).trans ((perm_erase h').cons x)
theorem rg_mem {b i : Int} : i ∈ rgZ b ↔ 0 ≤ i ∧ i < b := by
  unfold rgZ
  rw [List.mem_map]
  constructor
  · rintro ⟨k, hk, rfl⟩
    have := List.mem_range.mp hk
    omega
  · intro h
    exact ⟨i.toNat, List.mem_range.mpr (by omega), by omega⟩
theorem rg_length (b : Int) : (rgZ b).length = b.toNat := by unfold rgZ; simp
theorem pop_perm {l : List Int} {i : Int} (h : 0 ≤ i) (h2 : i < l.length) (h3 : i ≤ 1000000) : ∃ k l', (k :: l').Perm l ∧ popF (l.map D.int) (.int i) = some (.int k, l'.map D.int) := by
  have hlt : i.toNat < l.length := by omega
  refine ⟨l[i.toNat], l.eraseIdx i.toNat, perm_erase hlt, ?_⟩
  unfold popF
  simp only
  rw [if_pos (by simp; omega), List.getElem?_map, List.getElem?_eq_getElem hlt]
  simp [erase_map]
theorem moves_ok (b : Int) (hb : 0 < b) (hb2 : b ≤ 10) : Draws m__law_moves [.int b] (2 * b) fun r => ∃ t, r = prsD t ∧ okMv b t := fun w h3 h4 => by
  have sm : smallI b = true := by unfold smallI; simp; omega
  have r1 : rg1 (.int b) = some ((rgZ b).map .int) := by
    show (if smallI b then some (rngD 0 b.toNat) else none) = _
    rw [sm, if_pos rfl, rg_ints]
  obtain ⟨ρ', e, w', nw, l, x4, rfl, n4, q1, q2, q3, q4, c1, c2⟩ := for_inv (fi := rng1I (consE (varE 1) (retE []))) (g := setT 4) (f := ifS (testE (bin2 gtD (callE m__law_take (argS 0 (argV (retE (.int 4)) (retE [])))) (retE (.int 0)))) (appS 3 (tupE (consE (varE 4) (consE (popO 2 (callE m__law_take (argS 0 (argV (lenO 2) (retE []))))) (retE []))))) nextS)
    (ρ0 := [.p w.d, .v (.int b), .o (.lst ((rgZ b).map .int)), .o (.lst []), .u]) (ρ := [.p w.d, .v (.int b), .o (.lst ((rgZ b).map .int)), .o (.lst []), .u]) (ds := rngD 0 b.toNat)
    (fun i ρ => ∃ (w' : Bag) (nw : List Int) (l : List (Int × Int)) (x4 : Sl), ρ = [.p w'.d, .v (.int b), .o (.lst (nw.map .int)), .o (.lst (l.map prD)), x4] ∧ notP x4 = true ∧ incr l ∧ (∀ p ∈ l, 0 ≤ p.1 ∧ p.1 < i) ∧ (l.map (·.2) ++ nw).Perm (rgZ b) ∧ l.length ≤ i ∧ w.c ≤ w'.c ∧ w'.c ≤ w.c + 2 * i)
    (by simp [sm]) ⟨w, rgZ b, [], .u, rfl, rfl, .nil, by simp, by simp, by simp, by omega, by omega⟩ (fun j d ρ hj ⟨w', nw, l, x4, eρ, n4, q1, q2, q3, q4, c1, c2⟩ => by
      subst eρ
      obtain ⟨rfl, hj2⟩ := rng_get hj
      rw [Int.zero_add]
      obtain ⟨_, w2, f2, ⟨t, rfl, t1, t2⟩, c3, c4⟩ := take_ok 4 (by omega) (by omega) w' (by omega) (by omega)
      simp only [List.map_cons, List.map_nil] at f2
      refine ⟨[.p w'.d, .v (.int b), .o (.lst (nw.map .int)), .o (.lst (l.map prD)), .v (.int (j : Nat))], ?_⟩
      by_cases ht : 0 < t
      · have hlen := q3.length_eq
        rw [List.length_append, List.length_map, rg_length] at hlen
        have hpos : 0 < nw.length := by omega
        obtain ⟨_, w3, f3, ⟨u, rfl, u1, u2⟩, c5, c6⟩ := take_ok nw.length (by omega) (by omega) w2 (by omega) (by omega)
        simp only [List.map_cons, List.map_nil] at f3
        obtain ⟨k, nw', p1, p2⟩ := pop_perm u1 u2 (by omega)
        have hL : l.length ≤ 1000000 := by omega
        refine ⟨[.p w3.d, .v (.int b), .o (.lst (nw'.map .int)), .o (.lst ((l ++ [((j : Int), k)]).map prD)), .v (.int (j : Nat))], by simp [-ev_setT, ev_setTn, n4], by simp [f2, f3, ht, p2, prD, hL], w3, nw', _, _, rfl, rfl, ?_, ?_, ?_, ?_, by omega, by push_cast; omega⟩
        · unfold incr
          rw [List.map_append, List.pairwise_append]
          refine ⟨q1, by simp, fun a ha c hc => ?_⟩
          obtain ⟨p, hp, rfl⟩ := List.mem_map.mp ha
          have := q2 p hp
          simp at hc
          omega
        · intro p hp
          rcases List.mem_append.mp hp with hp | hp
          · have := q2 p hp; omega
          · rw [List.mem_singleton.mp hp]; simp only; omega
        · rw [List.map_append, List.append_assoc]
          exact ((List.Perm.append_left _ p1)).trans q3
        · rw [List.length_append]; simp; omega
      · refine ⟨[.p w2.d, .v (.int b), .o (.lst (nw.map .int)), .o (.lst (l.map prD)), .v (.int (j : Nat))], by simp [-ev_setT, ev_setTn, n4], by simp [f2, ht], w2, nw, l, _, rfl, rfl, q1, fun p hp => by have := q2 p hp; omega, q3, by omega, by omega, by push_cast; omega⟩)
  rw [rng_len] at q2 q4 c2
  have nd : (l.map (·.2)).Nodup := (List.nodup_append.mp (q3.nodup_iff.mpr (rg_nodup b))).1
  refine ⟨prsD l, w', ?_, ⟨l, rfl, q1, fun p hp => ?_, nd⟩, by omega, by omega⟩
  · unfold m__law_moves b__law_moves
    simp [-ev_forS, r1]
    rw [e]
    simp [prsD]
  · have h1 := q2 p hp
    have h2 : p.2 ∈ rgZ b := q3.mem_iff.mp (List.mem_append_left _ (List.mem_map_of_mem hp))
    have h3 := rg_mem.mp h2
    exact ⟨h1.1, by omega, h3.1, h3.2⟩
end DL

/-! Moves: looked at; whether a script does them. -/
namespace DL
open PySem L2

theorem mv_len {b : Int} {t : List (Int × Int)} (h : okMv b t) (hb : 0 ≤ b) : (t.length : Int) ≤ b := by
  have hi : (t.map (·.1)).Pairwise (· < ·) := h.1
  have := rise_len (t.map (·.1)) 0 b hi fun i hi => by
    obtain ⟨p, hp, rfl⟩ := List.mem_map.mp hi
    have := h.2.1 p hp
    exact ⟨this.1, this.2.1⟩
  rw [List.length_map] at this
  omega
theorem gd_prs {t : List (Int × Int)} (h : t.length ≤ 40) (n : Nat) : Gd (n + 2) (prsD t) := by
  refine ⟨by simpa using h, fun x hx => ?_⟩
  obtain ⟨p, _, rfl⟩ := List.mem_map.mp hx
  refine ⟨by simp, fun y hy => ?_⟩
  simp only [List.mem_cons, List.not_mem_nil, or_false] at hy
  rcases hy with rfl | rfl <;> cases n <;> trivial
def snd0 (d : D) : Int := match d with
  | .tup [_, .int i] => i
  | _ => 0
theorem lc_snds (l : List (Int × Int)) (b : Int) (hl : l.length ≤ 1000) : lcE [2] (seqI (varE 1)) (setT 2) yesT (bin2 ixD (varE 2) (retE (.int 1))) [.v (.int b), .v (prsD l), .u] = .ok (.lst ((l.map (·.2)).map .int)) [.v (.int b), .v (prsD l), .u] := by
  have := lcE_map (vs := [2]) (fi := seqI (varE 1)) (g := setT 2) (ft := yesT) (fe := bin2 ixD (varE 2) (retE (.int 1))) (ρ := [.v (.int b), .v (prsD l), .u]) (ds := l.map prD) (fun d => .int (snd0 d)) (by simp [prsD]) (by simp) (by simp; omega) (fun x hx => by
    obtain ⟨p, _, rfl⟩ := List.mem_map.mp hx
    exact ⟨[.v (.int b), .v (prsD l), .v (prD p)], [.v (.int b), .v (prsD l), .v (prD p)], [.v (.int b), .v (prsD l), .v (prD p)], by simp, by simp, by simp [prD, atI, ixN, snd0], by simp⟩)
  rw [this, List.map_map, List.map_map]
  rfl
theorem sortU_len {l : List Int} (h : l.Nodup) : (sortU l).length = l.length :=
  ((List.perm_ext_iff_of_nodup (sortU_nodup l) h).mpr fun k => mem_sortU).length_eq
theorem are_moves_is (b : Int) (hb : 0 ≤ b) (hb2 : b ≤ 30) {t : List (Int × Int)} (h : okMv b t) : m_are_moves [.v (.int b), .v (prsD t)] = .ok (.bl true) [.v (.int b), .v (prsD t)] := by
  have hl := mv_len h hb
  have g := gd_prs (t := t) (by omega) 1
  have e1 := lc_pairs (ds := t.map prD) g b
  have e2 := lc_firsts t b (by omega)
  have e3 := lc_snds t b (by omega)
  have e4 := rises_is (t.map (·.1)) _ (.inl rfl) (by rw [List.length_map]; omega)
  have hi : (t.map (·.1)).Pairwise (· < ·) := h.1
  rw [(risesB_iff (t.map (·.1))).mpr hi] at e4
  have ha : (t.map prD).all (pairB b) = true := List.all_eq_true.mpr fun x hx => by
    obtain ⟨q, hq, rfl⟩ := List.mem_map.mp hx
    exact pairB_pr (h.2.1 q hq)
  have e5 := all_map (pairB b) (t.map prD)
  rw [ha] at e5
  have i1 : isiF [prsD t, .ty "tuple"] = some (.bl true) := rfl
  have ln : lenF [prsD t] = some (.int (t.length : Int)) := by unfold prsD; simp
  have hs := sortU_len h.2.2
  rw [List.length_map] at hs
  have hz : t.length < 4000 := by omega
  have ng : ¬ b < (t.length : Int) := by omega
  have si := si_lst (t.map (·.2))
  have pe : D.tup (t.map prD) = prsD t := rfl
  rw [pe] at e1
  unfold m_are_moves b_are_moves
  generalize (t.map prD).map (fun x => D.bl (pairB b x)) = M1 at *
  generalize D.lst ((t.map (·.1)).map .int) = M2 at *
  generalize D.lst ((t.map (·.2)).map .int) = M3 at *
  generalize prsD t = P at *
  simp [i1, ln, ng]
  rw [e1]
  simp [e5]
  rw [e2]
  simp [e4]
  rw [e3]
  simp [si, hz, hs, ln]
theorem look_moves (b : Int) (hb : 0 ≤ b) (hb2 : b ≤ 30) {t : List (Int × Int)} (h : okMv b t) : m_look_at_moves [.v (.int b), .v (prsD t)] = .ok .non [.v (.int b), .v (prsD t)] := by
  have e := are_moves_is b hb hb2 h
  unfold m_look_at_moves b_look_at_moves
  simp [e]
theorem eq_tupI (l m : List Int) : eqD (tupI' l) (tupI' m) = some (.bl (decide (l = m))) := by
  have tp : ∀ l : List Int, toP (tupI' l) = some (.tuple (l.map PyData.int)) := fun l => by
    unfold tupI'
    rw [toP, toPs_ints]; rfl
  have sh : ∀ l : List Int, PySem.SeqAt.shaped (.tuple (l.map PyData.int)) = true := fun l => by
    unfold PySem.SeqAt.shaped
    rw [PyData.canLay0, lay_ints, PyData.depth, dep_ints]; rfl
  unfold eqD eqvD
  rw [tp, tp]
  simp only [sh]
  rw [PyData.eqv, eqv_ints]
  rfl
def refA (refs : List Int) (i : Int) : Int := refs.getD i.toNat 0
theorem ref_at (refs : List Int) {i : Int} (h : 0 ≤ i) (h2 : i < refs.length) : ixD (tupI' refs) (.int i) = some (.int (refA refs i)) := by
  obtain ⟨k, rfl⟩ := Int.eq_ofNat_of_zero_le h
  have hk : k < refs.length := by omega
  show atI (refs.map D.int) (k : Int) = _
  rw [at_nat, List.getElem?_map, List.getElem?_eq_getElem hk]
  unfold refA
  simp [List.getD_eq_getElem?_getD, List.getElem?_eq_getElem hk]
def doesB (b : Int) (l : List Stm) (t : List (Int × Int)) : Bool :=
  decide ((effP b l (t.map (·.1))).2.2 < 0) && decide ((effP b l (t.map (·.1))).1 = t.map (·.2)) && t.all fun p => refA (effP b l (t.map (·.1))).2.1 p.1 == p.2
abbrev mvT : D → Ro → Option Ro := tupT 2 (consT (setT 6) (consT (setT 7) nilT))
theorem mv_firsts (t : List (Int × Int)) (hl : t.length ≤ 1000) (x0 x1 x3 x4 x5 : Sl) : lcE [6, 7] (seqI (varE 2)) mvT yesT (varE 6) [x0, x1, .v (prsD t), x3, x4, x5, .u, .u] = .ok (.lst ((t.map (·.1)).map .int)) [x0, x1, .v (prsD t), x3, x4, x5, .u, .u] := by
  have := lcE_map (vs := [6, 7]) (fi := seqI (varE 2)) (g := mvT) (ft := yesT) (fe := varE 6) (ρ := [x0, x1, .v (prsD t), x3, x4, x5, .u, .u]) (ds := t.map prD) (fun d => .int (fst0 d)) (by simp [prsD]) (by simp) (by simp; omega) (fun x hx => by
    obtain ⟨p, _, rfl⟩ := List.mem_map.mp hx
    exact ⟨[x0, x1, .v (prsD t), x3, x4, x5, .v (.int p.1), .v (.int p.2)], [x0, x1, .v (prsD t), x3, x4, x5, .v (.int p.1), .v (.int p.2)], [x0, x1, .v (prsD t), x3, x4, x5, .v (.int p.1), .v (.int p.2)], by simp [prD], by simp, by simp [prD, fst0], by simp⟩)
  rw [this, List.map_map, List.map_map]
  rfl
theorem mv_snds (t : List (Int × Int)) (hl : t.length ≤ 1000) (x0 x1 x3 x4 x5 : Sl) : lcE [6, 7] (seqI (varE 2)) mvT yesT (varE 7) [x0, x1, .v (prsD t), x3, x4, x5, .u, .u] = .ok (.lst ((t.map (·.2)).map .int)) [x0, x1, .v (prsD t), x3, x4, x5, .u, .u] := by
  have := lcE_map (vs := [6, 7]) (fi := seqI (varE 2)) (g := mvT) (ft := yesT) (fe := varE 7) (ρ := [x0, x1, .v (prsD t), x3, x4, x5, .u, .u]) (ds := t.map prD) (fun d => .int (snd0 d)) (by simp [prsD]) (by simp) (by simp; omega) (fun x hx => by
    obtain ⟨p, _, rfl⟩ := List.mem_map.mp hx
    exact ⟨[x0, x1, .v (prsD t), x3, x4, x5, .v (.int p.1), .v (.int p.2)], [x0, x1, .v (prsD t), x3, x4, x5, .v (.int p.1), .v (.int p.2)], [x0, x1, .v (prsD t), x3, x4, x5, .v (.int p.1), .v (.int p.2)], by simp [prD], by simp, by simp [prD, snd0], by simp⟩)
  rw [this, List.map_map, List.map_map]
  rfl
theorem does_is (b : Int) (hb : 2 ≤ b) (hb2 : b ≤ 5) (l : List Stm) (hl : okSc b 8 l) {t : List (Int × Int)} (h : okMv b t) : m_does [.v (.int b), .v (scD l), .v (prsD t)] = .ok (.bl (doesB b l t)) [.v (.int b), .v (scD l), .v (prsD t)] := by
  have hn : (t.map (·.1)).Nodup := List.Pairwise.imp (fun h => by omega) (show (t.map (·.1)).Pairwise (· < ·) from h.1)
  have hlen := mv_len h (by omega)
  have e1 := look_ok hl (by omega) hb hb2
  have e2 := look_moves b (by omega) (by omega) h
  have e3 := effect_of_is b (by omega) hb2 l hl.2 (t.map (·.1)) (by rw [List.length_map]; omega) hn
  obtain ⟨k1, k2, k3, k4⟩ := doneP_keep b l.zipIdx (t.map (·.1)) (rgZ b) hn
  have f1 := fun x0 x1 x3 x4 x5 => mv_firsts t (by omega) x0 x1 x3 x4 x5
  have f2 := fun x0 x1 x3 x4 x5 => mv_snds t (by omega) x0 x1 x3 x4 x5
  have tf : ∀ m : List Int, tupF [.lst (m.map .int)] = some (tupI' m) := fun m => by unfold tupI'; simp
  have ne := fun m => ne_of_eq (eq_tupI (effP b l (t.map (·.1))).1 m)
  have hb' := fun p hp => h.2.1 p hp
  have hr : (effP b l (t.map (·.1))).2.1.length = b.toNat := by
    have : (effP b l (t.map (·.1))).2.1.length = (rgZ b).length := k3
    rw [this, rg_length]
  have lc := fun x0 x1 x3 x5 => lcE_map (vs := [6, 7]) (fi := seqI (varE 2)) (g := mvT) (ft := yesT) (fe := bin2 eqD (bin2 ixD (varE 4) (varE 6)) (varE 7)) (ρ := [x0, x1, .v (prsD t), x3, .v (tupI' (effP b l (t.map (·.1))).2.1), x5, .u, .u]) (ds := t.map prD)
    (fun d => .bl (refA (effP b l (t.map (·.1))).2.1 (fst0 d) == snd0 d)) (by simp [prsD]) (by simp) (by simp; omega) (fun x hx => by
      obtain ⟨p, hp, rfl⟩ := List.mem_map.mp hx
      have hin := hb' p hp
      have ra := ref_at (effP b l (t.map (·.1))).2.1 hin.1 (by rw [hr]; have := hin.2.1; omega)
      exact ⟨[x0, x1, .v (prsD t), x3, .v (tupI' (effP b l (t.map (·.1))).2.1), x5, .v (.int p.1), .v (.int p.2)], [x0, x1, .v (prsD t), x3, .v (tupI' (effP b l (t.map (·.1))).2.1), x5, .v (.int p.1), .v (.int p.2)], [x0, x1, .v (prsD t), x3, .v (tupI' (effP b l (t.map (·.1))).2.1), x5, .v (.int p.1), .v (.int p.2)], by simp [prD], by simp, by simp [prD, fst0, snd0, ra], by simp⟩)
  have al : allF [.lst ((t.map prD).map fun d => .bl (refA (effP b l (t.map (·.1))).2.1 (fst0 d) == snd0 d))] = some (.bl (t.all fun p => refA (effP b l (t.map (·.1))).2.1 p.1 == p.2)) := by
    have := all_map (fun d => refA (effP b l (t.map (·.1))).2.1 (fst0 d) == snd0 d) (t.map prD)
    rw [this, List.all_map]
    rfl
  have ne := ne (t.map (·.2))
  have tf1 := tf (t.map (·.1))
  have tf2 := tf (t.map (·.2))
  unfold doesB
  generalize (t.map prD).map (fun d => D.bl (refA (effP b l (t.map (·.1))).2.1 (fst0 d) == snd0 d)) = M at *
  generalize (t.all fun p => refA (effP b l (t.map (·.1))).2.1 p.1 == p.2) = q at *
  unfold effD at e3
  generalize effP b l (t.map (·.1)) = e at *
  generalize hm1 : D.lst ((t.map (·.1)).map .int) = M1 at *
  generalize hm2 : D.lst ((t.map (·.2)).map .int) = M2 at *
  generalize tupI' (t.map (·.1)) = T1 at *
  generalize tupI' (t.map (·.2)) = T2 at *
  generalize prsD t = P at *
  generalize scD l = S at *
  unfold m_does b_does
  simp [e1, e2]
  rw [f1]
  simp [tf1, e3]
  by_cases hc : 0 ≤ e.2.2
  · have hc2 : ¬ e.2.2 < 0 := by omega
    simp [hc, hc2]
  · have hc2 : e.2.2 < 0 := by omega
    simp [hc, hc2]
    rw [f2]
    simp [tf2, ne]
    by_cases hq : e.1 = t.map (·.2)
    · simp [hq]
      rw [lc]
      simp [al]
    · simp [hq]
end DL

/-! Moves: the table of a script that does them; it is a permutation. -/
namespace DL
open PySem L2

def look0 (T : List (Int × Int)) (i : Int) : Int := (T.lookup i).getD 0
theorem lookup_in : ∀ {T : List (Int × Int)} {p : Int × Int}, (T.map (·.1)).Nodup → p ∈ T → T.lookup p.1 = some p.2
  | q :: T, p, h, hp => by
    rw [List.map_cons, List.nodup_cons] at h
    rw [List.lookup_cons]
    rcases List.mem_cons.mp hp with rfl | hp
    · simp
    · have : (p.1 == q.1) = false := beq_eq_false_iff_ne.mpr fun e => h.1 (e ▸ List.mem_map_of_mem hp)
      rw [this]
      exact lookup_in h.2 hp
theorem lookup_some (i : Int) : ∀ T : List (Int × Int), (T.lookup i).isSome = decide (i ∈ T.map (·.1))
  | [] => by simp
  | q :: T => by
    rw [List.lookup_cons, List.map_cons]
    by_cases h : i = q.1
    · subst h; simp
    · have : (i == q.1) = false := beq_eq_false_iff_ne.mpr h
      rw [this]
      simp only
      rw [lookup_some i T]
      simp [h]
theorem inj_nodup {α β : Type} {f : α → β} : ∀ {l : List α} {x y : α}, (l.map f).Nodup → x ∈ l → y ∈ l → f x = f y → x = y
  | a :: l, x, y, h, hx, hy, e => by
    rw [List.map_cons, List.nodup_cons] at h
    rcases List.mem_cons.mp hx with h1 | h1 <;> rcases List.mem_cons.mp hy with h2 | h2
    · rw [h1, h2]
    · exact absurd (by rw [← h1, e]; exact List.mem_map_of_mem h2) h.1
    · exact absurd (by rw [← h2, ← e]; exact List.mem_map_of_mem h1) h.1
    · exact inj_nodup h.2 h1 h2 e
theorem rg_at {b : Int} {k : Nat} (h : k < b.toNat) : (rgZ b)[k]? = some (k : Int) := by
  unfold rgZ
  rw [List.getElem?_map, List.getElem?_range h]
  rfl
/-- the numbers that are not in s -/
def restZ (b : Int) (s : List Int) : List Int := (rgZ b).filter fun i => !decide (i ∈ s)
theorem rest_perm {b : Int} {s : List Int} (h : s.Nodup) (hs : ∀ i ∈ s, i ∈ rgZ b) : (s ++ restZ b s).Perm (rgZ b) := by
  refine (List.perm_ext_iff_of_nodup ?_ (rg_nodup b)).mpr fun i => ?_
  · rw [List.nodup_append]
    refine ⟨h, (rg_nodup b).filter _, fun x hx y hy e => ?_⟩
    subst e
    have := (List.mem_filter.mp hy).2
    simp [hx] at this
  · rw [List.mem_append]
    unfold restZ
    rw [List.mem_filter]
    constructor
    · rintro (q | q)
      · exact hs i q
      · exact q.1
    · intro q
      by_cases m : i ∈ s
      · exact .inl m
      · exact .inr ⟨q, by simp [m]⟩
/-- the whole table -/
def fullT (b : Int) (t : List (Int × Int)) : List (Int × Int) := t ++ (restZ b (t.map (·.1))).zip (restZ b (t.map (·.2)))
def permT (b : Int) (t : List (Int × Int)) : List (Int × Int) := (rgZ b).map fun i => (i, look0 (fullT b t) i)
def planS (b : Int) (t : List (Int × Int)) : List Stm := [.all "rows" (permT b t), .all "refs" (permT b t)]
section
variable {b : Int} {t : List (Int × Int)}
theorem mv_olds (h : okMv b t) : (t.map (·.1)).Nodup ∧ ∀ i ∈ t.map (·.1), i ∈ rgZ b :=
  ⟨List.Pairwise.imp (fun h => by omega) (show (t.map (·.1)).Pairwise (· < ·) from h.1), fun i hi => by
    obtain ⟨p, hp, rfl⟩ := List.mem_map.mp hi
    have := h.2.1 p hp
    exact rg_mem.mpr ⟨this.1, this.2.1⟩⟩
theorem mv_news (h : okMv b t) : (t.map (·.2)).Nodup ∧ ∀ i ∈ t.map (·.2), i ∈ rgZ b :=
  ⟨h.2.2, fun i hi => by
    obtain ⟨p, hp, rfl⟩ := List.mem_map.mp hi
    have := h.2.1 p hp
    exact rg_mem.mpr ⟨this.2.2.1, this.2.2.2⟩⟩
theorem rest_len (h : okMv b t) : (restZ b (t.map (·.1))).length = (restZ b (t.map (·.2))).length := by
  have h1 := (rest_perm (mv_olds h).1 (mv_olds h).2).length_eq
  have h2 := (rest_perm (mv_news h).1 (mv_news h).2).length_eq
  rw [List.length_append, List.length_map] at h1 h2
  omega
theorem full_keys (h : okMv b t) : ((fullT b t).map (·.1)).Perm (rgZ b) := by
  have := rest_perm (mv_olds h).1 (mv_olds h).2
  unfold fullT
  rw [List.map_append, List.map_fst_zip (by rw [rest_len h]; exact Nat.le_refl _)]
  exact this
theorem full_vals (h : okMv b t) : ((fullT b t).map (·.2)).Perm (rgZ b) := by
  have := rest_perm (mv_news h).1 (mv_news h).2
  unfold fullT
  rw [List.map_append, List.map_snd_zip (by rw [rest_len h]; exact Nat.le_refl _)]
  exact this
theorem full_nd (h : okMv b t) : ((fullT b t).map (·.1)).Nodup := (full_keys h).nodup_iff.mpr (rg_nodup b)
theorem full_nd2 (h : okMv b t) : ((fullT b t).map (·.2)).Nodup := (full_vals h).nodup_iff.mpr (rg_nodup b)
theorem look_full (h : okMv b t) {i : Int} (hi : i ∈ rgZ b) : ∃ p ∈ fullT b t, p.1 = i ∧ look0 (fullT b t) i = p.2 ∧ (fullT b t).lookup i = some p.2 := by
  obtain ⟨p, hp, rfl⟩ := List.mem_map.mp ((full_keys h).mem_iff.mpr hi)
  have := lookup_in (full_nd h) hp
  exact ⟨p, hp, rfl, by unfold look0; rw [this]; rfl, this⟩
theorem look_in (h : okMv b t) {i : Int} (hi : i ∈ rgZ b) : look0 (fullT b t) i ∈ rgZ b := by
  obtain ⟨p, hp, _, e, _⟩ := look_full h hi
  rw [e]
  exact (full_vals h).mem_iff.mp (List.mem_map_of_mem hp)
theorem look_inj (h : okMv b t) {i j : Int} (hi : i ∈ rgZ b) (hj : j ∈ rgZ b) (e : look0 (fullT b t) i = look0 (fullT b t) j) : i = j := by
  obtain ⟨p, hp, rfl, e1, _⟩ := look_full h hi
  obtain ⟨q, hq, rfl, e2, _⟩ := look_full h hj
  rw [e1, e2] at e
  rw [inj_nodup (full_nd2 h) hp hq e]
theorem look_mv (h : okMv b t) {p : Int × Int} (hp : p ∈ t) : look0 (fullT b t) p.1 = p.2 := by
  have : p ∈ fullT b t := List.mem_append_left _ hp
  unfold look0
  rw [lookup_in (full_nd h) this]
  rfl
/-! ### what the plan does -/
theorem perm_ok (h : okMv b t) (hb : 2 ≤ b) : okTab b (permT b t) := by
  refine ⟨fun e => ?_, ?_, fun p hp => ?_⟩
  · have := congrArg List.length e
    unfold permT at this
    rw [List.length_map, rg_length] at this
    simp at this
    omega
  · unfold incr permT
    rw [List.map_map]
    have : ((fun x => x.1) ∘ fun i => (i, look0 (fullT b t) i)) = (id : Int → Int) := rfl
    rw [this, List.map_id]
    exact rg_pw b
  · unfold permT at hp
    obtain ⟨i, hi, rfl⟩ := List.mem_map.mp hp
    have h1 := rg_mem.mp hi
    have h2 := rg_mem.mp (look_in h hi)
    exact ⟨h1.1, h1.2, h2.1, h2.2⟩
theorem plan_okSc (h : okMv b t) (hb : 2 ≤ b) (n : Int) (hn : 2 ≤ n) : okSc b n (planS b t) := by
  refine ⟨by unfold planS; simpa using hn, fun s hs => ?_⟩
  unfold planS at hs
  simp only [List.mem_cons, List.not_mem_nil, or_false] at hs
  rcases hs with rfl | rfl
  · exact ⟨.inl rfl, perm_ok h hb⟩
  · exact ⟨.inr rfl, perm_ok h hb⟩
theorem lkp_perm (h : okMv b t) {i : Int} (hi : i ∈ rgZ b) : lkp (permT b t) i = look0 (fullT b t) i := by
  have nd : ((permT b t).map (·.1)).Nodup := by
    unfold permT
    rw [List.map_map]
    have : ((fun x => x.1) ∘ fun i => (i, look0 (fullT b t) i)) = (id : Int → Int) := rfl
    rw [this, List.map_id]
    exact rg_nodup b
  have hm : (i, look0 (fullT b t) i) ∈ permT b t := by
    unfold permT
    exact List.mem_map.mpr ⟨i, hi, rfl⟩
  have := lookup_in nd hm
  unfold lkp
  rw [this]
  rfl
theorem eff_plan (h : okMv b t) {c : List Int} (hc : c.Nodup) (hr : ∀ i ∈ c, i ∈ rgZ b) : effP b (planS b t) c = (c.map (look0 (fullT b t)), (rgZ b).map (look0 (fullT b t)), -1) := by
  have e1 : c.map (lkp (permT b t)) = c.map (look0 (fullT b t)) := List.map_congr_left fun i hi => lkp_perm h (hr i hi)
  have e2 : (rgZ b).map (lkp (permT b t)) = (rgZ b).map (look0 (fullT b t)) := List.map_congr_left fun i hi => lkp_perm h hi
  have nd : (c.map (look0 (fullT b t))).Nodup := nodup_on hc fun x hx y hy e => look_inj h (hr x hx) (hr y hy) e
  have r1 : rowsSt b (.all "rows" (permT b t)) c = (c.map (look0 (fullT b t)), false) := by
    show (if (c.map (lkp (permT b t))).Nodup then (c.map (lkp (permT b t)), false) else (c, true)) = _
    rw [e1, if_pos nd]
  have n1 : ¬ (Stm.all "rows" (permT b t)).p = "refs" := by show ¬ ("rows" : Str) = "refs"; decide
  have n2 : (Stm.all "refs" (permT b t)).p = "refs" := rfl
  have tr : (Stm.all "refs" (permT b t)).turn b = lkp (permT b t) := rfl
  show doneP b [(.all "rows" (permT b t), 0), (.all "refs" (permT b t), 1)] c (rgZ b) = _
  unfold doneP
  rw [if_neg n1, r1, if_neg (by simp)]
  unfold doneP
  rw [if_pos n2, tr, e2]
  rfl
theorem err_plan (h : okMv b t) {c : List Int} (hc : c.Nodup) (hr : ∀ i ∈ c, i ∈ rgZ b) : errD c (effP b (planS b t) c) = .lst [] := by
  rw [eff_plan h hc hr]
  have e : errF c (c.map (look0 (fullT b t)), (rgZ b).map (look0 (fullT b t)), -1) = [] := by
    unfold errF
    rw [List.flatMap_eq_nil_iff]
    intro p hp
    simp only at hp ⊢
    have hm := List.mem_zipIdx' hp
    have hk : p.2 < b.toNat := by have := hm.1; rw [List.length_map, rg_length] at this; exact this
    have hin : ((p.2 : Nat) : Int) ∈ rgZ b := rg_mem.mpr ⟨by omega, by omega⟩
    have hv : p.1 = look0 (fullT b t) (p.2 : Nat) := by
      rw [hm.2, List.getElem_map]
      congr 1
      unfold rgZ
      rw [List.getElem_map, List.getElem_range]
    unfold errZ
    by_cases q : ((p.2 : Nat) : Int) ∈ c
    · rw [if_pos q]
      obtain ⟨j, hj, ej⟩ := List.getElem_of_mem q
      have g1 : c[j]? = some ((p.2 : Nat) : Int) := by rw [List.getElem?_eq_getElem hj, ej]
      rw [getZ_at hc g1 (by rw [List.getElem?_map, g1]; rfl), if_pos hv.symm]
    · rw [if_neg q, if_neg fun z => ?_]
      rw [hv] at z
      obtain ⟨m, hmc, em⟩ := List.mem_map.mp z
      exact q (look_inj h (hr m hmc) hin em ▸ hmc)
  unfold errD errL
  rw [e]
  rfl
theorem does_plan (h : okMv b t) (hb : 0 ≤ b) : doesB b (planS b t) t = true := by
  have ho := mv_olds h
  have e := eff_plan h ho.1 ho.2
  have e1 : (t.map (·.1)).map (look0 (fullT b t)) = t.map (·.2) := by
    rw [List.map_map]
    exact List.map_congr_left fun p hp => look_mv h hp
  rw [e1] at e
  unfold doesB
  rw [e]
  have e2 : (t.all fun p => refA ((rgZ b).map (look0 (fullT b t))) p.1 == p.2) = true := List.all_eq_true.mpr fun p hp => by
    have hi := h.2.1 p hp
    have hl : p.1.toNat < (rgZ b).length := by rw [rg_length]; have := hi.2.1; have := hi.1; omega
    have : refA ((rgZ b).map (look0 (fullT b t))) p.1 = p.2 := by
      unfold refA
      rw [rg_length] at hl
      rw [List.getD_eq_getElem?_getD, List.getElem?_map, rg_at hl, Int.toNat_of_nonneg hi.1]
      exact look_mv h hp
    rw [this]
    simp
  simp only [e2]
  simp
end
end DL

/-! Moves: the law's look at a script that does them; the program's script for them. -/
namespace DL
open PySem L2

theorem law_does_is (b : Int) (hb : 2 ≤ b) (hb2 : b ≤ 5) (l : List Stm) (hl : okSc b 8 l) {t : List (Int × Int)} (h : okMv b t) : m__law_does [.v (.int b), .v (scD l), .v (prsD t)] = .ok (.bl (doesB b l t)) [.v (.int b), .v (scD l), .v (prsD t)] := by
  have hpw : (t.map (·.1)).Pairwise (· < ·) := h.1
  have hn : (t.map (·.1)).Nodup := List.Pairwise.imp (fun h => by omega) hpw
  have hlen := mv_len h (by omega)
  have e3 := law_effect_is b (by omega) hb2 l hl.2 (t.map (·.1)) hpw (by rw [List.length_map]; omega) [] (by simp)
  have q1 : effW b l (t.map (·.1)) [] = effP b l (t.map (·.1)) := rfl
  have q2 : nsD [] = .tup [] := rfl
  rw [q1, q2] at e3
  obtain ⟨k1, k2, k3, k4⟩ := doneP_keep b l.zipIdx (t.map (·.1)) (rgZ b) hn
  have k4 : -1 ≤ (effP b l (t.map (·.1))).2.2 := k4
  have f1 := fun x0 x1 x3 x4 x5 => mv_firsts t (by omega) x0 x1 x3 x4 x5
  have f2 := fun x0 x1 x3 x4 x5 => mv_snds t (by omega) x0 x1 x3 x4 x5
  have tf1 : tupF [.lst ((t.map (·.1)).map .int)] = some (tupI' (t.map (·.1))) := by unfold tupI'; simp
  have lf : lstF [tupI' (effP b l (t.map (·.1))).1] = some (.lst ((effP b l (t.map (·.1))).1.map .int)) := rfl
  have ne := ne_of_eq (eq_ints (effP b l (t.map (·.1))).1 (t.map (·.2)))
  have hb' := fun p hp => h.2.1 p hp
  have hr : (effP b l (t.map (·.1))).2.1.length = b.toNat := by
    have : (effP b l (t.map (·.1))).2.1.length = (rgZ b).length := k3
    rw [this, rg_length]
  have lc := fun x0 x1 x3 x5 => lcE_filter (vs := [6, 7]) (fi := seqI (varE 2)) (g := mvT) (ft := testE (bin2 neD (bin2 ixD (varE 4) (varE 6)) (varE 7))) (fe := varE 6) (ρ := [x0, x1, .v (prsD t), x3, .v (tupI' (effP b l (t.map (·.1))).2.1), x5, .u, .u]) (ds := t.map prD)
    (fun d => !(refA (effP b l (t.map (·.1))).2.1 (fst0 d) == snd0 d)) (fun d => .int (fst0 d)) (by simp [prsD]) (by simp) (by simp; omega) (fun x hx => by
      obtain ⟨p, hp, rfl⟩ := List.mem_map.mp hx
      have hin := hb' p hp
      have ra := ref_at (effP b l (t.map (·.1))).2.1 hin.1 (by rw [hr]; have := hin.2.1; omega)
      exact ⟨[x0, x1, .v (prsD t), x3, .v (tupI' (effP b l (t.map (·.1))).2.1), x5, .v (.int p.1), .v (.int p.2)], [x0, x1, .v (prsD t), x3, .v (tupI' (effP b l (t.map (·.1))).2.1), x5, .v (.int p.1), .v (.int p.2)], by simp [prD], by simp [prD, fst0, snd0, ra], by simp, fun _ => ⟨[x0, x1, .v (prsD t), x3, .v (tupI' (effP b l (t.map (·.1))).2.1), x5, .v (.int p.1), .v (.int p.2)], by simp [prD, fst0], by simp⟩⟩)
  obtain ⟨L, hL1, hL2⟩ : ∃ L : List Int, ((t.map prD).filter fun d => !(refA (effP b l (t.map (·.1))).2.1 (fst0 d) == snd0 d)).map (fun d => D.int (fst0 d)) = L.map .int ∧ decide (L = []) = t.all fun p => refA (effP b l (t.map (·.1))).2.1 p.1 == p.2 := by
    refine ⟨(t.filter fun p => !(refA (effP b l (t.map (·.1))).2.1 p.1 == p.2)).map (·.1), ?_, ?_⟩
    · rw [List.filter_map, List.map_map, List.map_map]
      rfl
    · rw [Bool.eq_iff_iff, decide_eq_true_eq, List.map_eq_nil_iff, List.filter_eq_nil_iff, List.all_eq_true]
      exact forall_congr' fun p => forall_congr' fun _ => by simp
  have el := eq_ints L []
  rw [hL2] at el
  rw [hL1] at lc
  unfold doesB
  generalize (t.all fun p => refA (effP b l (t.map (·.1))).2.1 p.1 == p.2) = q at *
  unfold effD at e3
  generalize effP b l (t.map (·.1)) = e at *
  generalize D.lst ((t.map (·.1)).map .int) = M1 at *
  generalize D.lst ((t.map (·.2)).map .int) = M2 at *
  generalize D.lst (e.1.map .int) = M3 at *
  generalize tupI' (t.map (·.1)) = T1 at *
  generalize D.lst (L.map .int) = M4 at *
  rw [show ([] : List Int).map D.int = [] from rfl] at el
  generalize prsD t = P at *
  generalize scD l = S at *
  unfold m__law_does b__law_does
  simp
  rw [f1]
  simp [tf1, e3]
  by_cases hc : e.2.2 = -1
  · have hc2 : e.2.2 < 0 := by omega
    simp [hc]
    rw [lf]
    simp
    rw [f2]
    simp [ne]
    by_cases hq : e.1 = t.map (·.2)
    · simp [hq]
      rw [lc]
      simp [el]
    · simp [hq]
  · have hc2 : ¬ e.2.2 < 0 := by omega
    simp [hc, hc2]

@[simp] theorem ev_notInKO {fe : EM D} {i : Nat} {ρ : Ro} : notInKO fe i ρ = (fe ρ).bind fun x ρ1 => (ownK i ρ1).bind fun kvs ρ2 => liftO ((keyD x).map fun k => .bl (!(valD kvs k).isSome)) ρ2 := rfl
def niv (x : D) (kvs : List (D × D)) : Option D := match x, intsD (kvs.map (·.2)) with
  | .int k, some ns => some (.bl (!(ns.any fun y => y == k)))
  | _, _ => none
@[simp] theorem ev_notInVO {fe : EM D} {i : Nat} {ρ : Ro} : notInVO fe i ρ = (fe ρ).bind fun x ρ1 => (ownK i ρ1).bind fun kvs ρ2 => liftO (niv x kvs) ρ2 := rfl
def updF (kvs : List (D × D)) (d : D) : Option (List (D × D)) := match d with
  | .dct more => if kvs.length + more.length ≤ 1000000 then mergeKD kvs more else none
  | _ => none
@[simp] theorem ev_updO {fe : EM D} {i : Nat} {ρ : Ro} : updO i fe ρ = (ownK i ρ).bind fun _ ρ1 => (fe ρ1).bind fun d ρ2 => (ownK i ρ2).bind fun kvs ρ3 => (liftO (updF kvs d) ρ3).bind fun out ρ4 => .ok .nx (putO i (.dct out) ρ4) := by
  show (Res.bind (Res.bind (ownK i ρ) _) _) = _
  cases ownK i ρ with
  | bad => rfl
  | err x => rfl
  | ok a ρ1 =>
    show (Res.bind (Res.bind (fe ρ1) _) _) = Res.bind (fe ρ1) _
    cases fe ρ1 with
    | bad => rfl
    | err x => rfl
    | ok d ρ2 =>
      show (Res.bind (Res.bind (ownK i ρ2) _) _) = Res.bind (ownK i ρ2) _
      cases ownK i ρ2 with
      | bad => rfl
      | err x => rfl
      | ok kvs ρ3 =>
        show (Res.bind (Res.bind (liftO (updF kvs d) ρ3) _) _) = Res.bind (liftO (updF kvs d) ρ3) _
        cases updF kvs d <;> rfl
theorem mergeK_tab : ∀ (t acc : List (Int × Int)), ((acc ++ t).map (·.1)).Nodup → mergeKD (acc.map kvD) (t.map kvD) = some ((acc ++ t).map kvD)
  | [], acc, _ => by simp [mergeKD]
  | p :: t, acc, h => by
    have hp : putD (acc.map kvD) (.int p.1) (.inl p.1) (.int p.2) = (acc ++ [p]).map kvD := by
      unfold putD
      have : ((acc.map kvD).any fun q => decide (keyD q.1 = some (.inl p.1))) = false := by
        rw [List.any_map, List.any_eq_false]
        intro q hq
        simp only [Function.comp, kvD, key_int, Option.some.injEq, Sum.inl.injEq, decide_eq_true_eq]
        intro e
        rw [List.map_append, List.nodup_append] at h
        exact h.2.2 q.1 (List.mem_map.mpr ⟨q, hq, rfl⟩) p.1 (by simp) e
      rw [if_neg (by rw [this]; simp), List.map_append]
      rfl
    rw [List.map_cons, show kvD p = (D.int p.1, D.int p.2) from rfl]
    unfold mergeKD
    simp only [key_int]
    rw [hp]
    have := mergeK_tab t (acc ++ [p]) (by rw [List.append_assoc]; exact h)
    rw [this, List.append_assoc]
    rfl
def intV (d : D) : Int := match d with
  | .int i => i
  | _ => 0
theorem script_for_is (b : Int) (hb : 2 ≤ b) (hb2 : b ≤ 5) {t : List (Int × Int)} (h : okMv b t) : m_script_for [.v (.int b), .v (prsD t)] = .ok (scD (planS b t)) [.v (.int b), .v (prsD t)] := by
  have e1 := look_moves b (by omega) (by omega) h
  have e0 := size_ok b hb hb2
  have ho := mv_olds h
  have e2 := dict_tab t ho.1
  have hlen := mv_len h (by omega)
  have sm : smallI b = true := by unfold smallI; simp; omega
  have rgd : rngD 0 b.toNat = (rgZ b).map .int := rg_ints b
  have rl : (rgZ b).length ≤ 5 := by rw [rg_length]; omega
  have l1 := lcE_filter (vs := [4]) (fi := rng1I (consE (varE 0) (retE []))) (g := setT 4) (ft := testE (notInKO (varE 4) 2)) (fe := varE 4) (ρ := [.v (.int b), .v (prsD t), .o (.dct (t.map kvD)), .u, .u, .u, .u]) (ds := (rgZ b).map .int)
    (fun d => !decide (intV d ∈ t.map (·.1))) (fun d => d) (by simp [sm, rgd]) (by simp) (by simp; omega) (fun x hx => by
      obtain ⟨i, hi, rfl⟩ := List.mem_map.mp hx
      have this : (t.lookup i).isNone = !decide (i ∈ t.map (·.1)) := by
        rw [← lookup_some]
        cases t.lookup i <;> rfl
      exact ⟨[.v (.int b), .v (prsD t), .o (.dct (t.map kvD)), .u, .v (.int i), .u, .u], [.v (.int b), .v (prsD t), .o (.dct (t.map kvD)), .u, .v (.int i), .u, .u], by simp, by (simp [tab_val, this, intV]; try exact decide_eq_decide.mpr Iff.rfl), by simp, fun _ => ⟨[.v (.int b), .v (prsD t), .o (.dct (t.map kvD)), .u, .v (.int i), .u, .u], by simp, by simp⟩⟩)
  have f1 : ((((rgZ b).map .int).filter fun d => !decide (intV d ∈ t.map (·.1))).map fun d => d) = (restZ b (t.map (·.1))).map D.int := by
    rw [List.map_id', List.filter_map]
    rfl
  rw [f1] at l1
  have vs : (t.map kvD).map (·.2) = (t.map (·.2)).map D.int := by
    rw [List.map_map, List.map_map]
    rfl
  have iv := ints_of (t.map (·.2))
  have l2 := fun x3 => lcE_filter (vs := [4]) (fi := rng1I (consE (varE 0) (retE []))) (g := setT 4) (ft := testE (notInVO (varE 4) 2)) (fe := varE 4) (ρ := [.v (.int b), .v (prsD t), .o (.dct (t.map kvD)), x3, .u, .u, .u]) (ds := (rgZ b).map .int)
    (fun d => !decide (intV d ∈ t.map (·.2))) (fun d => d) (by simp [sm, rgd]) (by simp) (by simp; omega) (fun x hx => by
      obtain ⟨i, hi, rfl⟩ := List.mem_map.mp hx
      have e : niv (.int i) (t.map kvD) = some (.bl (!decide (i ∈ t.map (·.2)))) := by
        unfold niv
        rw [vs, iv]
        simp only
        congr 3
        rw [Bool.eq_iff_iff, List.any_eq_true, decide_eq_true_eq]
        constructor
        · rintro ⟨y, hy, e⟩
          rw [← beq_iff_eq.mp e]; exact hy
        · intro hm
          exact ⟨i, hm, by simp⟩
      exact ⟨[.v (.int b), .v (prsD t), .o (.dct (t.map kvD)), x3, .v (.int i), .u, .u], [.v (.int b), .v (prsD t), .o (.dct (t.map kvD)), x3, .v (.int i), .u, .u], by simp, by (simp [e, intV]; try exact decide_eq_decide.mpr Iff.rfl), by simp, fun _ => ⟨[.v (.int b), .v (prsD t), .o (.dct (t.map kvD)), x3, .v (.int i), .u, .u], by simp, by simp⟩⟩)
  have f2 : ((((rgZ b).map .int).filter fun d => !decide (intV d ∈ t.map (·.2))).map fun d => d) = (restZ b (t.map (·.2))).map D.int := by
    rw [List.map_id', List.filter_map]
    rfl
  rw [f2] at l2
  have hro : (restZ b (t.map (·.1))).Nodup := (rg_nodup b).filter _
  have z1 := zip_dz (restZ b (t.map (·.1))) (restZ b (t.map (·.2))) hro
  have hrl : (restZ b (t.map (·.1))).length ≤ 5 := Nat.le_trans (List.length_filter_le _ _) rl
  have u1 : updF (t.map kvD) (dz (restZ b (t.map (·.1))) (restZ b (t.map (·.2)))) = some ((fullT b t).map kvD) := by
    have nd := full_nd h
    unfold fullT at nd
    have hm := mergeK_tab _ _ nd
    show (if (t.map kvD).length + (((restZ b (t.map (·.1))).zip (restZ b (t.map (·.2)))).map kvD).length ≤ 1000000 then mergeKD (t.map kvD) (((restZ b (t.map (·.1))).zip (restZ b (t.map (·.2)))).map kvD) else none) = _
    rw [if_pos (by rw [List.length_map, List.length_map, List.length_zip]; omega), hm]
    rfl
  have l3 := fun x3 x5 => lcE_map (vs := [4]) (fi := rng1I (consE (varE 0) (retE []))) (g := setT 4) (ft := yesT) (fe := tupE (consE (varE 4) (consE (bin2 ixD (varE 2) (varE 4)) (retE [])))) (ρ := [.v (.int b), .v (prsD t), .v (.dct ((fullT b t).map kvD)), x3, .u, x5, .u]) (ds := (rgZ b).map .int)
    (fun d => prD (intV d, look0 (fullT b t) (intV d))) (by simp [sm, rgd]) (by simp) (by simp; omega) (fun x hx => by
      obtain ⟨i, hi, rfl⟩ := List.mem_map.mp hx
      obtain ⟨p, _, hp1, hp2, hp3⟩ := look_full h hi
      have e : ixD (.dct ((fullT b t).map kvD)) (.int i) = some (.int (look0 (fullT b t) i)) := by
        show (keyD (.int i)).bind (valD ((fullT b t).map kvD)) = _
        rw [key_int, Option.bind_some, tab_val, hp3, hp2]
        rfl
      exact ⟨[.v (.int b), .v (prsD t), .v (.dct ((fullT b t).map kvD)), x3, .v (.int i), x5, .u], [.v (.int b), .v (prsD t), .v (.dct ((fullT b t).map kvD)), x3, .v (.int i), x5, .u], [.v (.int b), .v (prsD t), .v (.dct ((fullT b t).map kvD)), x3, .v (.int i), x5, .u], by simp, by simp, by simp [e, intV, prD], by simp⟩)
  have f3 : ((rgZ b).map D.int).map (fun d => prD (intV d, look0 (fullT b t) (intV d))) = (permT b t).map prD := by
    unfold permT
    rw [List.map_map, List.map_map]
    rfl
  rw [f3] at l3
  have tf : tupF [.lst ((permT b t).map prD)] = some (prsD (permT b t)) := by unfold prsD; simp
  have es : scD (planS b t) = .tup [.tup [.str "all", .str "rows", prsD (permT b t)], .tup [.str "all", .str "refs", prsD (permT b t)]] := rfl
  rw [es]
  generalize dz (restZ b (t.map (·.1))) (restZ b (t.map (·.2))) = Z at *
  generalize (restZ b (t.map (·.1))).map D.int = O at *
  generalize (restZ b (t.map (·.2))).map D.int = N at *
  generalize (fullT b t).map kvD = F at *
  generalize t.map kvD = T at *
  generalize (permT b t).map prD = L at *
  generalize prsD (permT b t) = R at *
  generalize prsD t = P at *
  unfold m_script_for b_script_for
  simp [e0, e1, e2]
  rw [l1]
  simp
  rw [l2]
  simp [z1, u1]
  rw [l3]
  simp [tf]
end DL

/-! The plain law of k11. -/
namespace DL
open PySem L2

theorem fit_all : ∀ ns : List Int, ns.length ≤ 63 → ∃ ws : List Bag, (∃ ρ', fit_law (.v (.scr ns) :: List.replicate 8 .u) = .ok (.lst (ws.map Bag.d)) ρ') ∧ (∀ (i j : Nat) (w u : Bag), ws[i]? = some w → ws[j]? = some u → w.c = u.c → i = j) ∧ ∀ w ∈ ws, w.ok := fun ns hn => by
  obtain ⟨ws, e, h1, h2⟩ := bags_is ns 8 (by omega) (by omega) hn
  exact ⟨ws, ⟨.v (.scr ns) :: List.replicate 8 .u, by unfold fit_law; simp [e]⟩, h1, h2⟩
theorem tail_all : ∃ ρ', g_law (List.replicate 9 .u) = .ok (.ret (.bl true)) ρ' := ⟨_, rfl⟩
@[simp] theorem ev_lstI {fe : EM D} {ρ : Ro} : lstI fe ρ = (fe ρ).bind fun d ρ1 => liftO (match d with | .lst ds => some ds | _ => none) ρ1 := rfl
theorem ne_tnil {n : Nat} {ds : List D} (g : Gd n (.tup ds)) (hn : n ≤ 60) : neD (.tup ds) (.tup []) = some (.bl (!ds.isEmpty)) := by
  have g0 : Gd 4 (.tup []) := ⟨by simp, by simp⟩
  obtain ⟨q, q1, q2⟩ := g.eq hn g0 (by omega)
  have q3 := Gd.tnil (ds := ds) g hn
  rw [q1] at q3
  have : q = ds.isEmpty := D.bl.inj (Option.some.inj q3)
  rw [q2, this]
theorem sc_rev (l : List Stm) : revA (scD l) = some (scD l.reverse) := by
  unfold scD
  rw [op_revt, List.map_reverse]
theorem prs_rev (t : List (Int × Int)) : revA (prsD t) = some (prsD t.reverse) := by
  unfold prsD
  rw [op_revt, List.map_reverse]
theorem sc_drop1 (l : List Stm) : slD (scD l) (some 1) none = some (scD (l.drop 1)) := by
  show some (D.tup (cutD (l.map Stm.d) (some ((1 : Nat) : Int)) none)) = _
  cases l with
  | nil => rfl
  | cons s l => rw [cut2 _ _ (by simp), ← List.map_drop]; rfl
/-- the scripts that are looked at -/
def bothS (t : List (Int × Int)) : List Stm := if t.isEmpty then [] else [.all "rows" t, .all "refs" t]
def eachS (t : List (Int × Int)) : List Stm := if t.isEmpty then [] else [.each "rows" t.reverse, .each "refs" t.reverse]
def others (b : Int) (t : List (Int × Int)) (l : List Stm) : List (List Stm) := [planS b t, (planS b t).take 1, (planS b t).reverse, bothS t, (bothS t).drop 1, eachS t, l]
theorem both_ok {b : Int} {t : List (Int × Int)} (h : okMv b t) : okSc b 8 (bothS t) := by
  unfold bothS
  cases t with
  | nil => exact ⟨by simp, by simp⟩
  | cons p t =>
    refine ⟨by simp, fun s hs => ?_⟩
    have ht : okTab b (p :: t) := ⟨by simp, h.1, h.2.1⟩
    simp at hs
    rcases hs with rfl | rfl
    · exact ⟨.inl rfl, ht⟩
    · exact ⟨.inr rfl, ht⟩
theorem each_ok {b : Int} {t : List (Int × Int)} (h : okMv b t) (hb : 0 ≤ b) (hb2 : b ≤ 5) : okSc b 8 (eachS t) := by
  have hl := mv_len h hb
  unfold eachS
  cases t with
  | nil => exact ⟨by simp, by simp⟩
  | cons p t =>
    have h1 : 1 ≤ (p :: t).reverse.length := by rw [List.length_reverse]; simp
    have h2 : (p :: t).reverse.length ≤ 6 := by rw [List.length_reverse]; omega
    have h3 : ∀ q ∈ (p :: t).reverse, inB b q := fun q hq => h.2.1 q (List.mem_reverse.mp hq)
    refine ⟨by simp, fun s hs => ?_⟩
    rw [if_neg (by simp)] at hs
    simp only [List.mem_cons, List.not_mem_nil, or_false] at hs
    rcases hs with rfl | rfl
    · exact ⟨.inl rfl, h1, h2, h3⟩
    · exact ⟨.inr rfl, h1, h2, h3⟩
theorem others_ok {b : Int} {t : List (Int × Int)} {l : List Stm} (h : okMv b t) (hb : 2 ≤ b) (hb2 : b ≤ 5) (hl : okSc b 6 l) : ∀ m ∈ others b t l, okSc b 8 m := fun m hm => by
  have p := plan_okSc h hb 8 (by omega)
  have q := both_ok h
  unfold others at hm
  simp only [List.mem_cons, List.not_mem_nil, or_false] at hm
  rcases hm with rfl | rfl | rfl | rfl | rfl | rfl | rfl
  · exact p
  · exact ⟨by have := p.1; rw [List.length_take]; omega, fun s hs => p.2 s (List.mem_of_mem_take hs)⟩
  · exact ⟨by rw [List.length_reverse]; exact p.1, fun s hs => p.2 s (List.mem_reverse.mp hs)⟩
  · exact q
  · exact ⟨by have := q.1; rw [List.length_drop]; omega, fun s hs => q.2 s (List.mem_of_mem_drop hs)⟩
  · exact each_ok h (by omega) hb2
  · exact ⟨by have := hl.1; omega, hl.2⟩
theorem body_all : ∀ w : Bag, w.ok → ∃ ρ', b_law (bagRo w 7) = .ok .nx ρ' := fun w hw => by
  obtain ⟨_, _, _, hc0, hc1⟩ := hw
  obtain ⟨_, w1, f1, ⟨k, rfl, t1, t2⟩, c1, c2⟩ := take_ok 4 (by omega) (by omega) w (by omega) (by omega)
  obtain ⟨b, hb⟩ : ∃ b, b = 2 + k := ⟨_, rfl⟩
  have b1 : 2 ≤ b := by omega
  have b2 : b ≤ 5 := by omega
  obtain ⟨_, w2, f2, ⟨t, rfl, ht⟩, c3, c4⟩ := moves_ok b (by omega) (by omega) w1 (by omega) (by omega)
  obtain ⟨_, w3, f3, ⟨l, rfl, hl⟩, c5, c6⟩ := script_ok b 6 (by omega) b2 (by omega) (by omega) w2 (by omega) (by omega)
  simp only [List.map_cons, List.map_nil] at f1 f2 f3
  have hp := plan_okSc ht b1 8 (by omega)
  have p1 := script_for_is b b1 b2 ht
  have p2 := is_script_is ((gl_sc hp (by omega) b2 (by omega)).wide (by omega : (10 : Nat) ≤ 40)).gd b b1 b2
  rw [scB_ok hp (by omega) (by omega)] at p2
  have p3 : lenF [scD (planS b t)] = some (.int 2) := rfl
  have p4 := law_does_is b b1 b2 _ hp ht
  rw [does_plan ht (by omega)] at p4
  have p5 : isNotD (.bl true) (.bl true) = some (.bl false) := rfl
  -- no errors
  have hct := allC_law b b1 b2
  have al : seqD (allC b) = some ((csL b).map tupI') := rfl
  obtain ⟨ρ1, e1, x5, n5, rfl⟩ := for_inv (fi := seqI (callE m__law_all_contents (argV (varE 2) (retE [])))) (g := setT 5) (f := ifS (testE (bin2 neD (callE m__law_errors (argV (varE 5) (argV (callE m__law_effect (argV (varE 2) (argV (varE 4) (argV (varE 5) (argV (tupE (retE [])) (retE [])))))) (retE [])))) (lstE (retE [])))) (retS (retE (.bl false))) nextS)
    (ρ0 := [.u, .o w2.d, .v (.int b), .v (prsD t), .v (scD (planS b t)), .u, .u, .u, .u]) (ρ := [.u, .o w2.d, .v (.int b), .v (prsD t), .v (scD (planS b t)), .u, .u, .u, .u]) (ds := (csL b).map tupI')
    (fun j ρ => ∃ x5, notP x5 = true ∧ ρ = [.u, .o w2.d, .v (.int b), .v (prsD t), .v (scD (planS b t)), x5, .u, .u, .u])
    (by simp [-ev_seqI, ev_seqD, hct, al]) ⟨.u, rfl, rfl⟩ (fun j d ρ hj ⟨x5, h5, eρ⟩ => by
      subst eρ
      rw [List.getElem?_map] at hj
      obtain ⟨c, hcj, rfl⟩ := map_inv hj
      obtain ⟨g1, g2, g3⟩ := csL_ok b b1 b2 (List.mem_of_getElem? hcj)
      have hn : c.Nodup := List.Pairwise.imp (fun h => by omega) g2
      have e1 := law_effect_is b (by omega) b2 _ hp.2 c g2 (by omega) [] (by simp)
      have q1 : effW b (planS b t) c [] = effP b (planS b t) c := rfl
      have q2 : nsD [] = .tup [] := rfl
      rw [q1, q2] at e1
      obtain ⟨_, m1, m2, m3⟩ := doneP_keep b (planS b t).zipIdx c (rgZ b) hn
      have hrl : (rgZ b).length ≤ 5 := by rw [rg_length]; omega
      have e2 := law_errors_is c (effP b (planS b t) c) hn m1.symm (by omega) (by show (doneP _ _ _ _).2.1.length ≤ 900; omega) m3
      rw [err_plan ht hn fun i hi => rg_mem.mpr (g3 i hi)] at e2
      have n0 : neD (.lst []) (.lst []) = some (.bl false) := rfl
      generalize effD (effP b (planS b t) c) = ef at *
      generalize scD (planS b t) = S at *
      exact ⟨[.u, .o w2.d, .v (.int b), .v (prsD t), .v S, .v (tupI' c), .u, .u, .u], [.u, .o w2.d, .v (.int b), .v (prsD t), .v S, .v (tupI' c), .u, .u, .u], by simp [-ev_setT, ev_setTn, h5], by simp [e1, e2, n0], _, rfl, rfl⟩)
  -- other scripts
  have hlen := mv_len ht (by omega)
  have ne : neD (prsD t) (.tup []) = some (.bl (!t.isEmpty)) := by
    have := ne_tnil (gd_prs (t := t) (by omega) 1) (by omega)
    rw [List.isEmpty_map] at this
    exact this
  have s1 := sc_take (planS b t) 1 (by unfold planS; simp)
  have s2 := sc_rev (planS b t)
  have s3 := sc_drop1 (bothS t)
  have s4 := prs_rev t
  have ho := others_ok (l := l) ht b1 b2 hl
  obtain ⟨ρ2, e2, _⟩ := for_inv (fi := lstI (lstE (consE (varE 4) (consE (slE (varE 4) (retE none) (partE (retE (.int 1)))) (consE (un1 revA (varE 4)) (consE (varE 6) (consE (slE (varE 6) (partE (retE (.int 1))) (retE none)) (consE (varE 7) (consE (callE m__law_script (argS 1 (argV (varE 2) (argV (retE (.int 6)) (retE []))))) (retE [])))))))))) (g := setT 8) (f := (ifS (notT (testE (callE m__law_same (argV (callE m_does (argV (varE 2) (argV (varE 8) (argV (varE 3) (retE []))))) (argV (callE m__law_does (argV (varE 2) (argV (varE 8) (argV (varE 3) (retE []))))) (retE [])))))) (retS (retE (.bl false))) nextS))
    (ρ0 := [.u, .o w2.d, .v (.int b), .v (prsD t), .v (scD (planS b t)), x5, .v (scD (bothS t)), .v (scD (eachS t)), .u]) (ρ := [.u, .o w3.d, .v (.int b), .v (prsD t), .v (scD (planS b t)), x5, .v (scD (bothS t)), .v (scD (eachS t)), .u]) (ds := (others b t l).map scD)
    (fun j ρ => ∃ x8, notP x8 = true ∧ ρ = [.u, .o w3.d, .v (.int b), .v (prsD t), .v (scD (planS b t)), x5, .v (scD (bothS t)), .v (scD (eachS t)), x8])
    (by
      unfold others
      rw [show ((1 : Nat) : Int) = 1 from rfl] at s1
      try simp only [List.map_cons, List.map_nil]
      generalize scD (planS b t) = S1 at *
      generalize scD ((planS b t).take 1) = S2 at *
      generalize scD (planS b t).reverse = S3 at *
      generalize scD (bothS t) = S4 at *
      generalize scD ((bothS t).drop 1) = S5 at *
      generalize scD (eachS t) = S6 at *
      generalize scD l = S7 at *
      simp [s1, s2, s3, f3]) ⟨.u, rfl, rfl⟩ (fun j d ρ hj ⟨x8, h8, eρ⟩ => by
      subst eρ
      rw [List.getElem?_map] at hj
      obtain ⟨m, hm, rfl⟩ := map_inv hj
      have hmo := ho m (List.mem_of_getElem? hm)
      have a1 := does_is b b1 b2 m hmo ht
      have a2 := law_does_is b b1 b2 m hmo ht
      have a3 := same_ok (d := .bl (doesB b m t)) trivial
      generalize doesB b m t = q at *
      generalize scD (planS b t) = S1 at *
      generalize scD (bothS t) = S4 at *
      generalize scD (eachS t) = S6 at *
      generalize scD m = S at *
      exact ⟨[.u, .o w3.d, .v (.int b), .v (prsD t), .v S1, x5, .v S4, .v S6, .v S], [.u, .o w3.d, .v (.int b), .v (prsD t), .v S1, x5, .v S4, .v S6, .v S], by simp [-ev_setT, ev_setTn, h8], by simp [a1, a2, a3], _, rfl, rfl⟩)
  refine ⟨ρ2, ?_⟩
  have d1 : (D.tup [.tup [.str "all", .str "rows", prsD t], .tup [.str "all", .str "refs", prsD t]]) = scD [.all "rows" t, .all "refs" t] := rfl
  have d2 : (D.tup [.tup [.str "each", .str "rows", prsD t.reverse], .tup [.str "each", .str "refs", prsD t.reverse]]) = scD [.each "rows" t.reverse, .each "refs" t.reverse] := rfl
  have d3 : D.tup [] = scD [] := rfl
  unfold b_law bagRo
  have hb' := hb.symm
  unfold bothS eachS at *
  generalize hS : scD (planS b t) = S at *
  generalize hP : prsD t = P at *
  cases he : t.isEmpty with
  | true =>
    rw [he] at ne e2
    simp only [if_true] at e2
    simp [-ev_forS, f1, hb', f2, p1, p2, p3, p4, p5]
    rw [e1]
    simp [-ev_forS, -ev_setT, ev_setTn, ne]
    exact e2
  | false =>
    rw [he] at ne e2
    simp only [Bool.false_eq_true, if_false] at e2
    simp [-ev_forS, f1, hb', f2, p1, p2, p3, p4, p5]
    rw [e1]
    simp [-ev_forS, -ev_setT, ev_setTn, ne, s4, d1, d2]
    exact e2
end DL

/-! the walk, printed by gen.py -/
namespace DL
open PySem L2
def top (i : Nat) : Stmt := PySem.Challenge.pw_pointsat_k11_whole_scripts_that_do_moves.main.body.getD i (.Pass ⟨0, 0, 0, 0⟩)
abbrev s_is_within : Stmt := top 9
theorem sc_is_within : FnScope ["value", "low", "high"] ["value", "low", "high"] (defScope s_is_within) := ⟨rfl, rfl, rfl, by decide +kernel, rfl, by decide +kernel, by decide +kernel⟩
abbrev s_is_one_of : Stmt := top 10
theorem sc_is_one_of : FnScope ["value", "some"] ["value", "some"] (defScope s_is_one_of) := ⟨rfl, rfl, rfl, by decide +kernel, rfl, by decide +kernel, by decide +kernel⟩
abbrev s_rises : Stmt := top 11
theorem sc_rises : FnScope ["some", "one", "other"] ["some"] (defScope s_rises) := ⟨rfl, rfl, rfl, by decide +kernel, rfl, by decide +kernel, by decide +kernel⟩
abbrev s_look_at_size : Stmt := top 12
theorem sc_look_at_size : FnScope ["size"] ["size"] (defScope s_look_at_size) := ⟨rfl, rfl, rfl, by decide +kernel, rfl, by decide +kernel, by decide +kernel⟩
abbrev s_is_pair : Stmt := top 13
theorem sc_is_pair : FnScope ["size", "value", "part"] ["size", "value"] (defScope s_is_pair) := ⟨rfl, rfl, rfl, by decide +kernel, rfl, by decide +kernel, by decide +kernel⟩
abbrev s_is_table : Stmt := top 14
theorem sc_is_table : FnScope ["size", "value", "pair"] ["size", "value"] (defScope s_is_table) := ⟨rfl, rfl, rfl, by decide +kernel, rfl, by decide +kernel, by decide +kernel⟩
abbrev s_is_row_of_pairs : Stmt := top 15
theorem sc_is_row_of_pairs : FnScope ["size", "value", "pair"] ["size", "value"] (defScope s_is_row_of_pairs) := ⟨rfl, rfl, rfl, by decide +kernel, rfl, by decide +kernel, by decide +kernel⟩
abbrev s_is_statement : Stmt := top 16
theorem sc_is_statement : FnScope ["size", "value"] ["size", "value"] (defScope s_is_statement) := ⟨rfl, rfl, rfl, by decide +kernel, rfl, by decide +kernel, by decide +kernel⟩
abbrev s_fits : Stmt := top 17
theorem sc_fits : FnScope ["size", "value", "one"] ["size", "value"] (defScope s_fits) := ⟨rfl, rfl, rfl, by decide +kernel, rfl, by decide +kernel, by decide +kernel⟩
abbrev s_look_at_script : Stmt := top 18
theorem sc_look_at_script : FnScope ["size", "script"] ["size", "script"] (defScope s_look_at_script) := ⟨rfl, rfl, rfl, by decide +kernel, rfl, by decide +kernel, by decide +kernel⟩
abbrev s_look_at : Stmt := top 19
theorem sc_look_at : FnScope ["size", "script"] ["size", "script"] (defScope s_look_at) := ⟨rfl, rfl, rfl, by decide +kernel, rfl, by decide +kernel, by decide +kernel⟩
abbrev s_is_script : Stmt := top 20
theorem sc_is_script : FnScope ["size", "value"] ["size", "value"] (defScope s_is_script) := ⟨rfl, rfl, rfl, by decide +kernel, rfl, by decide +kernel, by decide +kernel⟩
abbrev s_clashes : Stmt := top 22
theorem sc_clashes : FnScope ["rows"] ["rows"] (defScope s_clashes) := ⟨rfl, rfl, rfl, by decide +kernel, rfl, by decide +kernel, by decide +kernel⟩
abbrev s_turned_by : Stmt := top 23
theorem sc_turned_by : FnScope ["table", "numbers", "number"] ["table", "numbers"] (defScope s_turned_by) := ⟨rfl, rfl, rfl, by decide +kernel, rfl, by decide +kernel, by decide +kernel⟩
abbrev s_added : Stmt := top 24
theorem sc_added : FnScope ["size", "number", "amount"] ["size", "number", "amount"] (defScope s_added) := ⟨rfl, rfl, rfl, by decide +kernel, rfl, by decide +kernel, by decide +kernel⟩
abbrev s_changes_of : Stmt := top 25
theorem sc_changes_of : FnScope ["size", "statement", "rows", "index", "number", "order"] ["size", "statement", "rows"] (defScope s_changes_of) := ⟨rfl, rfl, rfl, by decide +kernel, rfl, by decide +kernel, by decide +kernel⟩
abbrev s_single_changes : Stmt := top 26
theorem sc_single_changes : FnScope ["size", "statement", "rows", "index", "number", "later"] ["size", "statement", "rows"] (defScope s_single_changes) := ⟨rfl, rfl, rfl, by decide +kernel, rfl, by decide +kernel, by decide +kernel⟩
abbrev s_turned_rows : Stmt := top 27
theorem sc_turned_rows : FnScope ["size", "statement", "rows", "later", "clash", "old", "new"] ["size", "statement", "rows"] (defScope s_turned_rows) := ⟨rfl, rfl, rfl, by decide +kernel, rfl, by decide +kernel, by decide +kernel⟩
abbrev s_turned_refs : Stmt := top 28
theorem sc_turned_refs : FnScope ["size", "statement", "refs", "number", "old", "new"] ["size", "statement", "refs"] (defScope s_turned_refs) := ⟨rfl, rfl, rfl, by decide +kernel, rfl, by decide +kernel, by decide +kernel⟩
abbrev s_done : Stmt := top 29
theorem sc_done : FnScope ["size", "script", "rows", "refs", "index", "statement", "clash"] ["size", "script", "rows", "refs"] (defScope s_done) := ⟨rfl, rfl, rfl, by decide +kernel, rfl, by decide +kernel, by decide +kernel⟩
abbrev s_effect_of : Stmt := top 30
theorem sc_effect_of : FnScope ["size", "script", "contents"] ["size", "script", "contents"] (defScope s_effect_of) := ⟨rfl, rfl, rfl, by decide +kernel, rfl, by decide +kernel, by decide +kernel⟩
abbrev s_are_moves : Stmt := top 32
theorem sc_are_moves : FnScope ["size", "value", "pair"] ["size", "value"] (defScope s_are_moves) := ⟨rfl, rfl, rfl, by decide +kernel, rfl, by decide +kernel, by decide +kernel⟩
abbrev s_look_at_moves : Stmt := top 33
theorem sc_look_at_moves : FnScope ["size", "moves"] ["size", "moves"] (defScope s_look_at_moves) := ⟨rfl, rfl, rfl, by decide +kernel, rfl, by decide +kernel, by decide +kernel⟩
abbrev s_does : Stmt := top 34
theorem sc_does : FnScope ["size", "script", "moves", "rows", "refs", "clash", "old", "new"] ["size", "script", "moves"] (defScope s_does) := ⟨rfl, rfl, rfl, by decide +kernel, rfl, by decide +kernel, by decide +kernel⟩
abbrev s_script_for : Stmt := top 35
theorem sc_script_for : FnScope ["size", "moves", "table", "olds", "number", "news", "pairs"] ["size", "moves"] (defScope s_script_for) := ⟨rfl, rfl, rfl, by decide +kernel, rfl, by decide +kernel, by decide +kernel⟩
abbrev s__law_well : Stmt := top 37
theorem sc__law_well : FnScope ["_law_cell", "_law_turn"] ["_law_cell", "_law_turn"] (defScope s__law_well) := ⟨rfl, rfl, rfl, by decide +kernel, rfl, by decide +kernel, by decide +kernel⟩
abbrev s__law_take : Stmt := top 38
theorem sc__law_take : FnScope ["_law_bag", "_law_many", "_law_found", "_law_p", "_law_n"] ["_law_bag", "_law_many"] (defScope s__law_take) := ⟨rfl, rfl, rfl, by decide +kernel, rfl, by decide +kernel, by decide +kernel⟩
abbrev s__law_bags : Stmt := top 39
theorem sc__law_bags : FnScope ["_law_script_here", "_law_most", "_law_k", "_law_cell"] ["_law_script_here", "_law_most"] (defScope s__law_bags) := ⟨rfl, rfl, rfl, by decide +kernel, rfl, by decide +kernel, by decide +kernel⟩
abbrev s__law_same : Stmt := top 40
theorem sc__law_same : FnScope ["_law_a", "_law_b", "_law_x", "_law_y"] ["_law_a", "_law_b"] (defScope s__law_same) := ⟨rfl, rfl, rfl, by decide +kernel, rfl, by decide +kernel, by decide +kernel⟩
abbrev s__law_pairs : Stmt := top 41
theorem sc__law_pairs : FnScope ["_law_bag", "_law_bound", "_law_many", "_law_k"] ["_law_bag", "_law_bound", "_law_many"] (defScope s__law_pairs) := ⟨rfl, rfl, rfl, by decide +kernel, rfl, by decide +kernel, by decide +kernel⟩
abbrev s__law_table : Stmt := top 42
theorem sc__law_table : FnScope ["_law_bag", "_law_bound", "_law_olds", "_law_number", "_law_news", "_law_found", "_law_old", "_law_new"] ["_law_bag", "_law_bound"] (defScope s__law_table) := ⟨rfl, rfl, rfl, by decide +kernel, rfl, by decide +kernel, by decide +kernel⟩
abbrev s__law_statement : Stmt := top 43
theorem sc__law_statement : FnScope ["_law_bag", "_law_bound", "_law_spot", "_law_way", "_law_amount"] ["_law_bag", "_law_bound", "_law_spot"] (defScope s__law_statement) := ⟨rfl, rfl, rfl, by decide +kernel, rfl, by decide +kernel, by decide +kernel⟩
abbrev s__law_twin : Stmt := top 44
theorem sc__law_twin : FnScope ["_law_bag", "_law_statement_here"] ["_law_bag", "_law_statement_here"] (defScope s__law_twin) := ⟨rfl, rfl, rfl, by decide +kernel, rfl, by decide +kernel, by decide +kernel⟩
abbrev s__law_script : Stmt := top 45
theorem sc__law_script : FnScope ["_law_bag", "_law_bound", "_law_most", "_law_found", "_law_turn", "_law_part", "_law_some", "_law_one", "_law_at"] ["_law_bag", "_law_bound", "_law_most"] (defScope s__law_script) := ⟨rfl, rfl, rfl, by decide +kernel, rfl, by decide +kernel, by decide +kernel⟩
abbrev s__law_all_contents : Stmt := top 46
theorem sc__law_all_contents : FnScope ["_law_bound", "_law_rows_here", "_law_number", "_law_row", "_law_found", "_law_many"] ["_law_bound"] (defScope s__law_all_contents) := ⟨rfl, rfl, rfl, by decide +kernel, rfl, by decide +kernel, by decide +kernel⟩
abbrev s__law_sum : Stmt := top 47
theorem sc__law_sum : FnScope ["_law_bound", "_law_number", "_law_amount"] ["_law_bound", "_law_number", "_law_amount"] (defScope s__law_sum) := ⟨rfl, rfl, rfl, by decide +kernel, rfl, by decide +kernel, by decide +kernel⟩
abbrev s__law_refs : Stmt := top 48
theorem sc__law_refs : FnScope ["_law_bound", "_law_statement_here", "_law_number", "_law_old", "_law_new"] ["_law_bound", "_law_statement_here", "_law_number"] (defScope s__law_refs) := ⟨rfl, rfl, rfl, by decide +kernel, rfl, by decide +kernel, by decide +kernel⟩
abbrev s__law_singles : Stmt := top 49
theorem sc__law_singles : FnScope ["_law_bound", "_law_statement_here", "_law_rows_here", "_law_row", "_law_some", "_law_number"] ["_law_bound", "_law_statement_here", "_law_rows_here"] (defScope s__law_singles) := ⟨rfl, rfl, rfl, by decide +kernel, rfl, by decide +kernel, by decide +kernel⟩
abbrev s__law_rows : Stmt := top 50
theorem sc__law_rows : FnScope ["_law_bound", "_law_statement_here", "_law_rows_here", "_law_later", "_law_row", "_law_fine", "_law_parts", "_law_pair", "_law_part", "_law_new", "_law_other"] ["_law_bound", "_law_statement_here", "_law_rows_here"] (defScope s__law_rows) := ⟨rfl, rfl, rfl, by decide +kernel, rfl, by decide +kernel, by decide +kernel⟩
abbrev s__law_done : Stmt := top 51
theorem sc__law_done : FnScope ["_law_bound", "_law_script_so", "_law_rows_here", "_law_refs_here", "_law_at", "_law_statement_here", "_law_number", "_law_bad"] ["_law_bound", "_law_script_so", "_law_rows_here", "_law_refs_here"] (defScope s__law_done) := ⟨rfl, rfl, rfl, by decide +kernel, rfl, by decide +kernel, by decide +kernel⟩
abbrev s__law_effect : Stmt := top 52
theorem sc__law_effect : FnScope ["_law_bound", "_law_script_so", "_law_some", "_law_stopped", "_law_rows_here", "_law_refs_here", "_law_number", "_law_many", "_law_clash"] ["_law_bound", "_law_script_so", "_law_some", "_law_stopped"] (defScope s__law_effect) := ⟨rfl, rfl, rfl, by decide +kernel, rfl, by decide +kernel, by decide +kernel⟩
abbrev s__law_errors : Stmt := top 53
theorem sc__law_errors : FnScope ["_law_some", "_law_due", "_law_rows_here", "_law_refs_here", "_law_clash", "_law_found", "_law_number", "_law_there", "_law_own", "_law_old", "_law_new"] ["_law_some", "_law_due"] (defScope s__law_errors) := ⟨rfl, rfl, rfl, by decide +kernel, rfl, by decide +kernel, by decide +kernel⟩
abbrev s__law_moves : Stmt := top 54
theorem sc__law_moves : FnScope ["_law_bag", "_law_bound", "_law_news", "_law_found", "_law_old"] ["_law_bag", "_law_bound"] (defScope s__law_moves) := ⟨rfl, rfl, rfl, by decide +kernel, rfl, by decide +kernel, by decide +kernel⟩
abbrev s__law_does : Stmt := top 55
theorem sc__law_does : FnScope ["_law_bound", "_law_plan", "_law_moves_here", "_law_rows_here", "_law_refs_here", "_law_clash", "_law_old", "_law_new"] ["_law_bound", "_law_plan", "_law_moves_here"] (defScope s__law_does) := ⟨rfl, rfl, rfl, by decide +kernel, rfl, by decide +kernel, by decide +kernel⟩
abbrev s_law : Stmt := top 56
theorem sc_law : FnScope ["_law_script_here", "_law_bag", "_law_bound", "_law_moves_here", "_law_plan", "_law_some", "_law_both", "_law_each", "_law_other"] ["_law_script_here"] (defScope s_law) := ⟨rfl, rfl, rfl, by decide +kernel, rfl, by decide +kernel, by decide +kernel⟩
structure Txt (K : PySem.W.Frag) (mg : Str → Option Value) : Prop where
  z_all : mg "all" = none
  z_bool : mg "bool" = none
  z_dict : mg "dict" = none
  z_enumerate : mg "enumerate" = none
  z_int : mg "int" = none
  z_isinstance : mg "isinstance" = none
  z_len : mg "len" = none
  z_list : mg "list" = none
  z_range : mg "range" = none
  z_set : mg "set" = none
  z_sorted : mg "sorted" = none
  z_str : mg "str" = none
  z_tuple : mg "tuple" = none
  z_zip : mg "zip" = none
  c_MOST : Glob K mg "MOST" c_MOST
  c_PLACES : Glob K mg "PLACES" c_PLACES
  c_WAYS : Glob K mg "WAYS" c_WAYS
  x_InvalidMoves : ExcOk K mg "InvalidMoves"
  x_InvalidScript : ExcOk K mg "InvalidScript"
  x_InvalidSize : ExcOk K mg "InvalidSize"
  d_is_within : DefAt K mg "is_within" s_is_within ["value", "low", "high"]
  d_is_one_of : DefAt K mg "is_one_of" s_is_one_of ["value", "some"]
  d_rises : DefAt K mg "rises" s_rises ["some"]
  d_look_at_size : DefAt K mg "look_at_size" s_look_at_size ["size"]
  d_is_pair : DefAt K mg "is_pair" s_is_pair ["size", "value"]
  d_is_table : DefAt K mg "is_table" s_is_table ["size", "value"]
  d_is_row_of_pairs : DefAt K mg "is_row_of_pairs" s_is_row_of_pairs ["size", "value"]
  d_is_statement : DefAt K mg "is_statement" s_is_statement ["size", "value"]
  d_fits : DefAt K mg "fits" s_fits ["size", "value"]
  d_look_at_script : DefAt K mg "look_at_script" s_look_at_script ["size", "script"]
  d_look_at : DefAt K mg "look_at" s_look_at ["size", "script"]
  d_is_script : DefAt K mg "is_script" s_is_script ["size", "value"]
  d_clashes : DefAt K mg "clashes" s_clashes ["rows"]
  d_turned_by : DefAt K mg "turned_by" s_turned_by ["table", "numbers"]
  d_added : DefAt K mg "added" s_added ["size", "number", "amount"]
  d_changes_of : DefAt K mg "changes_of" s_changes_of ["size", "statement", "rows"]
  d_single_changes : DefAt K mg "single_changes" s_single_changes ["size", "statement", "rows"]
  d_turned_rows : DefAt K mg "turned_rows" s_turned_rows ["size", "statement", "rows"]
  d_turned_refs : DefAt K mg "turned_refs" s_turned_refs ["size", "statement", "refs"]
  d_done : DefAt K mg "done" s_done ["size", "script", "rows", "refs"]
  d_effect_of : DefAt K mg "effect_of" s_effect_of ["size", "script", "contents"]
  d_are_moves : DefAt K mg "are_moves" s_are_moves ["size", "value"]
  d_look_at_moves : DefAt K mg "look_at_moves" s_look_at_moves ["size", "moves"]
  d_does : DefAt K mg "does" s_does ["size", "script", "moves"]
  d_script_for : DefAt K mg "script_for" s_script_for ["size", "moves"]
  d__law_well : DefAt K mg "_law_well" s__law_well ["_law_cell", "_law_turn"]
  d__law_take : DefAt K mg "_law_take" s__law_take ["_law_bag", "_law_many"]
  d__law_bags : DefAt K mg "_law_bags" s__law_bags ["_law_script_here", "_law_most"]
  d__law_same : DefAt K mg "_law_same" s__law_same ["_law_a", "_law_b"]
  d__law_pairs : DefAt K mg "_law_pairs" s__law_pairs ["_law_bag", "_law_bound", "_law_many"]
  d__law_table : DefAt K mg "_law_table" s__law_table ["_law_bag", "_law_bound"]
  d__law_statement : DefAt K mg "_law_statement" s__law_statement ["_law_bag", "_law_bound", "_law_spot"]
  d__law_twin : DefAt K mg "_law_twin" s__law_twin ["_law_bag", "_law_statement_here"]
  d__law_script : DefAt K mg "_law_script" s__law_script ["_law_bag", "_law_bound", "_law_most"]
  d__law_all_contents : DefAt K mg "_law_all_contents" s__law_all_contents ["_law_bound"]
  d__law_sum : DefAt K mg "_law_sum" s__law_sum ["_law_bound", "_law_number", "_law_amount"]
  d__law_refs : DefAt K mg "_law_refs" s__law_refs ["_law_bound", "_law_statement_here", "_law_number"]
  d__law_singles : DefAt K mg "_law_singles" s__law_singles ["_law_bound", "_law_statement_here", "_law_rows_here"]
  d__law_rows : DefAt K mg "_law_rows" s__law_rows ["_law_bound", "_law_statement_here", "_law_rows_here"]
  d__law_done : DefAt K mg "_law_done" s__law_done ["_law_bound", "_law_script_so", "_law_rows_here", "_law_refs_here"]
  d__law_effect : DefAt K mg "_law_effect" s__law_effect ["_law_bound", "_law_script_so", "_law_some", "_law_stopped"]
  d__law_errors : DefAt K mg "_law_errors" s__law_errors ["_law_some", "_law_due"]
  d__law_moves : DefAt K mg "_law_moves" s__law_moves ["_law_bag", "_law_bound"]
  d__law_does : DefAt K mg "_law_does" s__law_does ["_law_bound", "_law_plan", "_law_moves_here"]
section
variable {P : Program} {w : World} {K : PySem.W.Frag} {mg : Str → Option Value} {base : Heap}
theorem F_is_within (T : Txt K mg) : FnD P w K mg base 1 "is_within" 3 m_is_within := fnD (k := 0) T.d_is_within sc_is_within rfl rfl fun f cdv A outer s H E hr => (ss_one (s_ret (d_and (d_callB call_isi rdc_isi rfl T.z_isinstance bb_isinstance (ad_cons (d_var 0 rfl (by first | exact Or.inl rfl | exact Or.inr (Or.inl rfl) | exact Or.inr (Or.inr rfl))) (ad_cons (d_ty rfl T.z_int bb_int) ad_nil rfl) rfl) rfl rfl) (d_and (d_not (d_callB call_isi rdc_isi rfl T.z_isinstance bb_isinstance (ad_cons (d_var 0 rfl (by first | exact Or.inl rfl | exact Or.inr (Or.inl rfl) | exact Or.inr (Or.inr rfl))) (ad_cons (d_ty rfl T.z_bool bb_bool) ad_nil rfl) rfl) rfl rfl)) (d_one (d_chain op_le rd_le op_le rd_le (d_var 1 rfl (by first | exact Or.inl rfl | exact Or.inr (Or.inl rfl) | exact Or.inr (Or.inr rfl))) (d_var 0 rfl (by first | exact Or.inl rfl | exact Or.inr (Or.inl rfl) | exact Or.inr (Or.inr rfl))) (d_var 2 rfl (by first | exact Or.inl rfl | exact Or.inr (Or.inl rfl) | exact Or.inr (Or.inr rfl))) (by with_unfolding_all rfl)))))))
theorem F_is_one_of (T : Txt K mg) : FnD P w K mg base 1 "is_one_of" 2 m_is_one_of := fnD (k := 0) T.d_is_one_of sc_is_one_of rfl rfl fun f cdv A outer s H E hr => (ss_one (s_ret (d_and (d_callB call_isi rdc_isi rfl T.z_isinstance bb_isinstance (ad_cons (d_var 0 rfl (by first | exact Or.inl rfl | exact Or.inr (Or.inl rfl) | exact Or.inr (Or.inr rfl))) (ad_cons (d_ty rfl T.z_str bb_str) ad_nil rfl) rfl) rfl rfl) (d_one (d_cmp op_in_seq rd_in (d_var 0 rfl (by first | exact Or.inl rfl | exact Or.inr (Or.inl rfl) | exact Or.inr (Or.inr rfl))) (d_var 1 rfl (by first | exact Or.inl rfl | exact Or.inr (Or.inl rfl) | exact Or.inr (Or.inr rfl))) (by with_unfolding_all rfl))))))
theorem F_rises (T : Txt K mg) : FnD P w K mg base 1 "rises" 1 m_rises := fnD (k := 0) T.d_rises sc_rises rfl rfl fun f cdv A outer s H E hr => (ss_one (s_ret (d_callB (cr_all rfl) rdc_all rfl T.z_all bb_all (ad_cons (PF.pd (f_lc [("one", 1), ("other", 2)] rfl sc_rises.nd (i_zip rfl T.z_zip (ad_cons (d_var 0 rfl (by first | exact Or.inl rfl | exact Or.inr (Or.inl rfl) | exact Or.inr (Or.inr rfl))) (ad_cons (d_sl (d_var 0 rfl (by first | exact Or.inl rfl | exact Or.inr (Or.inl rfl) | exact Or.inr (Or.inr rfl))) (od_some d_int) od_none) ad_nil rfl) rfl) rfl rfl) (by kernel_rfl) (fun _ _ _ _ _ => (g_tup rfl (gs_cons (g_name 1 sc_rises.nd rfl (by first | exact Or.inl rfl | exact Or.inr rfl) (by first | exact Or.inl rfl | exact Or.inr rfl)) (gs_cons (g_name 2 sc_rises.nd rfl (by first | exact Or.inl rfl | exact Or.inr rfl) (by first | exact Or.inl rfl | exact Or.inr rfl)) gs_nil rfl) rfl) rfl rfl)) (by decide) (fun _ _ _ _ _ => ts_nil) (fun _ _ _ _ _ => (d_cmp op_lt rd_lt (d_var 1 rfl (by first | exact Or.inl rfl | exact Or.inr (Or.inl rfl) | exact Or.inr (Or.inr rfl))) (d_var 2 rfl (by first | exact Or.inl rfl | exact Or.inr (Or.inl rfl) | exact Or.inr (Or.inr rfl))) (nomark _))) (by intro _; rfl))) ad_nil rfl) rfl rfl)))
theorem F_look_at_size (T : Txt K mg) : FnD P w K mg base 2 "look_at_size" 1 m_look_at_size := fnD (k := 1) T.d_look_at_size sc_look_at_size rfl rfl fun f cdv A outer s H E hr => (ss_one (s_if (b_not (b_val (d_call (F_is_within T) (hr.mono (by decide)) rfl passF (ar_v (d_var 0 rfl (by first | exact Or.inl rfl | exact Or.inr (Or.inl rfl) | exact Or.inr (Or.inr rfl))) (ar_v d_int (ar_v d_int ar_nil rfl) rfl) rfl) rfl rfl rfl) (by intro _; rfl))) (ss_one (s_raiseX rfl takesF T.x_InvalidSize rfl)) ss_nil))
theorem F_is_pair (T : Txt K mg) : FnD P w K mg base 2 "is_pair" 2 m_is_pair := fnD (k := 1) T.d_is_pair sc_is_pair rfl rfl fun f cdv A outer s H E hr => (ss_one (s_ret (d_and (d_callB call_isi rdc_isi rfl T.z_isinstance bb_isinstance (ad_cons (d_var 1 rfl (by first | exact Or.inl rfl | exact Or.inr (Or.inl rfl) | exact Or.inr (Or.inr rfl))) (ad_cons (d_ty rfl T.z_tuple bb_tuple) ad_nil rfl) rfl) rfl rfl) (d_and (d_cmp (op_eqD hr.units) rd_eq (d_callB call_len2 rdc_len rfl T.z_len bb_len (ad_cons (d_var 1 rfl (by first | exact Or.inl rfl | exact Or.inr (Or.inl rfl) | exact Or.inr (Or.inr rfl))) ad_nil rfl) rfl rfl) d_int (nomark _)) (d_one (d_callB (cr_all rfl) rdc_all rfl T.z_all bb_all (ad_cons (PF.pd (f_lc [("part", 2)] rfl sc_is_pair.nd (i_seq (d_var 1 rfl (by first | exact Or.inl rfl | exact Or.inr (Or.inl rfl) | exact Or.inr (Or.inr rfl)))) (by kernel_rfl) (fun _ _ _ _ _ => (g_name 2 sc_is_pair.nd rfl (by first | exact Or.inl rfl | exact Or.inr rfl) (by first | exact Or.inl rfl | exact Or.inr rfl))) (by decide) (fun _ _ _ _ _ => ts_nil) (fun _ _ _ _ _ => (d_call (F_is_within T) (hr.mono (by decide)) rfl passL (ar_v (d_var 2 rfl (by first | exact Or.inl rfl | exact Or.inr (Or.inl rfl) | exact Or.inr (Or.inr rfl))) (ar_v d_int (ar_v (d_op op_sub rd_sub (d_var 0 rfl (by first | exact Or.inl rfl | exact Or.inr (Or.inl rfl) | exact Or.inr (Or.inr rfl))) d_int) ar_nil rfl) rfl) rfl) rfl rfl rfl)) (by intro _; rfl))) ad_nil rfl) rfl rfl))))))
theorem F_is_table (T : Txt K mg) : FnD P w K mg base 3 "is_table" 2 m_is_table := fnD (k := 2) T.d_is_table sc_is_table rfl rfl fun f cdv A outer s H E hr => (ss_cons (s_if (PBW.pb (b_or (b_not (b_val (d_callB call_isi rdc_isi rfl T.z_isinstance bb_isinstance (ad_cons (d_var 1 rfl (by first | exact Or.inl rfl | exact Or.inr (Or.inl rfl) | exact Or.inr (Or.inr rfl))) (ad_cons (d_ty rfl T.z_tuple bb_tuple) ad_nil rfl) rfl) rfl rfl) (by intro _; rfl))) (b_or (b_not (b_chain op_le rd_le op_le rd_le d_int (d_callB call_len2 rdc_len rfl T.z_len bb_len (ad_cons (d_var 1 rfl (by first | exact Or.inl rfl | exact Or.inr (Or.inl rfl) | exact Or.inr (Or.inr rfl))) ad_nil rfl) rfl rfl) (d_var 0 rfl (by first | exact Or.inl rfl | exact Or.inr (Or.inl rfl) | exact Or.inr (Or.inr rfl))) (by with_unfolding_all rfl))) (b_or1 (b_not (b_val (d_callB (cr_all rfl) rdc_all rfl T.z_all bb_all (ad_cons (PF.pd (f_lc [("pair", 2)] rfl sc_is_table.nd (i_seq (d_var 1 rfl (by first | exact Or.inl rfl | exact Or.inr (Or.inl rfl) | exact Or.inr (Or.inr rfl)))) (by kernel_rfl) (fun _ _ _ _ _ => (g_name 2 sc_is_table.nd rfl (by first | exact Or.inl rfl | exact Or.inr rfl) (by first | exact Or.inl rfl | exact Or.inr rfl))) (by decide) (fun _ _ _ _ _ => ts_nil) (fun _ _ _ _ _ => (d_call (F_is_pair T) (hr.mono (by decide)) rfl passL (ar_v (d_var 0 rfl (by first | exact Or.inl rfl | exact Or.inr (Or.inl rfl) | exact Or.inr (Or.inr rfl))) (ar_v (d_var 2 rfl (by first | exact Or.inl rfl | exact Or.inr (Or.inl rfl) | exact Or.inr (Or.inr rfl))) ar_nil rfl) rfl) rfl rfl rfl)) (by intro _; rfl))) ad_nil rfl) rfl rfl) (by intro _; rfl))))))) (ss_one (s_ret d_bl)) ss_nil) (ss_one (s_ret (d_call (F_rises T) (hr.mono (by decide)) rfl passF (ar_v (PF.pd (f_lc [("pair", 2)] rfl sc_is_table.nd (i_seq (d_var 1 rfl (by first | exact Or.inl rfl | exact Or.inr (Or.inl rfl) | exact Or.inr (Or.inr rfl)))) (by kernel_rfl) (fun _ _ _ _ _ => (g_name 2 sc_is_table.nd rfl (by first | exact Or.inl rfl | exact Or.inr rfl) (by first | exact Or.inl rfl | exact Or.inr rfl))) (by decide) (fun _ _ _ _ _ => ts_nil) (fun _ _ _ _ _ => (d_ix hr.units (d_var 2 rfl (by first | exact Or.inl rfl | exact Or.inr (Or.inl rfl) | exact Or.inr (Or.inr rfl))) d_int (fun _ _ => rfl))) (by intro _; rfl))) ar_nil rfl) rfl rfl rfl))))
theorem F_is_row_of_pairs (T : Txt K mg) : FnD P w K mg base 3 "is_row_of_pairs" 2 m_is_row_of_pairs := fnD (k := 2) T.d_is_row_of_pairs sc_is_row_of_pairs rfl rfl fun f cdv A outer s H E hr => (ss_one (s_ret (d_and (d_callB call_isi rdc_isi rfl T.z_isinstance bb_isinstance (ad_cons (d_var 1 rfl (by first | exact Or.inl rfl | exact Or.inr (Or.inl rfl) | exact Or.inr (Or.inr rfl))) (ad_cons (d_ty rfl T.z_tuple bb_tuple) ad_nil rfl) rfl) rfl rfl) (d_and (d_chain op_le rd_le op_le rd_le d_int (d_callB call_len2 rdc_len rfl T.z_len bb_len (ad_cons (d_var 1 rfl (by first | exact Or.inl rfl | exact Or.inr (Or.inl rfl) | exact Or.inr (Or.inr rfl))) ad_nil rfl) rfl rfl) d_int (by with_unfolding_all rfl)) (d_one (d_callB (cr_all rfl) rdc_all rfl T.z_all bb_all (ad_cons (PF.pd (f_lc [("pair", 2)] rfl sc_is_row_of_pairs.nd (i_seq (d_var 1 rfl (by first | exact Or.inl rfl | exact Or.inr (Or.inl rfl) | exact Or.inr (Or.inr rfl)))) (by kernel_rfl) (fun _ _ _ _ _ => (g_name 2 sc_is_row_of_pairs.nd rfl (by first | exact Or.inl rfl | exact Or.inr rfl) (by first | exact Or.inl rfl | exact Or.inr rfl))) (by decide) (fun _ _ _ _ _ => ts_nil) (fun _ _ _ _ _ => (d_call (F_is_pair T) (hr.mono (by decide)) rfl passL (ar_v (d_var 0 rfl (by first | exact Or.inl rfl | exact Or.inr (Or.inl rfl) | exact Or.inr (Or.inr rfl))) (ar_v (d_var 2 rfl (by first | exact Or.inl rfl | exact Or.inr (Or.inl rfl) | exact Or.inr (Or.inr rfl))) ar_nil rfl) rfl) rfl rfl rfl)) (by intro _; rfl))) ad_nil rfl) rfl rfl))))))
theorem F_is_statement (T : Txt K mg) : FnD P w K mg base 4 "is_statement" 2 m_is_statement := fnD (k := 3) T.d_is_statement sc_is_statement rfl rfl fun f cdv A outer s H E hr => (ss_cons (s_if (PBW.pb (b_or (b_not (b_val (d_callB call_isi rdc_isi rfl T.z_isinstance bb_isinstance (ad_cons (d_var 1 rfl (by first | exact Or.inl rfl | exact Or.inr (Or.inl rfl) | exact Or.inr (Or.inr rfl))) (ad_cons (d_ty rfl T.z_tuple bb_tuple) ad_nil rfl) rfl) rfl rfl) (by intro _; rfl))) (b_or (b_cmp op_lt rd_lt (d_callB call_len2 rdc_len rfl T.z_len bb_len (ad_cons (d_var 1 rfl (by first | exact Or.inl rfl | exact Or.inr (Or.inl rfl) | exact Or.inr (Or.inr rfl))) ad_nil rfl) rfl rfl) d_int (nomark _)) (b_or1 (b_not (b_val (d_call (F_is_one_of T) (hr.mono (by decide)) rfl passF (ar_v (d_ix hr.units (d_var 1 rfl (by first | exact Or.inl rfl | exact Or.inr (Or.inl rfl) | exact Or.inr (Or.inr rfl))) d_int (fun _ _ => rfl)) (ar_v (d_glb rfl T.c_PLACES) ar_nil rfl) rfl) rfl rfl rfl) (by intro _; rfl))))))) (ss_one (s_ret d_bl)) ss_nil) (ss_cons (s_if (b_val (d_call (F_is_one_of T) (hr.mono (by decide)) rfl passF (ar_v (d_ix hr.units (d_var 1 rfl (by first | exact Or.inl rfl | exact Or.inr (Or.inl rfl) | exact Or.inr (Or.inr rfl))) d_int (fun _ _ => rfl)) (ar_v (d_tup (ad_cons d_str ad_nil rfl)) ar_nil rfl) rfl) rfl rfl rfl) (by intro _; rfl)) (ss_one (s_ret (d_and (d_cmp (op_eqD hr.units) rd_eq (d_callB call_len2 rdc_len rfl T.z_len bb_len (ad_cons (d_var 1 rfl (by first | exact Or.inl rfl | exact Or.inr (Or.inl rfl) | exact Or.inr (Or.inr rfl))) ad_nil rfl) rfl rfl) d_int (nomark _)) (d_one (d_call (F_is_pair T) (hr.mono (by decide)) rfl passF (ar_v (d_var 0 rfl (by first | exact Or.inl rfl | exact Or.inr (Or.inl rfl) | exact Or.inr (Or.inr rfl))) (ar_v (d_sl (d_var 1 rfl (by first | exact Or.inl rfl | exact Or.inr (Or.inl rfl) | exact Or.inr (Or.inr rfl))) (od_some d_int) od_none) ar_nil rfl) rfl) rfl rfl rfl))))) ss_nil) (ss_cons (s_if (b_val (d_call (F_is_one_of T) (hr.mono (by decide)) rfl passF (ar_v (d_ix hr.units (d_var 1 rfl (by first | exact Or.inl rfl | exact Or.inr (Or.inl rfl) | exact Or.inr (Or.inr rfl))) d_int (fun _ _ => rfl)) (ar_v (d_tup (ad_cons d_str ad_nil rfl)) ar_nil rfl) rfl) rfl rfl rfl) (by intro _; rfl)) (ss_one (s_ret (d_and (d_cmp (op_eqD hr.units) rd_eq (d_callB call_len2 rdc_len rfl T.z_len bb_len (ad_cons (d_var 1 rfl (by first | exact Or.inl rfl | exact Or.inr (Or.inl rfl) | exact Or.inr (Or.inr rfl))) ad_nil rfl) rfl rfl) d_int (nomark _)) (d_and (d_call (F_is_within T) (hr.mono (by decide)) rfl passF (ar_v (d_ix hr.units (d_var 1 rfl (by first | exact Or.inl rfl | exact Or.inr (Or.inl rfl) | exact Or.inr (Or.inr rfl))) d_int (fun _ _ => rfl)) (ar_v (d_un un_neg rd_neg d_int) (ar_v d_int ar_nil rfl) rfl) rfl) rfl rfl rfl) (d_and (d_cmp (op_neD hr.units) rd_ne (d_ix hr.units (d_var 1 rfl (by first | exact Or.inl rfl | exact Or.inr (Or.inl rfl) | exact Or.inr (Or.inr rfl))) d_int (fun _ _ => rfl)) d_int (nomark _)) (d_one (d_call (F_is_one_of T) (hr.mono (by decide)) rfl passF (ar_v (d_ix hr.units (d_var 1 rfl (by first | exact Or.inl rfl | exact Or.inr (Or.inl rfl) | exact Or.inr (Or.inr rfl))) d_int (fun _ _ => rfl)) (ar_v (d_glb rfl T.c_WAYS) ar_nil rfl) rfl) rfl rfl rfl))))))) ss_nil) (ss_cons (s_if (b_val (d_call (F_is_one_of T) (hr.mono (by decide)) rfl passF (ar_v (d_ix hr.units (d_var 1 rfl (by first | exact Or.inl rfl | exact Or.inr (Or.inl rfl) | exact Or.inr (Or.inr rfl))) d_int (fun _ _ => rfl)) (ar_v (d_tup (ad_cons d_str ad_nil rfl)) ar_nil rfl) rfl) rfl rfl rfl) (by intro _; rfl)) (ss_one (s_ret (d_and (d_cmp (op_eqD hr.units) rd_eq (d_callB call_len2 rdc_len rfl T.z_len bb_len (ad_cons (d_var 1 rfl (by first | exact Or.inl rfl | exact Or.inr (Or.inl rfl) | exact Or.inr (Or.inr rfl))) ad_nil rfl) rfl rfl) d_int (nomark _)) (d_one (d_call (F_is_table T) (hr.mono (by decide)) rfl passF (ar_v (d_var 0 rfl (by first | exact Or.inl rfl | exact Or.inr (Or.inl rfl) | exact Or.inr (Or.inr rfl))) (ar_v (d_ix hr.units (d_var 1 rfl (by first | exact Or.inl rfl | exact Or.inr (Or.inl rfl) | exact Or.inr (Or.inr rfl))) d_int (fun _ _ => rfl)) ar_nil rfl) rfl) rfl rfl rfl))))) ss_nil) (ss_one (s_ret (d_and (d_call (F_is_one_of T) (hr.mono (by decide)) rfl passF (ar_v (d_ix hr.units (d_var 1 rfl (by first | exact Or.inl rfl | exact Or.inr (Or.inl rfl) | exact Or.inr (Or.inr rfl))) d_int (fun _ _ => rfl)) (ar_v (d_tup (ad_cons d_str ad_nil rfl)) ar_nil rfl) rfl) rfl rfl rfl) (d_and (d_cmp (op_eqD hr.units) rd_eq (d_callB call_len2 rdc_len rfl T.z_len bb_len (ad_cons (d_var 1 rfl (by first | exact Or.inl rfl | exact Or.inr (Or.inl rfl) | exact Or.inr (Or.inr rfl))) ad_nil rfl) rfl rfl) d_int (nomark _)) (d_one (d_call (F_is_row_of_pairs T) (hr.mono (by decide)) rfl passF (ar_v (d_var 0 rfl (by first | exact Or.inl rfl | exact Or.inr (Or.inl rfl) | exact Or.inr (Or.inr rfl))) (ar_v (d_ix hr.units (d_var 1 rfl (by first | exact Or.inl rfl | exact Or.inr (Or.inl rfl) | exact Or.inr (Or.inr rfl))) d_int (fun _ _ => rfl)) ar_nil rfl) rfl) rfl rfl rfl))))))))))
theorem F_fits (T : Txt K mg) : FnD P w K mg base 5 "fits" 2 m_fits := fnD (k := 4) T.d_fits sc_fits rfl rfl fun f cdv A outer s H E hr => (ss_one (s_ret (d_and (d_callB call_isi rdc_isi rfl T.z_isinstance bb_isinstance (ad_cons (d_var 1 rfl (by first | exact Or.inl rfl | exact Or.inr (Or.inl rfl) | exact Or.inr (Or.inr rfl))) (ad_cons (d_ty rfl T.z_tuple bb_tuple) ad_nil rfl) rfl) rfl rfl) (d_and (d_cmp op_le rd_le (d_callB call_len2 rdc_len rfl T.z_len bb_len (ad_cons (d_var 1 rfl (by first | exact Or.inl rfl | exact Or.inr (Or.inl rfl) | exact Or.inr (Or.inr rfl))) ad_nil rfl) rfl rfl) (d_glb rfl T.c_MOST) (nomark _)) (d_one (d_callB (cr_all rfl) rdc_all rfl T.z_all bb_all (ad_cons (PF.pd (f_lc [("one", 2)] rfl sc_fits.nd (i_seq (d_var 1 rfl (by first | exact Or.inl rfl | exact Or.inr (Or.inl rfl) | exact Or.inr (Or.inr rfl)))) (by kernel_rfl) (fun _ _ _ _ _ => (g_name 2 sc_fits.nd rfl (by first | exact Or.inl rfl | exact Or.inr rfl) (by first | exact Or.inl rfl | exact Or.inr rfl))) (by decide) (fun _ _ _ _ _ => ts_nil) (fun _ _ _ _ _ => (d_call (F_is_statement T) (hr.mono (by decide)) rfl passL (ar_v (d_var 0 rfl (by first | exact Or.inl rfl | exact Or.inr (Or.inl rfl) | exact Or.inr (Or.inr rfl))) (ar_v (d_var 2 rfl (by first | exact Or.inl rfl | exact Or.inr (Or.inl rfl) | exact Or.inr (Or.inr rfl))) ar_nil rfl) rfl) rfl rfl rfl)) (by intro _; rfl))) ad_nil rfl) rfl rfl))))))
theorem F_look_at_script (T : Txt K mg) : FnD P w K mg base 6 "look_at_script" 2 m_look_at_script := fnD (k := 5) T.d_look_at_script sc_look_at_script rfl rfl fun f cdv A outer s H E hr => (ss_one (s_if (b_not (b_val (d_call (F_fits T) (hr.mono (by decide)) rfl passF (ar_v (d_var 0 rfl (by first | exact Or.inl rfl | exact Or.inr (Or.inl rfl) | exact Or.inr (Or.inr rfl))) (ar_v (d_var 1 rfl (by first | exact Or.inl rfl | exact Or.inr (Or.inl rfl) | exact Or.inr (Or.inr rfl))) ar_nil rfl) rfl) rfl rfl rfl) (by intro _; rfl))) (ss_one (s_raiseX rfl takesF T.x_InvalidScript rfl)) ss_nil))
theorem F_look_at (T : Txt K mg) : FnD P w K mg base 7 "look_at" 2 m_look_at := fnD (k := 6) T.d_look_at sc_look_at rfl rfl fun f cdv A outer s H E hr => (ss_cons (s_expr (d_call (F_look_at_size T) (hr.mono (by decide)) rfl passF (ar_v (d_var 0 rfl (by first | exact Or.inl rfl | exact Or.inr (Or.inl rfl) | exact Or.inr (Or.inr rfl))) ar_nil rfl) rfl rfl rfl) rfl) (ss_one (s_expr (d_call (F_look_at_script T) (hr.mono (by decide)) rfl passF (ar_v (d_var 0 rfl (by first | exact Or.inl rfl | exact Or.inr (Or.inl rfl) | exact Or.inr (Or.inr rfl))) (ar_v (d_var 1 rfl (by first | exact Or.inl rfl | exact Or.inr (Or.inl rfl) | exact Or.inr (Or.inr rfl))) ar_nil rfl) rfl) rfl rfl rfl) rfl)))
theorem F_is_script (T : Txt K mg) : FnD P w K mg base 6 "is_script" 2 m_is_script := fnD (k := 5) T.d_is_script sc_is_script rfl rfl fun f cdv A outer s H E hr => (ss_cons (s_expr (d_call (F_look_at_size T) (hr.mono (by decide)) rfl passF (ar_v (d_var 0 rfl (by first | exact Or.inl rfl | exact Or.inr (Or.inl rfl) | exact Or.inr (Or.inr rfl))) ar_nil rfl) rfl rfl rfl) rfl) (ss_one (s_ret (d_call (F_fits T) (hr.mono (by decide)) rfl passF (ar_v (d_var 0 rfl (by first | exact Or.inl rfl | exact Or.inr (Or.inl rfl) | exact Or.inr (Or.inr rfl))) (ar_v (d_var 1 rfl (by first | exact Or.inl rfl | exact Or.inr (Or.inl rfl) | exact Or.inr (Or.inr rfl))) ar_nil rfl) rfl) rfl rfl rfl))))
theorem F_clashes (T : Txt K mg) : FnD P w K mg base 1 "clashes" 1 m_clashes := fnD (k := 0) T.d_clashes sc_clashes rfl rfl fun f cdv A outer s H E hr => (ss_one (s_ret (d_cmp op_lt rd_lt (d_lenSet rfl T.z_len rfl T.z_set (d_var 0 rfl (by first | exact Or.inl rfl | exact Or.inr (Or.inl rfl) | exact Or.inr (Or.inr rfl))) rfl rfl) (d_callB call_len2 rdc_len rfl T.z_len bb_len (ad_cons (d_var 0 rfl (by first | exact Or.inl rfl | exact Or.inr (Or.inl rfl) | exact Or.inr (Or.inr rfl))) ad_nil rfl) rfl rfl) (nomark _))))
theorem F_turned_by (T : Txt K mg) : FnD P w K mg base 1 "turned_by" 2 m_turned_by := fnD (k := 0) T.d_turned_by sc_turned_by rfl rfl fun f cdv A outer s H E hr => (ss_one (s_ret (d_callTy call_tupX rdc_tup rfl T.z_tuple bb_tuple (ad_cons (PF.pd (f_lc [("number", 2)] rfl sc_turned_by.nd (i_seq (d_var 1 rfl (by first | exact Or.inl rfl | exact Or.inr (Or.inl rfl) | exact Or.inr (Or.inr rfl)))) (by kernel_rfl) (fun _ _ _ _ _ => (g_name 2 sc_turned_by.nd rfl (by first | exact Or.inl rfl | exact Or.inr rfl) (by first | exact Or.inl rfl | exact Or.inr rfl))) (by decide) (fun _ _ _ _ _ => ts_nil) (fun _ _ _ _ _ => (d_get hr.units (d_var 0 rfl (by first | exact Or.inl rfl | exact Or.inr (Or.inl rfl) | exact Or.inr (Or.inr rfl))) (d_var 2 rfl (by first | exact Or.inl rfl | exact Or.inr (Or.inl rfl) | exact Or.inr (Or.inr rfl))) (d_var 2 rfl (by first | exact Or.inl rfl | exact Or.inr (Or.inl rfl) | exact Or.inr (Or.inr rfl))) ⟨rfl, rfl, rfl, rfl⟩)) (by intro _; rfl))) ad_nil rfl) rfl rfl)))
theorem F_added (T : Txt K mg) : FnD P w K mg base 1 "added" 3 m_added := fnD (k := 0) T.d_added sc_added rfl rfl fun f cdv A outer s H E hr => (ss_one (s_ret (d_if (b_chain op_le rd_le op_lt rd_lt d_int (d_op op_addA rd_add (d_var 1 rfl (by first | exact Or.inl rfl | exact Or.inr (Or.inl rfl) | exact Or.inr (Or.inr rfl))) (d_var 2 rfl (by first | exact Or.inl rfl | exact Or.inr (Or.inl rfl) | exact Or.inr (Or.inr rfl)))) (d_var 0 rfl (by first | exact Or.inl rfl | exact Or.inr (Or.inl rfl) | exact Or.inr (Or.inr rfl))) (by with_unfolding_all rfl)) (d_op op_addA rd_add (d_var 1 rfl (by first | exact Or.inl rfl | exact Or.inr (Or.inl rfl) | exact Or.inr (Or.inr rfl))) (d_var 2 rfl (by first | exact Or.inl rfl | exact Or.inr (Or.inl rfl) | exact Or.inr (Or.inr rfl)))) (d_var 1 rfl (by first | exact Or.inl rfl | exact Or.inr (Or.inl rfl) | exact Or.inr (Or.inr rfl))))))
theorem F_changes_of (T : Txt K mg) : FnD P w K mg base 2 "changes_of" 3 m_changes_of := fnD (k := 1) T.d_changes_of sc_changes_of rfl rfl fun f cdv A outer s H E hr => (ss_cons (s_if (b_cmp (op_eqD hr.units) rd_eq (d_ix hr.units (d_var 1 rfl (by first | exact Or.inl rfl | exact Or.inr (Or.inl rfl) | exact Or.inr (Or.inr rfl))) d_int (fun _ _ => rfl)) d_str (nomark _)) (ss_one (s_ret (PF.pd (f_lc [("index", 3), ("number", 4)] rfl sc_changes_of.nd (i_enumA rfl T.z_enumerate (ad_cons (d_var 2 rfl (by first | exact Or.inl rfl | exact Or.inr (Or.inl rfl) | exact Or.inr (Or.inr rfl))) ad_nil rfl) rfl) (by kernel_rfl) (fun _ _ _ _ _ => (g_tup rfl (gs_cons (g_name 3 sc_changes_of.nd rfl (by first | exact Or.inl rfl | exact Or.inr rfl) (by first | exact Or.inl rfl | exact Or.inr rfl)) (gs_cons (g_name 4 sc_changes_of.nd rfl (by first | exact Or.inl rfl | exact Or.inr rfl) (by first | exact Or.inl rfl | exact Or.inr rfl)) gs_nil rfl) rfl) rfl rfl)) (by decide) (fun _ _ _ _ _ => (ts_one (b_cmp (op_eqD hr.units) rd_eq (d_var 4 rfl (by first | exact Or.inl rfl | exact Or.inr (Or.inl rfl) | exact Or.inr (Or.inr rfl))) (d_ix hr.units (d_var 1 rfl (by first | exact Or.inl rfl | exact Or.inr (Or.inl rfl) | exact Or.inr (Or.inr rfl))) d_int (fun _ _ => rfl)) (nomark _)))) (fun _ _ _ _ _ => (d_tup (ad_cons (d_var 3 rfl (by first | exact Or.inl rfl | exact Or.inr (Or.inl rfl) | exact Or.inr (Or.inr rfl))) (ad_cons (d_ix hr.units (d_var 1 rfl (by first | exact Or.inl rfl | exact Or.inr (Or.inl rfl) | exact Or.inr (Or.inr rfl))) d_int (fun _ _ => rfl)) ad_nil rfl) rfl))) (by intro _; rfl))))) ss_nil) (ss_cons (s_set 5 sc_changes_of.nd rfl (by first | exact Or.inl rfl | exact Or.inr rfl) (by first | exact Or.inl rfl | exact Or.inr rfl) (PF.pd (f_callB (cr_sortA hr.units) rdc_sort rfl T.z_sorted bb_sorted (ad_cons (PF.pd (f_lc [("index", 3), ("number", 4)] rfl sc_changes_of.nd (i_enumA rfl T.z_enumerate (ad_cons (d_var 2 rfl (by first | exact Or.inl rfl | exact Or.inr (Or.inl rfl) | exact Or.inr (Or.inr rfl))) ad_nil rfl) rfl) (by kernel_rfl) (fun _ _ _ _ _ => (g_tup rfl (gs_cons (g_name 3 sc_changes_of.nd rfl (by first | exact Or.inl rfl | exact Or.inr rfl) (by first | exact Or.inl rfl | exact Or.inr rfl)) (gs_cons (g_name 4 sc_changes_of.nd rfl (by first | exact Or.inl rfl | exact Or.inr rfl) (by first | exact Or.inl rfl | exact Or.inr rfl)) gs_nil rfl) rfl) rfl rfl)) (by decide) (fun _ _ _ _ _ => ts_nil) (fun _ _ _ _ _ => (d_tup (ad_cons (d_var 4 rfl (by first | exact Or.inl rfl | exact Or.inr (Or.inl rfl) | exact Or.inr (Or.inr rfl))) (ad_cons (d_var 3 rfl (by first | exact Or.inl rfl | exact Or.inr (Or.inl rfl) | exact Or.inr (Or.inr rfl))) ad_nil rfl) rfl))) (by intro _; rfl))) ad_nil rfl) rfl rfl)) rfl) (ss_cons (s_if (b_cmp (op_eqD hr.units) rd_eq (d_ix hr.units (d_var 1 rfl (by first | exact Or.inl rfl | exact Or.inr (Or.inl rfl) | exact Or.inr (Or.inr rfl))) d_int (fun _ _ => rfl)) d_str (nomark _)) (ss_one (s_set 5 sc_changes_of.nd rfl (by first | exact Or.inl rfl | exact Or.inr rfl) (by first | exact Or.inl rfl | exact Or.inr rfl) (d_rev (d_var 5 rfl (by first | exact Or.inl rfl | exact Or.inr (Or.inl rfl) | exact Or.inr (Or.inr rfl)))) rfl)) ss_nil) (ss_one (s_ret (PF.pd (f_lc [("number", 4), ("index", 3)] rfl sc_changes_of.nd (i_seq (d_var 5 rfl (by first | exact Or.inl rfl | exact Or.inr (Or.inl rfl) | exact Or.inr (Or.inr rfl)))) (by kernel_rfl) (fun _ _ _ _ _ => (g_tup rfl (gs_cons (g_name 4 sc_changes_of.nd rfl (by first | exact Or.inl rfl | exact Or.inr rfl) (by first | exact Or.inl rfl | exact Or.inr rfl)) (gs_cons (g_name 3 sc_changes_of.nd rfl (by first | exact Or.inl rfl | exact Or.inr rfl) (by first | exact Or.inl rfl | exact Or.inr rfl)) gs_nil rfl) rfl) rfl rfl)) (by decide) (fun _ _ _ _ _ => ts_nil) (fun _ _ _ _ _ => (d_tup (ad_cons (d_var 3 rfl (by first | exact Or.inl rfl | exact Or.inr (Or.inl rfl) | exact Or.inr (Or.inr rfl))) (ad_cons (d_call (F_added T) (hr.mono (by decide)) rfl passL (ar_v (d_var 0 rfl (by first | exact Or.inl rfl | exact Or.inr (Or.inl rfl) | exact Or.inr (Or.inr rfl))) (ar_v (d_var 4 rfl (by first | exact Or.inl rfl | exact Or.inr (Or.inl rfl) | exact Or.inr (Or.inr rfl))) (ar_v (d_ix hr.units (d_var 1 rfl (by first | exact Or.inl rfl | exact Or.inr (Or.inl rfl) | exact Or.inr (Or.inr rfl))) d_int (fun _ _ => rfl)) ar_nil rfl) rfl) rfl) rfl rfl rfl) ad_nil rfl) rfl))) (by intro _; rfl))))))))
theorem F_single_changes (T : Txt K mg) : FnD P w K mg base 3 "single_changes" 3 m_single_changes := fnD (k := 2) T.d_single_changes sc_single_changes rfl rfl fun f cdv A outer s H E hr => (ss_cons (s_for ownF rfl (i_seq (d_call (F_changes_of T) (hr.mono (by decide)) rfl passF (ar_v (d_var 0 rfl (by first | exact Or.inl rfl | exact Or.inr (Or.inl rfl) | exact Or.inr (Or.inr rfl))) (ar_v (d_var 1 rfl (by first | exact Or.inl rfl | exact Or.inr (Or.inl rfl) | exact Or.inr (Or.inr rfl))) (ar_v (d_var 2 rfl (by first | exact Or.inl rfl | exact Or.inr (Or.inl rfl) | exact Or.inr (Or.inr rfl))) ar_nil rfl) rfl) rfl) rfl rfl rfl)) (g_tup rfl (gs_cons (g_name 3 sc_single_changes.nd rfl (by first | exact Or.inl rfl | exact Or.inr rfl) (by first | exact Or.inl rfl | exact Or.inr rfl)) (gs_cons (g_name 4 sc_single_changes.nd rfl (by first | exact Or.inl rfl | exact Or.inr rfl) (by first | exact Or.inl rfl | exact Or.inr rfl)) gs_nil rfl) rfl) rfl rfl) (ss_cons (s_set 5 sc_single_changes.nd rfl (by first | exact Or.inl rfl | exact Or.inr rfl) (by first | exact Or.inl rfl | exact Or.inr rfl) (d_op op_addA rd_add (d_op op_addA rd_add (d_sl (d_var 2 rfl (by first | exact Or.inl rfl | exact Or.inr (Or.inl rfl) | exact Or.inr (Or.inr rfl))) od_none (od_some (d_var 3 rfl (by first | exact Or.inl rfl | exact Or.inr (Or.inl rfl) | exact Or.inr (Or.inr rfl))))) (d_tup (ad_cons (d_var 4 rfl (by first | exact Or.inl rfl | exact Or.inr (Or.inl rfl) | exact Or.inr (Or.inr rfl))) ad_nil rfl))) (d_sl (d_var 2 rfl (by first | exact Or.inl rfl | exact Or.inr (Or.inl rfl) | exact Or.inr (Or.inr rfl))) (od_some (d_op op_addA rd_add (d_var 3 rfl (by first | exact Or.inl rfl | exact Or.inr (Or.inl rfl) | exact Or.inr (Or.inr rfl))) d_int)) od_none)) rfl) (ss_cons (s_if (b_val (d_call (F_clashes T) (hr.mono (by decide)) rfl passF (ar_v (d_var 5 rfl (by first | exact Or.inl rfl | exact Or.inr (Or.inl rfl) | exact Or.inr (Or.inr rfl))) ar_nil rfl) rfl rfl rfl) (by intro _; rfl)) (ss_one (s_ret (d_tup (ad_cons (d_var 2 rfl (by first | exact Or.inl rfl | exact Or.inr (Or.inl rfl) | exact Or.inr (Or.inr rfl))) (ad_cons d_bl ad_nil rfl) rfl)))) ss_nil) (ss_one (s_set 2 sc_single_changes.nd rfl (by first | exact Or.inl rfl | exact Or.inr rfl) (by first | exact Or.inl rfl | exact Or.inr rfl) (d_var 5 rfl (by first | exact Or.inl rfl | exact Or.inr (Or.inl rfl) | exact Or.inr (Or.inr rfl))) rfl)))) (by intro _; rfl)) (ss_one (s_ret (d_tup (ad_cons (d_var 2 rfl (by first | exact Or.inl rfl | exact Or.inr (Or.inl rfl) | exact Or.inr (Or.inr rfl))) (ad_cons d_bl ad_nil rfl) rfl)))))
theorem F_turned_rows (T : Txt K mg) : FnD P w K mg base 4 "turned_rows" 3 m_turned_rows := fnD (k := 3) T.d_turned_rows sc_turned_rows rfl rfl fun f cdv A outer s H E hr => (ss_cons (s_if (b_cmp (op_eqD hr.units) rd_eq (d_ix hr.units (d_var 1 rfl (by first | exact Or.inl rfl | exact Or.inr (Or.inl rfl) | exact Or.inr (Or.inr rfl))) d_int (fun _ _ => rfl)) d_str (nomark _)) (ss_cons (s_set 3 sc_turned_rows.nd rfl (by first | exact Or.inl rfl | exact Or.inr rfl) (by first | exact Or.inl rfl | exact Or.inr rfl) (d_call (F_turned_by T) (hr.mono (by decide)) rfl passF (ar_v (PF.pd (f_callTy (cr_dictA rfl) rdc_dictA rfl T.z_dict bb_dict (ad_cons (d_ix hr.units (d_var 1 rfl (by first | exact Or.inl rfl | exact Or.inr (Or.inl rfl) | exact Or.inr (Or.inr rfl))) d_int (fun _ _ => rfl)) ad_nil rfl) rfl rfl)) (ar_v (d_var 2 rfl (by first | exact Or.inl rfl | exact Or.inr (Or.inl rfl) | exact Or.inr (Or.inr rfl))) ar_nil rfl) rfl) rfl rfl rfl) rfl) (ss_one (s_ret (d_if (b_val (d_call (F_clashes T) (hr.mono (by decide)) rfl passF (ar_v (d_var 3 rfl (by first | exact Or.inl rfl | exact Or.inr (Or.inl rfl) | exact Or.inr (Or.inr rfl))) ar_nil rfl) rfl rfl rfl) (by intro _; rfl)) (d_tup (ad_cons (d_var 2 rfl (by first | exact Or.inl rfl | exact Or.inr (Or.inl rfl) | exact Or.inr (Or.inr rfl))) (ad_cons d_bl ad_nil rfl) rfl)) (d_tup (ad_cons (d_var 3 rfl (by first | exact Or.inl rfl | exact Or.inr (Or.inl rfl) | exact Or.inr (Or.inr rfl))) (ad_cons d_bl ad_nil rfl) rfl)))))) ss_nil) (ss_cons (s_if (b_cmp (op_neD hr.units) rd_ne (d_ix hr.units (d_var 1 rfl (by first | exact Or.inl rfl | exact Or.inr (Or.inl rfl) | exact Or.inr (Or.inr rfl))) d_int (fun _ _ => rfl)) d_str (nomark _)) (ss_one (s_ret (d_call (F_single_changes T) (hr.mono (by decide)) rfl passF (ar_v (d_var 0 rfl (by first | exact Or.inl rfl | exact Or.inr (Or.inl rfl) | exact Or.inr (Or.inr rfl))) (ar_v (d_var 1 rfl (by first | exact Or.inl rfl | exact Or.inr (Or.inl rfl) | exact Or.inr (Or.inr rfl))) (ar_v (d_var 2 rfl (by first | exact Or.inl rfl | exact Or.inr (Or.inl rfl) | exact Or.inr (Or.inr rfl))) ar_nil rfl) rfl) rfl) rfl rfl rfl))) ss_nil) (ss_cons (s_set 4 sc_turned_rows.nd rfl (by first | exact Or.inl rfl | exact Or.inr rfl) (by first | exact Or.inl rfl | exact Or.inr rfl) d_bl rfl) (ss_cons (s_for ownF rfl (i_seq (d_ix hr.units (d_var 1 rfl (by first | exact Or.inl rfl | exact Or.inr (Or.inl rfl) | exact Or.inr (Or.inr rfl))) d_int (fun _ _ => rfl))) (g_tup rfl (gs_cons (g_name 5 sc_turned_rows.nd rfl (by first | exact Or.inl rfl | exact Or.inr rfl) (by first | exact Or.inl rfl | exact Or.inr rfl)) (gs_cons (g_name 6 sc_turned_rows.nd rfl (by first | exact Or.inl rfl | exact Or.inr rfl) (by first | exact Or.inl rfl | exact Or.inr rfl)) gs_nil rfl) rfl) rfl rfl) (ss_one (s_if (b_not (b_val (d_var 4 rfl (by first | exact Or.inl rfl | exact Or.inr (Or.inl rfl) | exact Or.inr (Or.inr rfl))) (by intro _; rfl))) (ss_one (s_asg (d_call (F_single_changes T) (hr.mono (by decide)) rfl passF (ar_v (d_var 0 rfl (by first | exact Or.inl rfl | exact Or.inr (Or.inl rfl) | exact Or.inr (Or.inr rfl))) (ar_v (d_tup (ad_cons d_str (ad_cons d_str (ad_cons (d_var 5 rfl (by first | exact Or.inl rfl | exact Or.inr (Or.inl rfl) | exact Or.inr (Or.inr rfl))) (ad_cons (d_var 6 rfl (by first | exact Or.inl rfl | exact Or.inr (Or.inl rfl) | exact Or.inr (Or.inr rfl))) ad_nil rfl) rfl) rfl) rfl)) (ar_v (d_var 2 rfl (by first | exact Or.inl rfl | exact Or.inr (Or.inl rfl) | exact Or.inr (Or.inr rfl))) ar_nil rfl) rfl) rfl) rfl rfl rfl) (g_tup rfl (gs_cons (g_name 2 sc_turned_rows.nd rfl (by first | exact Or.inl rfl | exact Or.inr rfl) (by first | exact Or.inl rfl | exact Or.inr rfl)) (gs_cons (g_name 4 sc_turned_rows.nd rfl (by first | exact Or.inl rfl | exact Or.inr rfl) (by first | exact Or.inl rfl | exact Or.inr rfl)) gs_nil rfl) rfl) rfl rfl) rfl rfl rfl)) ss_nil)) (by intro _; rfl)) (ss_one (s_ret (d_tup (ad_cons (d_var 2 rfl (by first | exact Or.inl rfl | exact Or.inr (Or.inl rfl) | exact Or.inr (Or.inr rfl))) (ad_cons (d_var 4 rfl (by first | exact Or.inl rfl | exact Or.inr (Or.inl rfl) | exact Or.inr (Or.inr rfl))) ad_nil rfl) rfl))))))))
theorem F_turned_refs (T : Txt K mg) : FnD P w K mg base 2 "turned_refs" 3 m_turned_refs := fnD (k := 1) T.d_turned_refs sc_turned_refs rfl rfl fun f cdv A outer s H E hr => (ss_cons (s_if (b_cmp (op_eqD hr.units) rd_eq (d_ix hr.units (d_var 1 rfl (by first | exact Or.inl rfl | exact Or.inr (Or.inl rfl) | exact Or.inr (Or.inr rfl))) d_int (fun _ _ => rfl)) d_str (nomark _)) (ss_one (s_ret (d_call (F_turned_by T) (hr.mono (by decide)) rfl passF (ar_v (PF.pd (f_disp1 (d_ix hr.units (d_var 1 rfl (by first | exact Or.inl rfl | exact Or.inr (Or.inl rfl) | exact Or.inr (Or.inr rfl))) d_int (fun _ _ => rfl)) (d_ix hr.units (d_var 1 rfl (by first | exact Or.inl rfl | exact Or.inr (Or.inl rfl) | exact Or.inr (Or.inr rfl))) d_int (fun _ _ => rfl)))) (ar_v (d_var 2 rfl (by first | exact Or.inl rfl | exact Or.inr (Or.inl rfl) | exact Or.inr (Or.inr rfl))) ar_nil rfl) rfl) rfl rfl rfl))) ss_nil) (ss_cons (s_if (b_cmp (op_eqD hr.units) rd_eq (d_ix hr.units (d_var 1 rfl (by first | exact Or.inl rfl | exact Or.inr (Or.inl rfl) | exact Or.inr (Or.inr rfl))) d_int (fun _ _ => rfl)) d_str (nomark _)) (ss_one (s_ret (d_call (F_turned_by T) (hr.mono (by decide)) rfl passF (ar_v (PF.pd (f_callTy (cr_dictA rfl) rdc_dictA rfl T.z_dict bb_dict (ad_cons (d_ix hr.units (d_var 1 rfl (by first | exact Or.inl rfl | exact Or.inr (Or.inl rfl) | exact Or.inr (Or.inr rfl))) d_int (fun _ _ => rfl)) ad_nil rfl) rfl rfl)) (ar_v (d_var 2 rfl (by first | exact Or.inl rfl | exact Or.inr (Or.inl rfl) | exact Or.inr (Or.inr rfl))) ar_nil rfl) rfl) rfl rfl rfl))) ss_nil) (ss_cons (s_if (b_cmp (op_eqD hr.units) rd_eq (d_ix hr.units (d_var 1 rfl (by first | exact Or.inl rfl | exact Or.inr (Or.inl rfl) | exact Or.inr (Or.inr rfl))) d_int (fun _ _ => rfl)) d_str (nomark _)) (ss_one (s_ret (d_callTy call_tupX rdc_tup rfl T.z_tuple bb_tuple (ad_cons (PF.pd (f_lc [("number", 3)] rfl sc_turned_refs.nd (i_seq (d_var 2 rfl (by first | exact Or.inl rfl | exact Or.inr (Or.inl rfl) | exact Or.inr (Or.inr rfl)))) (by kernel_rfl) (fun _ _ _ _ _ => (g_name 3 sc_turned_refs.nd rfl (by first | exact Or.inl rfl | exact Or.inr rfl) (by first | exact Or.inl rfl | exact Or.inr rfl))) (by decide) (fun _ _ _ _ _ => ts_nil) (fun _ _ _ _ _ => (d_call (F_added T) (hr.mono (by decide)) rfl passL (ar_v (d_var 0 rfl (by first | exact Or.inl rfl | exact Or.inr (Or.inl rfl) | exact Or.inr (Or.inr rfl))) (ar_v (d_var 3 rfl (by first | exact Or.inl rfl | exact Or.inr (Or.inl rfl) | exact Or.inr (Or.inr rfl))) (ar_v (d_ix hr.units (d_var 1 rfl (by first | exact Or.inl rfl | exact Or.inr (Or.inl rfl) | exact Or.inr (Or.inr rfl))) d_int (fun _ _ => rfl)) ar_nil rfl) rfl) rfl) rfl rfl rfl)) (by intro _; rfl))) ad_nil rfl) rfl rfl))) ss_nil) (ss_cons (s_for ownF rfl (i_seq (d_ix hr.units (d_var 1 rfl (by first | exact Or.inl rfl | exact Or.inr (Or.inl rfl) | exact Or.inr (Or.inr rfl))) d_int (fun _ _ => rfl))) (g_tup rfl (gs_cons (g_name 4 sc_turned_refs.nd rfl (by first | exact Or.inl rfl | exact Or.inr rfl) (by first | exact Or.inl rfl | exact Or.inr rfl)) (gs_cons (g_name 5 sc_turned_refs.nd rfl (by first | exact Or.inl rfl | exact Or.inr rfl) (by first | exact Or.inl rfl | exact Or.inr rfl)) gs_nil rfl) rfl) rfl rfl) (ss_one (s_set 2 sc_turned_refs.nd rfl (by first | exact Or.inl rfl | exact Or.inr rfl) (by first | exact Or.inl rfl | exact Or.inr rfl) (d_call (F_turned_by T) (hr.mono (by decide)) rfl passF (ar_v (PF.pd (f_disp1 (d_var 4 rfl (by first | exact Or.inl rfl | exact Or.inr (Or.inl rfl) | exact Or.inr (Or.inr rfl))) (d_var 5 rfl (by first | exact Or.inl rfl | exact Or.inr (Or.inl rfl) | exact Or.inr (Or.inr rfl))))) (ar_v (d_var 2 rfl (by first | exact Or.inl rfl | exact Or.inr (Or.inl rfl) | exact Or.inr (Or.inr rfl))) ar_nil rfl) rfl) rfl rfl rfl) rfl)) (by intro _; rfl)) (ss_one (s_ret (d_var 2 rfl (by first | exact Or.inl rfl | exact Or.inr (Or.inl rfl) | exact Or.inr (Or.inr rfl)))))))))
theorem F_done (T : Txt K mg) : FnD P w K mg base 5 "done" 4 m_done := fnD (k := 4) T.d_done sc_done rfl rfl fun f cdv A outer s H E hr => (ss_cons (s_for ownF rfl (i_enumA rfl T.z_enumerate (ad_cons (d_var 1 rfl (by first | exact Or.inl rfl | exact Or.inr (Or.inl rfl) | exact Or.inr (Or.inr rfl))) ad_nil rfl) rfl) (g_tup rfl (gs_cons (g_name 4 sc_done.nd rfl (by first | exact Or.inl rfl | exact Or.inr rfl) (by first | exact Or.inl rfl | exact Or.inr rfl)) (gs_cons (g_name 5 sc_done.nd rfl (by first | exact Or.inl rfl | exact Or.inr rfl) (by first | exact Or.inl rfl | exact Or.inr rfl)) gs_nil rfl) rfl) rfl rfl) (ss_one (s_if (b_cmp (op_eqD hr.units) rd_eq (d_ix hr.units (d_var 5 rfl (by first | exact Or.inl rfl | exact Or.inr (Or.inl rfl) | exact Or.inr (Or.inr rfl))) d_int (fun _ _ => rfl)) d_str (nomark _)) (ss_one (s_set 3 sc_done.nd rfl (by first | exact Or.inl rfl | exact Or.inr rfl) (by first | exact Or.inl rfl | exact Or.inr rfl) (d_call (F_turned_refs T) (hr.mono (by decide)) rfl passF (ar_v (d_var 0 rfl (by first | exact Or.inl rfl | exact Or.inr (Or.inl rfl) | exact Or.inr (Or.inr rfl))) (ar_v (d_var 5 rfl (by first | exact Or.inl rfl | exact Or.inr (Or.inl rfl) | exact Or.inr (Or.inr rfl))) (ar_v (d_var 3 rfl (by first | exact Or.inl rfl | exact Or.inr (Or.inl rfl) | exact Or.inr (Or.inr rfl))) ar_nil rfl) rfl) rfl) rfl rfl rfl) rfl)) (ss_cons (s_asg (d_call (F_turned_rows T) (hr.mono (by decide)) rfl passF (ar_v (d_var 0 rfl (by first | exact Or.inl rfl | exact Or.inr (Or.inl rfl) | exact Or.inr (Or.inr rfl))) (ar_v (d_var 5 rfl (by first | exact Or.inl rfl | exact Or.inr (Or.inl rfl) | exact Or.inr (Or.inr rfl))) (ar_v (d_var 2 rfl (by first | exact Or.inl rfl | exact Or.inr (Or.inl rfl) | exact Or.inr (Or.inr rfl))) ar_nil rfl) rfl) rfl) rfl rfl rfl) (g_tup rfl (gs_cons (g_name 2 sc_done.nd rfl (by first | exact Or.inl rfl | exact Or.inr rfl) (by first | exact Or.inl rfl | exact Or.inr rfl)) (gs_cons (g_name 6 sc_done.nd rfl (by first | exact Or.inl rfl | exact Or.inr rfl) (by first | exact Or.inl rfl | exact Or.inr rfl)) gs_nil rfl) rfl) rfl rfl) rfl rfl rfl) (ss_one (s_if (b_val (d_var 6 rfl (by first | exact Or.inl rfl | exact Or.inr (Or.inl rfl) | exact Or.inr (Or.inr rfl))) (by intro _; rfl)) (ss_one (s_ret (d_tup (ad_cons (d_var 2 rfl (by first | exact Or.inl rfl | exact Or.inr (Or.inl rfl) | exact Or.inr (Or.inr rfl))) (ad_cons (d_var 3 rfl (by first | exact Or.inl rfl | exact Or.inr (Or.inl rfl) | exact Or.inr (Or.inr rfl))) (ad_cons (d_var 4 rfl (by first | exact Or.inl rfl | exact Or.inr (Or.inl rfl) | exact Or.inr (Or.inr rfl))) ad_nil rfl) rfl) rfl)))) ss_nil))))) (by intro _; rfl)) (ss_one (s_ret (d_tup (ad_cons (d_var 2 rfl (by first | exact Or.inl rfl | exact Or.inr (Or.inl rfl) | exact Or.inr (Or.inr rfl))) (ad_cons (d_var 3 rfl (by first | exact Or.inl rfl | exact Or.inr (Or.inl rfl) | exact Or.inr (Or.inr rfl))) (ad_cons (d_un un_neg rd_neg d_int) ad_nil rfl) rfl) rfl)))))
theorem F_effect_of (T : Txt K mg) : FnD P w K mg base 6 "effect_of" 3 m_effect_of := fnD (k := 5) T.d_effect_of sc_effect_of rfl rfl fun f cdv A outer s H E hr => (ss_one (s_ret (d_call (F_done T) (hr.mono (by decide)) rfl passF (ar_v (d_var 0 rfl (by first | exact Or.inl rfl | exact Or.inr (Or.inl rfl) | exact Or.inr (Or.inr rfl))) (ar_v (d_var 1 rfl (by first | exact Or.inl rfl | exact Or.inr (Or.inl rfl) | exact Or.inr (Or.inr rfl))) (ar_v (d_var 2 rfl (by first | exact Or.inl rfl | exact Or.inr (Or.inl rfl) | exact Or.inr (Or.inr rfl))) (ar_v (d_tupRg rfl T.z_tuple rfl T.z_range (d_var 0 rfl (by first | exact Or.inl rfl | exact Or.inr (Or.inl rfl) | exact Or.inr (Or.inr rfl))) rfl rfl) ar_nil rfl) rfl) rfl) rfl) rfl rfl rfl)))
theorem F_are_moves (T : Txt K mg) : FnD P w K mg base 3 "are_moves" 2 m_are_moves := fnD (k := 2) T.d_are_moves sc_are_moves rfl rfl fun f cdv A outer s H E hr => (ss_cons (s_if (PBW.pb (b_or (b_not (b_val (d_callB call_isi rdc_isi rfl T.z_isinstance bb_isinstance (ad_cons (d_var 1 rfl (by first | exact Or.inl rfl | exact Or.inr (Or.inl rfl) | exact Or.inr (Or.inr rfl))) (ad_cons (d_ty rfl T.z_tuple bb_tuple) ad_nil rfl) rfl) rfl rfl) (by intro _; rfl))) (b_or (b_cmp op_gt rd_gt (d_callB call_len2 rdc_len rfl T.z_len bb_len (ad_cons (d_var 1 rfl (by first | exact Or.inl rfl | exact Or.inr (Or.inl rfl) | exact Or.inr (Or.inr rfl))) ad_nil rfl) rfl rfl) (d_var 0 rfl (by first | exact Or.inl rfl | exact Or.inr (Or.inl rfl) | exact Or.inr (Or.inr rfl))) (nomark _)) (b_or1 (b_not (b_val (d_callB (cr_all rfl) rdc_all rfl T.z_all bb_all (ad_cons (PF.pd (f_lc [("pair", 2)] rfl sc_are_moves.nd (i_seq (d_var 1 rfl (by first | exact Or.inl rfl | exact Or.inr (Or.inl rfl) | exact Or.inr (Or.inr rfl)))) (by kernel_rfl) (fun _ _ _ _ _ => (g_name 2 sc_are_moves.nd rfl (by first | exact Or.inl rfl | exact Or.inr rfl) (by first | exact Or.inl rfl | exact Or.inr rfl))) (by decide) (fun _ _ _ _ _ => ts_nil) (fun _ _ _ _ _ => (d_call (F_is_pair T) (hr.mono (by decide)) rfl passL (ar_v (d_var 0 rfl (by first | exact Or.inl rfl | exact Or.inr (Or.inl rfl) | exact Or.inr (Or.inr rfl))) (ar_v (d_var 2 rfl (by first | exact Or.inl rfl | exact Or.inr (Or.inl rfl) | exact Or.inr (Or.inr rfl))) ar_nil rfl) rfl) rfl rfl rfl)) (by intro _; rfl))) ad_nil rfl) rfl rfl) (by intro _; rfl))))))) (ss_one (s_ret d_bl)) ss_nil) (ss_one (s_ret (d_and (d_call (F_rises T) (hr.mono (by decide)) rfl passF (ar_v (PF.pd (f_lc [("pair", 2)] rfl sc_are_moves.nd (i_seq (d_var 1 rfl (by first | exact Or.inl rfl | exact Or.inr (Or.inl rfl) | exact Or.inr (Or.inr rfl)))) (by kernel_rfl) (fun _ _ _ _ _ => (g_name 2 sc_are_moves.nd rfl (by first | exact Or.inl rfl | exact Or.inr rfl) (by first | exact Or.inl rfl | exact Or.inr rfl))) (by decide) (fun _ _ _ _ _ => ts_nil) (fun _ _ _ _ _ => (d_ix hr.units (d_var 2 rfl (by first | exact Or.inl rfl | exact Or.inr (Or.inl rfl) | exact Or.inr (Or.inr rfl))) d_int (fun _ _ => rfl))) (by intro _; rfl))) ar_nil rfl) rfl rfl rfl) (d_one (d_cmp (op_eqD hr.units) rd_eq (d_lenSet rfl T.z_len rfl T.z_set (PF.pd (f_lc [("pair", 2)] rfl sc_are_moves.nd (i_seq (d_var 1 rfl (by first | exact Or.inl rfl | exact Or.inr (Or.inl rfl) | exact Or.inr (Or.inr rfl)))) (by kernel_rfl) (fun _ _ _ _ _ => (g_name 2 sc_are_moves.nd rfl (by first | exact Or.inl rfl | exact Or.inr rfl) (by first | exact Or.inl rfl | exact Or.inr rfl))) (by decide) (fun _ _ _ _ _ => ts_nil) (fun _ _ _ _ _ => (d_ix hr.units (d_var 2 rfl (by first | exact Or.inl rfl | exact Or.inr (Or.inl rfl) | exact Or.inr (Or.inr rfl))) d_int (fun _ _ => rfl))) (by intro _; rfl))) rfl rfl) (d_callB call_len2 rdc_len rfl T.z_len bb_len (ad_cons (d_var 1 rfl (by first | exact Or.inl rfl | exact Or.inr (Or.inl rfl) | exact Or.inr (Or.inr rfl))) ad_nil rfl) rfl rfl) (nomark _)))))))
theorem F_look_at_moves (T : Txt K mg) : FnD P w K mg base 4 "look_at_moves" 2 m_look_at_moves := fnD (k := 3) T.d_look_at_moves sc_look_at_moves rfl rfl fun f cdv A outer s H E hr => (ss_one (s_if (b_not (b_val (d_call (F_are_moves T) (hr.mono (by decide)) rfl passF (ar_v (d_var 0 rfl (by first | exact Or.inl rfl | exact Or.inr (Or.inl rfl) | exact Or.inr (Or.inr rfl))) (ar_v (d_var 1 rfl (by first | exact Or.inl rfl | exact Or.inr (Or.inl rfl) | exact Or.inr (Or.inr rfl))) ar_nil rfl) rfl) rfl rfl rfl) (by intro _; rfl))) (ss_one (s_raiseX rfl takesF T.x_InvalidMoves rfl)) ss_nil))
theorem F_does (T : Txt K mg) : FnD P w K mg base 8 "does" 3 m_does := fnD (k := 7) T.d_does sc_does rfl rfl fun f cdv A outer s H E hr => (ss_cons (s_expr (d_call (F_look_at T) (hr.mono (by decide)) rfl passF (ar_v (d_var 0 rfl (by first | exact Or.inl rfl | exact Or.inr (Or.inl rfl) | exact Or.inr (Or.inr rfl))) (ar_v (d_var 1 rfl (by first | exact Or.inl rfl | exact Or.inr (Or.inl rfl) | exact Or.inr (Or.inr rfl))) ar_nil rfl) rfl) rfl rfl rfl) rfl) (ss_cons (s_expr (d_call (F_look_at_moves T) (hr.mono (by decide)) rfl passF (ar_v (d_var 0 rfl (by first | exact Or.inl rfl | exact Or.inr (Or.inl rfl) | exact Or.inr (Or.inr rfl))) (ar_v (d_var 2 rfl (by first | exact Or.inl rfl | exact Or.inr (Or.inl rfl) | exact Or.inr (Or.inr rfl))) ar_nil rfl) rfl) rfl rfl rfl) rfl) (ss_cons (s_asg (d_call (F_effect_of T) (hr.mono (by decide)) rfl passF (ar_v (d_var 0 rfl (by first | exact Or.inl rfl | exact Or.inr (Or.inl rfl) | exact Or.inr (Or.inr rfl))) (ar_v (d_var 1 rfl (by first | exact Or.inl rfl | exact Or.inr (Or.inl rfl) | exact Or.inr (Or.inr rfl))) (ar_v (d_callTy call_tupX rdc_tup rfl T.z_tuple bb_tuple (ad_cons (PF.pd (f_lc [("old", 6), ("new", 7)] rfl sc_does.nd (i_seq (d_var 2 rfl (by first | exact Or.inl rfl | exact Or.inr (Or.inl rfl) | exact Or.inr (Or.inr rfl)))) (by kernel_rfl) (fun _ _ _ _ _ => (g_tup rfl (gs_cons (g_name 6 sc_does.nd rfl (by first | exact Or.inl rfl | exact Or.inr rfl) (by first | exact Or.inl rfl | exact Or.inr rfl)) (gs_cons (g_name 7 sc_does.nd rfl (by first | exact Or.inl rfl | exact Or.inr rfl) (by first | exact Or.inl rfl | exact Or.inr rfl)) gs_nil rfl) rfl) rfl rfl)) (by decide) (fun _ _ _ _ _ => ts_nil) (fun _ _ _ _ _ => (d_var 6 rfl (by first | exact Or.inl rfl | exact Or.inr (Or.inl rfl) | exact Or.inr (Or.inr rfl)))) (by intro _; rfl))) ad_nil rfl) rfl rfl) ar_nil rfl) rfl) rfl) rfl rfl rfl) (g_tup rfl (gs_cons (g_name 3 sc_does.nd rfl (by first | exact Or.inl rfl | exact Or.inr rfl) (by first | exact Or.inl rfl | exact Or.inr rfl)) (gs_cons (g_name 4 sc_does.nd rfl (by first | exact Or.inl rfl | exact Or.inr rfl) (by first | exact Or.inl rfl | exact Or.inr rfl)) (gs_cons (g_name 5 sc_does.nd rfl (by first | exact Or.inl rfl | exact Or.inr rfl) (by first | exact Or.inl rfl | exact Or.inr rfl)) gs_nil rfl) rfl) rfl) rfl rfl) rfl rfl rfl) (ss_cons (s_if (PBW.pb (b_or (b_cmp op_ge rd_ge (d_var 5 rfl (by first | exact Or.inl rfl | exact Or.inr (Or.inl rfl) | exact Or.inr (Or.inr rfl))) d_int (nomark _)) (b_or1 (b_cmp (op_neD hr.units) rd_ne (d_var 3 rfl (by first | exact Or.inl rfl | exact Or.inr (Or.inl rfl) | exact Or.inr (Or.inr rfl))) (d_callTy call_tupX rdc_tup rfl T.z_tuple bb_tuple (ad_cons (PF.pd (f_lc [("old", 6), ("new", 7)] rfl sc_does.nd (i_seq (d_var 2 rfl (by first | exact Or.inl rfl | exact Or.inr (Or.inl rfl) | exact Or.inr (Or.inr rfl)))) (by kernel_rfl) (fun _ _ _ _ _ => (g_tup rfl (gs_cons (g_name 6 sc_does.nd rfl (by first | exact Or.inl rfl | exact Or.inr rfl) (by first | exact Or.inl rfl | exact Or.inr rfl)) (gs_cons (g_name 7 sc_does.nd rfl (by first | exact Or.inl rfl | exact Or.inr rfl) (by first | exact Or.inl rfl | exact Or.inr rfl)) gs_nil rfl) rfl) rfl rfl)) (by decide) (fun _ _ _ _ _ => ts_nil) (fun _ _ _ _ _ => (d_var 7 rfl (by first | exact Or.inl rfl | exact Or.inr (Or.inl rfl) | exact Or.inr (Or.inr rfl)))) (by intro _; rfl))) ad_nil rfl) rfl rfl) (nomark _))))) (ss_one (s_ret d_bl)) ss_nil) (ss_one (s_ret (d_callB (cr_all rfl) rdc_all rfl T.z_all bb_all (ad_cons (PF.pd (f_lc [("old", 6), ("new", 7)] rfl sc_does.nd (i_seq (d_var 2 rfl (by first | exact Or.inl rfl | exact Or.inr (Or.inl rfl) | exact Or.inr (Or.inr rfl)))) (by kernel_rfl) (fun _ _ _ _ _ => (g_tup rfl (gs_cons (g_name 6 sc_does.nd rfl (by first | exact Or.inl rfl | exact Or.inr rfl) (by first | exact Or.inl rfl | exact Or.inr rfl)) (gs_cons (g_name 7 sc_does.nd rfl (by first | exact Or.inl rfl | exact Or.inr rfl) (by first | exact Or.inl rfl | exact Or.inr rfl)) gs_nil rfl) rfl) rfl rfl)) (by decide) (fun _ _ _ _ _ => ts_nil) (fun _ _ _ _ _ => (d_cmp (op_eqD hr.units) rd_eq (d_ix hr.units (d_var 4 rfl (by first | exact Or.inl rfl | exact Or.inr (Or.inl rfl) | exact Or.inr (Or.inr rfl))) (d_var 6 rfl (by first | exact Or.inl rfl | exact Or.inr (Or.inl rfl) | exact Or.inr (Or.inr rfl))) (fun _ _ => rfl)) (d_var 7 rfl (by first | exact Or.inl rfl | exact Or.inr (Or.inl rfl) | exact Or.inr (Or.inr rfl))) (nomark _))) (by intro _; rfl))) ad_nil rfl) rfl rfl)))))))
theorem F_script_for (T : Txt K mg) : FnD P w K mg base 5 "script_for" 2 m_script_for := fnD (k := 4) T.d_script_for sc_script_for rfl rfl fun f cdv A outer s H E hr => (ss_cons (s_expr (d_call (F_look_at_size T) (hr.mono (by decide)) rfl passF (ar_v (d_var 0 rfl (by first | exact Or.inl rfl | exact Or.inr (Or.inl rfl) | exact Or.inr (Or.inr rfl))) ar_nil rfl) rfl rfl rfl) rfl) (ss_cons (s_expr (d_call (F_look_at_moves T) (hr.mono (by decide)) rfl passF (ar_v (d_var 0 rfl (by first | exact Or.inl rfl | exact Or.inr (Or.inl rfl) | exact Or.inr (Or.inr rfl))) (ar_v (d_var 1 rfl (by first | exact Or.inl rfl | exact Or.inr (Or.inl rfl) | exact Or.inr (Or.inr rfl))) ar_nil rfl) rfl) rfl rfl rfl) rfl) (ss_cons (s_new 2 sc_script_for.nd rfl (by first | exact Or.inl rfl | exact Or.inr rfl) (by first | exact Or.inl rfl | exact Or.inr rfl) (f_callTy (cr_dictA rfl) rdc_dictA rfl T.z_dict bb_dict (ad_cons (d_var 1 rfl (by first | exact Or.inl rfl | exact Or.inr (Or.inl rfl) | exact Or.inr (Or.inr rfl))) ad_nil rfl) rfl rfl) rfl) (ss_cons (s_lcSet 3 [("number", 4)] rfl sc_script_for.nd rfl rfl rfl (i_rng1 rfl T.z_range (ad_cons (d_var 0 rfl (by first | exact Or.inl rfl | exact Or.inr (Or.inl rfl) | exact Or.inr (Or.inr rfl))) ad_nil rfl) rfl) (by kernel_rfl) (fun _ _ _ _ _ => (g_name 4 sc_script_for.nd rfl (by first | exact Or.inl rfl | exact Or.inr rfl) (by first | exact Or.inl rfl | exact Or.inr rfl))) (by decide) (fun _ _ _ _ _ => (ts_one (b_notInKO 2 hr.units rfl (by first | exact Or.inl rfl | exact Or.inr (Or.inl rfl) | exact Or.inr (Or.inr rfl)) (d_var 4 rfl (by first | exact Or.inl rfl | exact Or.inr (Or.inl rfl) | exact Or.inr (Or.inr rfl))) (by with_unfolding_all rfl)))) (fun _ _ _ _ _ => (d_var 4 rfl (by first | exact Or.inl rfl | exact Or.inr (Or.inl rfl) | exact Or.inr (Or.inr rfl)))) (by intro _; rfl)) (ss_cons (s_lcSet 5 [("number", 4)] rfl sc_script_for.nd rfl rfl rfl (i_rng1 rfl T.z_range (ad_cons (d_var 0 rfl (by first | exact Or.inl rfl | exact Or.inr (Or.inl rfl) | exact Or.inr (Or.inr rfl))) ad_nil rfl) rfl) (by kernel_rfl) (fun _ _ _ _ _ => (g_name 4 sc_script_for.nd rfl (by first | exact Or.inl rfl | exact Or.inr rfl) (by first | exact Or.inl rfl | exact Or.inr rfl))) (by decide) (fun _ _ _ _ _ => (ts_one (b_notInVO 2 rfl rfl (by first | exact Or.inl rfl | exact Or.inr (Or.inl rfl) | exact Or.inr (Or.inr rfl)) (d_var 4 rfl (by first | exact Or.inl rfl | exact Or.inr (Or.inl rfl) | exact Or.inr (Or.inr rfl))) rfl rfl (by with_unfolding_all rfl)))) (fun _ _ _ _ _ => (d_var 4 rfl (by first | exact Or.inl rfl | exact Or.inr (Or.inl rfl) | exact Or.inr (Or.inr rfl)))) (by intro _; rfl)) (ss_cons (s_updO 2 rfl (by first | exact Or.inl rfl | exact Or.inr (Or.inl rfl) | exact Or.inr (Or.inr rfl)) (f_dictZip rfl rfl T.z_dict rfl T.z_zip (ad_cons (d_var 3 rfl (by first | exact Or.inl rfl | exact Or.inr (Or.inl rfl) | exact Or.inr (Or.inr rfl))) (ad_cons (d_var 5 rfl (by first | exact Or.inl rfl | exact Or.inr (Or.inl rfl) | exact Or.inr (Or.inr rfl))) ad_nil rfl) rfl) rfl rfl rfl) rfl rfl rfl rfl rfl rfl) (ss_thaw 2 (ss_cons (s_set 6 sc_script_for.nd rfl (by first | exact Or.inl rfl | exact Or.inr rfl) (by first | exact Or.inl rfl | exact Or.inr rfl) (d_callTy call_tupX rdc_tup rfl T.z_tuple bb_tuple (ad_cons (PF.pd (f_lc [("number", 4)] rfl sc_script_for.nd (i_rng1 rfl T.z_range (ad_cons (d_var 0 rfl (by first | exact Or.inl rfl | exact Or.inr (Or.inl rfl) | exact Or.inr (Or.inr rfl))) ad_nil rfl) rfl) (by kernel_rfl) (fun _ _ _ _ _ => (g_name 4 sc_script_for.nd rfl (by first | exact Or.inl rfl | exact Or.inr rfl) (by first | exact Or.inl rfl | exact Or.inr rfl))) (by decide) (fun _ _ _ _ _ => ts_nil) (fun _ _ _ _ _ => (d_tup (ad_cons (d_var 4 rfl (by first | exact Or.inl rfl | exact Or.inr (Or.inl rfl) | exact Or.inr (Or.inr rfl))) (ad_cons (d_ix hr.units (d_var 2 rfl (by first | exact Or.inl rfl | exact Or.inr (Or.inl rfl) | exact Or.inr (Or.inr rfl))) (d_var 4 rfl (by first | exact Or.inl rfl | exact Or.inr (Or.inl rfl) | exact Or.inr (Or.inr rfl))) (fun _ _ => rfl)) ad_nil rfl) rfl))) (by intro _; rfl))) ad_nil rfl) rfl rfl) rfl) (ss_one (s_ret (d_tup (ad_cons (d_tup (ad_cons d_str (ad_cons d_str (ad_cons (d_var 6 rfl (by first | exact Or.inl rfl | exact Or.inr (Or.inl rfl) | exact Or.inr (Or.inr rfl))) ad_nil rfl) rfl) rfl)) (ad_cons (d_tup (ad_cons d_str (ad_cons d_str (ad_cons (d_var 6 rfl (by first | exact Or.inl rfl | exact Or.inr (Or.inl rfl) | exact Or.inr (Or.inr rfl))) ad_nil rfl) rfl) rfl)) ad_nil rfl) rfl))))))))))))
theorem F__law_well (T : Txt K mg) : FnD P w K mg base 1 "_law_well" 2 m__law_well := fnD (k := 0) T.d__law_well sc__law_well rfl rfl fun f cdv A outer s H E hr => (ss_cons (s_if (b_cmp op_ge rd_ge (d_var 0 rfl (by first | exact Or.inl rfl | exact Or.inr (Or.inl rfl) | exact Or.inr (Or.inr rfl))) (d_op op_pow rd_pow d_int d_int) (nomark _)) (ss_one (s_ret (PF.pd (f_lst (ad_cons (d_op op_sub rd_sub (d_var 0 rfl (by first | exact Or.inl rfl | exact Or.inr (Or.inl rfl) | exact Or.inr (Or.inr rfl))) (d_op op_pow rd_pow d_int d_int)) (ad_cons (d_op op_mod rd_mod (d_var 0 rfl (by first | exact Or.inl rfl | exact Or.inr (Or.inl rfl) | exact Or.inr (Or.inr rfl))) d_int) (ad_cons (d_var 1 rfl (by first | exact Or.inl rfl | exact Or.inr (Or.inl rfl) | exact Or.inr (Or.inr rfl))) ad_nil rfl) rfl) rfl))))) ss_nil) (ss_one (s_ret (PF.pd (f_lst (ad_cons d_int (ad_cons (d_op op_mod rd_mod (d_var 0 rfl (by first | exact Or.inl rfl | exact Or.inr (Or.inl rfl) | exact Or.inr (Or.inr rfl))) d_int) (ad_cons (d_var 1 rfl (by first | exact Or.inl rfl | exact Or.inr (Or.inl rfl) | exact Or.inr (Or.inr rfl))) ad_nil rfl) rfl) rfl))))))
theorem F__law_take (T : Txt K mg) : FnD P w K mg base 1 "_law_take" 2 m__law_take := fnD (k := 0) T.d__law_take sc__law_take rfl rfl fun f cdv A outer s H E hr => (ss_cons (s_if (b_cmp op_gt rd_gt (d_ixO 0 rfl (by first | exact Or.inl rfl | exact Or.inr (Or.inl rfl) | exact Or.inr (Or.inr rfl)) d_int (fun _ _ => rfl)) d_int (nomark _)) (ss_cons (s_set 2 sc__law_take.nd rfl (by first | exact Or.inl rfl | exact Or.inr rfl) (by first | exact Or.inl rfl | exact Or.inr rfl) (d_op op_mod rd_mod (d_ixO 0 rfl (by first | exact Or.inl rfl | exact Or.inr (Or.inl rfl) | exact Or.inr (Or.inr rfl)) d_int (fun _ _ => rfl)) (d_var 1 rfl (by first | exact Or.inl rfl | exact Or.inr (Or.inl rfl) | exact Or.inr (Or.inr rfl)))) rfl) (ss_cons (s_setO 0 rfl (by first | exact Or.inl rfl | exact Or.inr (Or.inl rfl) | exact Or.inr (Or.inr rfl)) d_int (d_op op_fdiv rd_fdiv (d_ixO 0 rfl (by first | exact Or.inl rfl | exact Or.inr (Or.inl rfl) | exact Or.inr (Or.inr rfl)) d_int (fun _ _ => rfl)) (d_var 1 rfl (by first | exact Or.inl rfl | exact Or.inr (Or.inl rfl) | exact Or.inr (Or.inr rfl)))) (by intro _; rfl) rfl rfl rfl) (ss_one (s_ret (d_var 2 rfl (by first | exact Or.inl rfl | exact Or.inr (Or.inl rfl) | exact Or.inr (Or.inr rfl))))))) ss_nil) (ss_cons (s_setO 0 rfl (by first | exact Or.inl rfl | exact Or.inr (Or.inl rfl) | exact Or.inr (Or.inr rfl)) d_int (d_op op_addA rd_add (d_ixO 0 rfl (by first | exact Or.inl rfl | exact Or.inr (Or.inl rfl) | exact Or.inr (Or.inr rfl)) d_int (fun _ _ => rfl)) d_int) (by intro _; rfl) rfl rfl rfl) (ss_cons (s_set 3 sc__law_take.nd rfl (by first | exact Or.inl rfl | exact Or.inr rfl) (by first | exact Or.inl rfl | exact Or.inr rfl) d_int rfl) (ss_cons (s_set 4 sc__law_take.nd rfl (by first | exact Or.inl rfl | exact Or.inr rfl) (by first | exact Or.inl rfl | exact Or.inr rfl) (d_op op_mod rd_mod (d_op op_addA rd_add (d_ixO 0 rfl (by first | exact Or.inl rfl | exact Or.inr (Or.inl rfl) | exact Or.inr (Or.inr rfl)) d_int (fun _ _ => rfl)) (d_op op_mulA rd_mul d_int (d_ixO 0 rfl (by first | exact Or.inl rfl | exact Or.inr (Or.inl rfl) | exact Or.inr (Or.inr rfl)) d_int (fun _ _ => rfl)))) (d_var 3 rfl (by first | exact Or.inl rfl | exact Or.inr (Or.inl rfl) | exact Or.inr (Or.inr rfl)))) rfl) (ss_cons (s_set 4 sc__law_take.nd rfl (by first | exact Or.inl rfl | exact Or.inr rfl) (by first | exact Or.inl rfl | exact Or.inr rfl) (d_op op_mod rd_mod (d_op op_addA rd_add (d_op op_addA rd_add (d_op op_mulA rd_mul (d_var 4 rfl (by first | exact Or.inl rfl | exact Or.inr (Or.inl rfl) | exact Or.inr (Or.inr rfl))) (d_var 4 rfl (by first | exact Or.inl rfl | exact Or.inr (Or.inl rfl) | exact Or.inr (Or.inr rfl)))) (d_op op_mulA rd_mul d_int (d_op op_pow rd_pow (d_ixO 0 rfl (by first | exact Or.inl rfl | exact Or.inr (Or.inl rfl) | exact Or.inr (Or.inr rfl)) d_int (fun _ _ => rfl)) d_int))) d_int) (d_var 3 rfl (by first | exact Or.inl rfl | exact Or.inr (Or.inl rfl) | exact Or.inr (Or.inr rfl)))) rfl) (ss_one (s_ret (d_op op_mod rd_mod (d_op op_fdiv rd_fdiv (d_op op_mod rd_mod (d_op op_pow rd_pow (d_var 4 rfl (by first | exact Or.inl rfl | exact Or.inr (Or.inl rfl) | exact Or.inr (Or.inr rfl))) d_int) (d_var 3 rfl (by first | exact Or.inl rfl | exact Or.inr (Or.inl rfl) | exact Or.inr (Or.inr rfl)))) d_int) (d_var 1 rfl (by first | exact Or.inl rfl | exact Or.inr (Or.inl rfl) | exact Or.inr (Or.inr rfl)))))))))))
theorem F__law_bags (T : Txt K mg) : FnD P w K mg base 2 "_law_bags" 2 m__law_bags := fnD (k := 1) T.d__law_bags sc__law_bags rfl rfl fun f cdv A outer s H E hr => (ss_one (s_ret (PF.pd (f_lc [("_law_k", 2), ("_law_cell", 3)] rfl sc__law_bags.nd (i_enumA rfl T.z_enumerate (ad_cons (d_op op_addA rd_add (d_sl (d_var 0 rfl (by first | exact Or.inl rfl | exact Or.inr (Or.inl rfl) | exact Or.inr (Or.inr rfl))) od_none (od_some (d_var 1 rfl (by first | exact Or.inl rfl | exact Or.inr (Or.inl rfl) | exact Or.inr (Or.inr rfl))))) (PF.pd (f_lst (ad_cons d_int ad_nil rfl)))) ad_nil rfl) rfl) (by kernel_rfl) (fun _ _ _ _ _ => (g_tup rfl (gs_cons (g_name 2 sc__law_bags.nd rfl (by first | exact Or.inl rfl | exact Or.inr rfl) (by first | exact Or.inl rfl | exact Or.inr rfl)) (gs_cons (g_name 3 sc__law_bags.nd rfl (by first | exact Or.inl rfl | exact Or.inr rfl) (by first | exact Or.inl rfl | exact Or.inr rfl)) gs_nil rfl) rfl) rfl rfl)) (by decide) (fun _ _ _ _ _ => ts_nil) (fun _ _ _ _ _ => (d_call (F__law_well T) (hr.mono (by decide)) rfl passL (ar_v (d_var 3 rfl (by first | exact Or.inl rfl | exact Or.inr (Or.inl rfl) | exact Or.inr (Or.inr rfl))) (ar_v (d_op op_mulA rd_mul d_int (d_var 2 rfl (by first | exact Or.inl rfl | exact Or.inr (Or.inl rfl) | exact Or.inr (Or.inr rfl)))) ar_nil rfl) rfl) rfl rfl rfl)) (by intro _; rfl)))))
theorem R__law_same (T : Txt K mg) : ∀ d : Nat, FnD P w K mg base (1 + d) "_law_same" 2 (r__law_same d)
  | 0 => fnD0 T.d__law_same sc__law_same rfl
  | d + 1 => fnD (k := 1 + d) T.d__law_same sc__law_same rfl rfl fun f cdv A outer s H E hr => by
    have Fself := R__law_same T d
    exact (ss_cons (s_if (PBW.pb (b_or (PBW.pb (b_and (b_val (d_callB call_isi rdc_isi rfl T.z_isinstance bb_isinstance (ad_cons (d_var 0 rfl (by first | exact Or.inl rfl | exact Or.inr (Or.inl rfl) | exact Or.inr (Or.inr rfl))) (ad_cons (d_ty rfl T.z_list bb_list) ad_nil rfl) rfl) rfl rfl) (by intro _; rfl)) (b_and1 (b_val (d_callB call_isi rdc_isi rfl T.z_isinstance bb_isinstance (ad_cons (d_var 1 rfl (by first | exact Or.inl rfl | exact Or.inr (Or.inl rfl) | exact Or.inr (Or.inr rfl))) (ad_cons (d_ty rfl T.z_list bb_list) ad_nil rfl) rfl) rfl rfl) (by intro _; rfl))))) (b_or1 (PBW.pb (b_and (b_val (d_callB call_isi rdc_isi rfl T.z_isinstance bb_isinstance (ad_cons (d_var 0 rfl (by first | exact Or.inl rfl | exact Or.inr (Or.inl rfl) | exact Or.inr (Or.inr rfl))) (ad_cons (d_ty rfl T.z_tuple bb_tuple) ad_nil rfl) rfl) rfl rfl) (by intro _; rfl)) (b_and1 (b_val (d_callB call_isi rdc_isi rfl T.z_isinstance bb_isinstance (ad_cons (d_var 1 rfl (by first | exact Or.inl rfl | exact Or.inr (Or.inl rfl) | exact Or.inr (Or.inr rfl))) (ad_cons (d_ty rfl T.z_tuple bb_tuple) ad_nil rfl) rfl) rfl rfl) (by intro _; rfl)))))))) (ss_one (s_ret (d_and (d_cmp (op_eqD hr.units) rd_eq (d_callB call_len2 rdc_len rfl T.z_len bb_len (ad_cons (d_var 0 rfl (by first | exact Or.inl rfl | exact Or.inr (Or.inl rfl) | exact Or.inr (Or.inr rfl))) ad_nil rfl) rfl rfl) (d_callB call_len2 rdc_len rfl T.z_len bb_len (ad_cons (d_var 1 rfl (by first | exact Or.inl rfl | exact Or.inr (Or.inl rfl) | exact Or.inr (Or.inr rfl))) ad_nil rfl) rfl rfl) (nomark _)) (d_one (d_callB (cr_all rfl) rdc_all rfl T.z_all bb_all (ad_cons (PF.pd (f_lc [("_law_x", 2), ("_law_y", 3)] rfl sc__law_same.nd (i_zip rfl T.z_zip (ad_cons (d_var 0 rfl (by first | exact Or.inl rfl | exact Or.inr (Or.inl rfl) | exact Or.inr (Or.inr rfl))) (ad_cons (d_var 1 rfl (by first | exact Or.inl rfl | exact Or.inr (Or.inl rfl) | exact Or.inr (Or.inr rfl))) ad_nil rfl) rfl) rfl rfl) (by kernel_rfl) (fun _ _ _ _ _ => (g_tup rfl (gs_cons (g_name 2 sc__law_same.nd rfl (by first | exact Or.inl rfl | exact Or.inr rfl) (by first | exact Or.inl rfl | exact Or.inr rfl)) (gs_cons (g_name 3 sc__law_same.nd rfl (by first | exact Or.inl rfl | exact Or.inr rfl) (by first | exact Or.inl rfl | exact Or.inr rfl)) gs_nil rfl) rfl) rfl rfl)) (by decide) (fun _ _ _ _ _ => ts_nil) (fun _ _ _ _ _ => (d_call Fself hr rfl passL (ar_v (d_var 2 rfl (by first | exact Or.inl rfl | exact Or.inr (Or.inl rfl) | exact Or.inr (Or.inr rfl))) (ar_v (d_var 3 rfl (by first | exact Or.inl rfl | exact Or.inr (Or.inl rfl) | exact Or.inr (Or.inr rfl))) ar_nil rfl) rfl) rfl rfl rfl)) (by intro _; rfl))) ad_nil rfl) rfl rfl))))) ss_nil) (ss_cons (s_if (PBW.pb (b_or (b_val (d_isiT ["bool", "list", "tuple"] rfl T.z_isinstance bb_isinstance (d_var 0 rfl (by first | exact Or.inl rfl | exact Or.inr (Or.inl rfl) | exact Or.inr (Or.inr rfl))) (pe_tup (pa_tys rfl T.z_bool bb_bool (pa_tys rfl T.z_list bb_list (pa_tys rfl T.z_tuple bb_tuple pa_tys_nil rfl) rfl) rfl)) rfl rfl rfl) (by intro _; rfl)) (b_or1 (b_val (d_isiT ["bool", "list", "tuple"] rfl T.z_isinstance bb_isinstance (d_var 1 rfl (by first | exact Or.inl rfl | exact Or.inr (Or.inl rfl) | exact Or.inr (Or.inr rfl))) (pe_tup (pa_tys rfl T.z_bool bb_bool (pa_tys rfl T.z_list bb_list (pa_tys rfl T.z_tuple bb_tuple pa_tys_nil rfl) rfl) rfl)) rfl rfl rfl) (by intro _; rfl))))) (ss_one (s_ret (d_and (d_callB call_isi rdc_isi rfl T.z_isinstance bb_isinstance (ad_cons (d_var 0 rfl (by first | exact Or.inl rfl | exact Or.inr (Or.inl rfl) | exact Or.inr (Or.inr rfl))) (ad_cons (d_ty rfl T.z_bool bb_bool) ad_nil rfl) rfl) rfl rfl) (d_and (d_callB call_isi rdc_isi rfl T.z_isinstance bb_isinstance (ad_cons (d_var 1 rfl (by first | exact Or.inl rfl | exact Or.inr (Or.inl rfl) | exact Or.inr (Or.inr rfl))) (ad_cons (d_ty rfl T.z_bool bb_bool) ad_nil rfl) rfl) rfl rfl) (d_one (d_cmp (op_eqD hr.units) rd_eq (d_var 0 rfl (by first | exact Or.inl rfl | exact Or.inr (Or.inl rfl) | exact Or.inr (Or.inr rfl))) (d_var 1 rfl (by first | exact Or.inl rfl | exact Or.inr (Or.inl rfl) | exact Or.inr (Or.inr rfl))) (nomark _))))))) ss_nil) (ss_cons (s_if (PBW.pb (b_or (b_val (d_callB call_isi rdc_isi rfl T.z_isinstance bb_isinstance (ad_cons (d_var 0 rfl (by first | exact Or.inl rfl | exact Or.inr (Or.inl rfl) | exact Or.inr (Or.inr rfl))) (ad_cons (d_ty rfl T.z_int bb_int) ad_nil rfl) rfl) rfl rfl) (by intro _; rfl)) (b_or1 (b_val (d_callB call_isi rdc_isi rfl T.z_isinstance bb_isinstance (ad_cons (d_var 1 rfl (by first | exact Or.inl rfl | exact Or.inr (Or.inl rfl) | exact Or.inr (Or.inr rfl))) (ad_cons (d_ty rfl T.z_int bb_int) ad_nil rfl) rfl) rfl rfl) (by intro _; rfl))))) (ss_one (s_ret (d_and (d_callB call_isi rdc_isi rfl T.z_isinstance bb_isinstance (ad_cons (d_var 0 rfl (by first | exact Or.inl rfl | exact Or.inr (Or.inl rfl) | exact Or.inr (Or.inr rfl))) (ad_cons (d_ty rfl T.z_int bb_int) ad_nil rfl) rfl) rfl rfl) (d_and (d_callB call_isi rdc_isi rfl T.z_isinstance bb_isinstance (ad_cons (d_var 1 rfl (by first | exact Or.inl rfl | exact Or.inr (Or.inl rfl) | exact Or.inr (Or.inr rfl))) (ad_cons (d_ty rfl T.z_int bb_int) ad_nil rfl) rfl) rfl rfl) (d_one (d_cmp (op_eqD hr.units) rd_eq (d_var 0 rfl (by first | exact Or.inl rfl | exact Or.inr (Or.inl rfl) | exact Or.inr (Or.inr rfl))) (d_var 1 rfl (by first | exact Or.inl rfl | exact Or.inr (Or.inl rfl) | exact Or.inr (Or.inr rfl))) (nomark _))))))) ss_nil) (ss_cons (s_if (PBW.pb (b_or (b_val (d_callB call_isi rdc_isi rfl T.z_isinstance bb_isinstance (ad_cons (d_var 0 rfl (by first | exact Or.inl rfl | exact Or.inr (Or.inl rfl) | exact Or.inr (Or.inr rfl))) (ad_cons (d_ty rfl T.z_str bb_str) ad_nil rfl) rfl) rfl rfl) (by intro _; rfl)) (b_or1 (b_val (d_callB call_isi rdc_isi rfl T.z_isinstance bb_isinstance (ad_cons (d_var 1 rfl (by first | exact Or.inl rfl | exact Or.inr (Or.inl rfl) | exact Or.inr (Or.inr rfl))) (ad_cons (d_ty rfl T.z_str bb_str) ad_nil rfl) rfl) rfl rfl) (by intro _; rfl))))) (ss_one (s_ret (d_and (d_callB call_isi rdc_isi rfl T.z_isinstance bb_isinstance (ad_cons (d_var 0 rfl (by first | exact Or.inl rfl | exact Or.inr (Or.inl rfl) | exact Or.inr (Or.inr rfl))) (ad_cons (d_ty rfl T.z_str bb_str) ad_nil rfl) rfl) rfl rfl) (d_and (d_callB call_isi rdc_isi rfl T.z_isinstance bb_isinstance (ad_cons (d_var 1 rfl (by first | exact Or.inl rfl | exact Or.inr (Or.inl rfl) | exact Or.inr (Or.inr rfl))) (ad_cons (d_ty rfl T.z_str bb_str) ad_nil rfl) rfl) rfl rfl) (d_one (d_cmp (op_eqD hr.units) rd_eq (d_var 0 rfl (by first | exact Or.inl rfl | exact Or.inr (Or.inl rfl) | exact Or.inr (Or.inr rfl))) (d_var 1 rfl (by first | exact Or.inl rfl | exact Or.inr (Or.inl rfl) | exact Or.inr (Or.inr rfl))) (nomark _))))))) ss_nil) (ss_one (s_ret (d_and (d_cmp op_isA rd_is (d_var 0 rfl (by first | exact Or.inl rfl | exact Or.inr (Or.inl rfl) | exact Or.inr (Or.inr rfl))) d_non (nomark _)) (d_one (d_cmp op_isA rd_is (d_var 1 rfl (by first | exact Or.inl rfl | exact Or.inr (Or.inl rfl) | exact Or.inr (Or.inr rfl))) d_non (nomark _))))))))))
theorem F__law_same (T : Txt K mg) : FnD P w K mg base 9 "_law_same" 2 m__law_same := R__law_same T 8
theorem F__law_pairs (T : Txt K mg) : FnD P w K mg base 2 "_law_pairs" 3 m__law_pairs := fnD (k := 1) T.d__law_pairs sc__law_pairs rfl rfl fun f cdv A outer s H E hr => (ss_one (s_ret (d_callTy call_tupX rdc_tup rfl T.z_tuple bb_tuple (ad_cons (PF.pd (f_lc [("_law_k", 3)] rfl sc__law_pairs.nd (i_rng1 rfl T.z_range (ad_cons (d_var 2 rfl (by first | exact Or.inl rfl | exact Or.inr (Or.inl rfl) | exact Or.inr (Or.inr rfl))) ad_nil rfl) rfl) (by kernel_rfl) (fun _ _ _ _ _ => (g_name 3 sc__law_pairs.nd rfl (by first | exact Or.inl rfl | exact Or.inr rfl) (by first | exact Or.inl rfl | exact Or.inr rfl))) (by decide) (fun _ _ _ _ _ => ts_nil) (fun _ _ _ _ _ => (d_tup (ad_cons (d_call (F__law_take T) (hr.mono (by decide)) rfl passL (ar_s 0 rfl (by first | exact Or.inl rfl | exact Or.inr (Or.inl rfl) | exact Or.inr (Or.inr rfl)) (ar_v (d_var 1 rfl (by first | exact Or.inl rfl | exact Or.inr (Or.inl rfl) | exact Or.inr (Or.inr rfl))) ar_nil rfl) rfl) rfl rfl rfl) (ad_cons (d_call (F__law_take T) (hr.mono (by decide)) rfl passL (ar_s 0 rfl (by first | exact Or.inl rfl | exact Or.inr (Or.inl rfl) | exact Or.inr (Or.inr rfl)) (ar_v (d_var 1 rfl (by first | exact Or.inl rfl | exact Or.inr (Or.inl rfl) | exact Or.inr (Or.inr rfl))) ar_nil rfl) rfl) rfl rfl rfl) ad_nil rfl) rfl))) (by intro _; rfl))) ad_nil rfl) rfl rfl)))
theorem F__law_table (T : Txt K mg) : FnD P w K mg base 2 "_law_table" 2 m__law_table := fnD (k := 1) T.d__law_table sc__law_table rfl rfl fun f cdv A outer s H E hr => (ss_cons (s_lcSet 2 [("_law_number", 3)] rfl sc__law_table.nd rfl rfl rfl (i_rng1 rfl T.z_range (ad_cons (d_var 1 rfl (by first | exact Or.inl rfl | exact Or.inr (Or.inl rfl) | exact Or.inr (Or.inr rfl))) ad_nil rfl) rfl) (by kernel_rfl) (fun _ _ _ _ _ => (g_name 3 sc__law_table.nd rfl (by first | exact Or.inl rfl | exact Or.inr rfl) (by first | exact Or.inl rfl | exact Or.inr rfl))) (by decide) (fun _ _ _ _ _ => (ts_one (b_cmp op_gt rd_gt (d_call (F__law_take T) (hr.mono (by decide)) rfl passL (ar_s 0 rfl (by first | exact Or.inl rfl | exact Or.inr (Or.inl rfl) | exact Or.inr (Or.inr rfl)) (ar_v d_int ar_nil rfl) rfl) rfl rfl rfl) d_int (nomark _)))) (fun _ _ _ _ _ => (d_var 3 rfl (by first | exact Or.inl rfl | exact Or.inr (Or.inl rfl) | exact Or.inr (Or.inr rfl)))) (by intro _; rfl)) (ss_cons (s_new 4 sc__law_table.nd rfl (by first | exact Or.inl rfl | exact Or.inr rfl) (by first | exact Or.inl rfl | exact Or.inr rfl) (f_lstRg rfl T.z_list rfl T.z_range (d_var 1 rfl (by first | exact Or.inl rfl | exact Or.inr (Or.inl rfl) | exact Or.inr (Or.inr rfl))) rfl rfl) rfl) (ss_cons (s_new 5 sc__law_table.nd rfl (by first | exact Or.inl rfl | exact Or.inr rfl) (by first | exact Or.inl rfl | exact Or.inr rfl) (f_lst ad_nil) rfl) (ss_cons (s_for ownF rfl (i_seq (d_if (b_cmp (op_neD hr.units) rd_ne (d_var 2 rfl (by first | exact Or.inl rfl | exact Or.inr (Or.inl rfl) | exact Or.inr (Or.inr rfl))) (PF.pd (f_lst ad_nil)) (nomark _)) (d_var 2 rfl (by first | exact Or.inl rfl | exact Or.inr (Or.inl rfl) | exact Or.inr (Or.inr rfl))) (PF.pd (f_lst (ad_cons d_int ad_nil rfl))))) (g_name 6 sc__law_table.nd rfl (by first | exact Or.inl rfl | exact Or.inr rfl) (by first | exact Or.inl rfl | exact Or.inr rfl)) (ss_cons (s_set 7 sc__law_table.nd rfl (by first | exact Or.inl rfl | exact Or.inr rfl) (by first | exact Or.inl rfl | exact Or.inr rfl) (d_if (PBW.pb (b_and (b_cmp op_gt rd_gt (d_call (F__law_take T) (hr.mono (by decide)) rfl passF (ar_s 0 rfl (by first | exact Or.inl rfl | exact Or.inr (Or.inl rfl) | exact Or.inr (Or.inr rfl)) (ar_v d_int ar_nil rfl) rfl) rfl rfl rfl) d_int (nomark _)) (b_and1 (b_neO 4 hr.units rfl (by first | exact Or.inl rfl | exact Or.inr (Or.inl rfl) | exact Or.inr (Or.inr rfl)))))) (d_popO 4 rfl (by first | exact Or.inl rfl | exact Or.inr (Or.inl rfl) | exact Or.inr (Or.inr rfl)) (d_call (F__law_take T) (hr.mono (by decide)) rfl passF (ar_s 0 rfl (by first | exact Or.inl rfl | exact Or.inr (Or.inl rfl) | exact Or.inr (Or.inr rfl)) (ar_v (d_lenO 4 rfl (by first | exact Or.inl rfl | exact Or.inr (Or.inl rfl) | exact Or.inr (Or.inr rfl)) rfl T.z_len bb_len rfl rfl) ar_nil rfl) rfl) rfl rfl rfl) rfl rfl rfl rfl rfl) (d_call (F__law_take T) (hr.mono (by decide)) rfl passF (ar_s 0 rfl (by first | exact Or.inl rfl | exact Or.inr (Or.inl rfl) | exact Or.inr (Or.inr rfl)) (ar_v (d_var 1 rfl (by first | exact Or.inl rfl | exact Or.inr (Or.inl rfl) | exact Or.inr (Or.inr rfl))) ar_nil rfl) rfl) rfl rfl rfl)) rfl) (ss_one (s_appO 5 rfl (by first | exact Or.inl rfl | exact Or.inr (Or.inl rfl) | exact Or.inr (Or.inr rfl)) (d_tup (ad_cons (d_var 6 rfl (by first | exact Or.inl rfl | exact Or.inr (Or.inl rfl) | exact Or.inr (Or.inr rfl))) (ad_cons (d_var 7 rfl (by first | exact Or.inl rfl | exact Or.inr (Or.inl rfl) | exact Or.inr (Or.inr rfl))) ad_nil rfl) rfl)) rfl rfl rfl rfl rfl rfl))) (by intro _; rfl)) (ss_thaw 4 (ss_thaw 5 (ss_one (s_ret (d_callTy call_tupX rdc_tup rfl T.z_tuple bb_tuple (ad_cons (d_var 5 rfl (by first | exact Or.inl rfl | exact Or.inr (Or.inl rfl) | exact Or.inr (Or.inr rfl))) ad_nil rfl) rfl rfl)))))))))
theorem F__law_statement (T : Txt K mg) : FnD P w K mg base 3 "_law_statement" 3 m__law_statement := fnD (k := 2) T.d__law_statement sc__law_statement rfl rfl fun f cdv A outer s H E hr => (ss_cons (s_set 3 sc__law_statement.nd rfl (by first | exact Or.inl rfl | exact Or.inr rfl) (by first | exact Or.inl rfl | exact Or.inr rfl) (d_call (F__law_take T) (hr.mono (by decide)) rfl passF (ar_s 0 rfl (by first | exact Or.inl rfl | exact Or.inr (Or.inl rfl) | exact Or.inr (Or.inr rfl)) (ar_v d_int ar_nil rfl) rfl) rfl rfl rfl) rfl) (ss_cons (s_if (b_cmp op_lt rd_lt (d_var 3 rfl (by first | exact Or.inl rfl | exact Or.inr (Or.inl rfl) | exact Or.inr (Or.inr rfl))) d_int (nomark _)) (ss_one (s_ret (d_tup (ad_cons d_str (ad_cons (d_var 2 rfl (by first | exact Or.inl rfl | exact Or.inr (Or.inl rfl) | exact Or.inr (Or.inr rfl))) (ad_cons (d_call (F__law_take T) (hr.mono (by decide)) rfl passF (ar_s 0 rfl (by first | exact Or.inl rfl | exact Or.inr (Or.inl rfl) | exact Or.inr (Or.inr rfl)) (ar_v (d_var 1 rfl (by first | exact Or.inl rfl | exact Or.inr (Or.inl rfl) | exact Or.inr (Or.inr rfl))) ar_nil rfl) rfl) rfl rfl rfl) (ad_cons (d_call (F__law_take T) (hr.mono (by decide)) rfl passF (ar_s 0 rfl (by first | exact Or.inl rfl | exact Or.inr (Or.inl rfl) | exact Or.inr (Or.inr rfl)) (ar_v (d_var 1 rfl (by first | exact Or.inl rfl | exact Or.inr (Or.inl rfl) | exact Or.inr (Or.inr rfl))) ar_nil rfl) rfl) rfl rfl rfl) ad_nil rfl) rfl) rfl) rfl)))) ss_nil) (ss_cons (s_if (b_cmp (op_eqD hr.units) rd_eq (d_var 3 rfl (by first | exact Or.inl rfl | exact Or.inr (Or.inl rfl) | exact Or.inr (Or.inr rfl))) d_int (nomark _)) (ss_one (s_ret (d_tup (ad_cons d_str (ad_cons (d_var 2 rfl (by first | exact Or.inl rfl | exact Or.inr (Or.inl rfl) | exact Or.inr (Or.inr rfl))) (ad_cons (d_call (F__law_table T) (hr.mono (by decide)) rfl passF (ar_s 0 rfl (by first | exact Or.inl rfl | exact Or.inr (Or.inl rfl) | exact Or.inr (Or.inr rfl)) (ar_v (d_var 1 rfl (by first | exact Or.inl rfl | exact Or.inr (Or.inl rfl) | exact Or.inr (Or.inr rfl))) ar_nil rfl) rfl) rfl rfl rfl) ad_nil rfl) rfl) rfl)))) ss_nil) (ss_cons (s_if (b_cmp (op_eqD hr.units) rd_eq (d_var 3 rfl (by first | exact Or.inl rfl | exact Or.inr (Or.inl rfl) | exact Or.inr (Or.inr rfl))) d_int (nomark _)) (ss_one (s_ret (d_tup (ad_cons d_str (ad_cons (d_var 2 rfl (by first | exact Or.inl rfl | exact Or.inr (Or.inl rfl) | exact Or.inr (Or.inr rfl))) (ad_cons (d_call (F__law_pairs T) (hr.mono (by decide)) rfl passF (ar_s 0 rfl (by first | exact Or.inl rfl | exact Or.inr (Or.inl rfl) | exact Or.inr (Or.inr rfl)) (ar_v (d_var 1 rfl (by first | exact Or.inl rfl | exact Or.inr (Or.inl rfl) | exact Or.inr (Or.inr rfl))) (ar_v (d_op op_addA rd_add d_int (d_call (F__law_take T) (hr.mono (by decide)) rfl passF (ar_s 0 rfl (by first | exact Or.inl rfl | exact Or.inr (Or.inl rfl) | exact Or.inr (Or.inr rfl)) (ar_v d_int ar_nil rfl) rfl) rfl rfl rfl)) ar_nil rfl) rfl) rfl) rfl rfl rfl) ad_nil rfl) rfl) rfl)))) ss_nil) (ss_cons (s_set 4 sc__law_statement.nd rfl (by first | exact Or.inl rfl | exact Or.inr rfl) (by first | exact Or.inl rfl | exact Or.inr rfl) (d_ix hr.units (PF.pd (f_lst (ad_cons d_int (ad_cons (d_un un_neg rd_neg d_int) (ad_cons d_int (ad_cons (d_un un_neg rd_neg d_int) (ad_cons d_int (ad_cons (d_un un_neg rd_neg d_int) (ad_cons d_int (ad_cons (d_un un_neg rd_neg d_int) ad_nil rfl) rfl) rfl) rfl) rfl) rfl) rfl) rfl))) (d_call (F__law_take T) (hr.mono (by decide)) rfl passF (ar_s 0 rfl (by first | exact Or.inl rfl | exact Or.inr (Or.inl rfl) | exact Or.inr (Or.inr rfl)) (ar_v d_int ar_nil rfl) rfl) rfl rfl rfl) (fun _ _ => rfl)) rfl) (ss_one (s_ret (d_tup (ad_cons d_str (ad_cons (d_var 2 rfl (by first | exact Or.inl rfl | exact Or.inr (Or.inl rfl) | exact Or.inr (Or.inr rfl))) (ad_cons (d_var 4 rfl (by first | exact Or.inl rfl | exact Or.inr (Or.inl rfl) | exact Or.inr (Or.inr rfl))) (ad_cons (d_if (b_cmp (op_neD hr.units) rd_ne (d_cmp op_gt rd_gt (d_var 4 rfl (by first | exact Or.inl rfl | exact Or.inr (Or.inl rfl) | exact Or.inr (Or.inr rfl))) d_int (nomark _)) (d_cmp (op_eqD hr.units) rd_eq (d_call (F__law_take T) (hr.mono (by decide)) rfl passF (ar_s 0 rfl (by first | exact Or.inl rfl | exact Or.inr (Or.inl rfl) | exact Or.inr (Or.inr rfl)) (ar_v d_int ar_nil rfl) rfl) rfl rfl rfl) d_int (nomark _)) (nomark _)) d_str d_str) ad_nil rfl) rfl) rfl) rfl)))))))))
theorem F__law_twin (T : Txt K mg) : FnD P w K mg base 2 "_law_twin" 2 m__law_twin := fnD (k := 1) T.d__law_twin sc__law_twin rfl rfl fun f cdv A outer s H E hr => (ss_cons (s_if (PBW.pb (b_and (b_cmp (op_eqD hr.units) rd_eq (d_ix hr.units (d_var 1 rfl (by first | exact Or.inl rfl | exact Or.inr (Or.inl rfl) | exact Or.inr (Or.inr rfl))) d_int (fun _ _ => rfl)) d_str (nomark _)) (b_and1 (b_cmp (op_eqD hr.units) rd_eq (d_call (F__law_take T) (hr.mono (by decide)) rfl passF (ar_s 0 rfl (by first | exact Or.inl rfl | exact Or.inr (Or.inl rfl) | exact Or.inr (Or.inr rfl)) (ar_v d_int ar_nil rfl) rfl) rfl rfl rfl) d_int (nomark _))))) (ss_one (s_ret (d_tup (ad_cons d_str (ad_cons d_str (ad_cons (d_rev (d_ix hr.units (d_var 1 rfl (by first | exact Or.inl rfl | exact Or.inr (Or.inl rfl) | exact Or.inr (Or.inr rfl))) d_int (fun _ _ => rfl))) ad_nil rfl) rfl) rfl)))) ss_nil) (ss_one (s_ret (d_op op_addA rd_add (d_op op_addA rd_add (d_sl (d_var 1 rfl (by first | exact Or.inl rfl | exact Or.inr (Or.inl rfl) | exact Or.inr (Or.inr rfl))) od_none (od_some d_int)) (d_tup (ad_cons d_str ad_nil rfl))) (d_sl (d_var 1 rfl (by first | exact Or.inl rfl | exact Or.inr (Or.inl rfl) | exact Or.inr (Or.inr rfl))) (od_some d_int) od_none)))))
theorem F__law_script (T : Txt K mg) : FnD P w K mg base 4 "_law_script" 3 m__law_script := fnD (k := 3) T.d__law_script sc__law_script rfl rfl fun f cdv A outer s H E hr => (ss_cons (s_set 3 sc__law_script.nd rfl (by first | exact Or.inl rfl | exact Or.inr rfl) (by first | exact Or.inl rfl | exact Or.inr rfl) (d_tup ad_nil) rfl) (ss_cons (s_if (b_cmp (op_eqD hr.units) rd_eq (d_call (F__law_take T) (hr.mono (by decide)) rfl passF (ar_s 0 rfl (by first | exact Or.inl rfl | exact Or.inr (Or.inl rfl) | exact Or.inr (Or.inr rfl)) (ar_v d_int ar_nil rfl) rfl) rfl rfl rfl) d_int (nomark _)) (ss_cons (s_for ownF rfl (i_rng1 rfl T.z_range (ad_cons (d_call (F__law_take T) (hr.mono (by decide)) rfl passF (ar_s 0 rfl (by first | exact Or.inl rfl | exact Or.inr (Or.inl rfl) | exact Or.inr (Or.inr rfl)) (ar_v (d_op op_addA rd_add (d_var 2 rfl (by first | exact Or.inl rfl | exact Or.inr (Or.inl rfl) | exact Or.inr (Or.inr rfl))) d_int) ar_nil rfl) rfl) rfl rfl rfl) ad_nil rfl) rfl) (g_name 4 sc__law_script.nd rfl (by first | exact Or.inl rfl | exact Or.inr rfl) (by first | exact Or.inl rfl | exact Or.inr rfl)) (ss_one (s_set 3 sc__law_script.nd rfl (by first | exact Or.inl rfl | exact Or.inr rfl) (by first | exact Or.inl rfl | exact Or.inr rfl) (d_op op_addA rd_add (d_var 3 rfl (by first | exact Or.inl rfl | exact Or.inr (Or.inl rfl) | exact Or.inr (Or.inr rfl))) (d_tup (ad_cons (d_call (F__law_statement T) (hr.mono (by decide)) rfl passF (ar_s 0 rfl (by first | exact Or.inl rfl | exact Or.inr (Or.inl rfl) | exact Or.inr (Or.inr rfl)) (ar_v (d_var 1 rfl (by first | exact Or.inl rfl | exact Or.inr (Or.inl rfl) | exact Or.inr (Or.inr rfl))) (ar_v (d_ix hr.units (PF.pd (f_lst (ad_cons d_str (ad_cons d_str ad_nil rfl) rfl))) (d_call (F__law_take T) (hr.mono (by decide)) rfl passF (ar_s 0 rfl (by first | exact Or.inl rfl | exact Or.inr (Or.inl rfl) | exact Or.inr (Or.inr rfl)) (ar_v d_int ar_nil rfl) rfl) rfl rfl rfl) (fun _ _ => rfl)) ar_nil rfl) rfl) rfl) rfl rfl rfl) ad_nil rfl))) rfl)) (by intro _; rfl)) (ss_one (s_ret (d_var 3 rfl (by first | exact Or.inl rfl | exact Or.inr (Or.inl rfl) | exact Or.inr (Or.inr rfl)))))) ss_nil) (ss_cons (s_lcSet 5 [("_law_turn", 4)] rfl sc__law_script.nd rfl rfl rfl (i_rng1 rfl T.z_range (ad_cons (d_call (F__law_take T) (hr.mono (by decide)) rfl passF (ar_s 0 rfl (by first | exact Or.inl rfl | exact Or.inr (Or.inl rfl) | exact Or.inr (Or.inr rfl)) (ar_v (d_op op_addA rd_add (d_op op_fdiv rd_fdiv (d_var 2 rfl (by first | exact Or.inl rfl | exact Or.inr (Or.inl rfl) | exact Or.inr (Or.inr rfl))) d_int) d_int) ar_nil rfl) rfl) rfl rfl rfl) ad_nil rfl) rfl) (by kernel_rfl) (fun _ _ _ _ _ => (g_name 4 sc__law_script.nd rfl (by first | exact Or.inl rfl | exact Or.inr rfl) (by first | exact Or.inl rfl | exact Or.inr rfl))) (by decide) (fun _ _ _ _ _ => ts_nil) (fun _ _ _ _ _ => (d_call (F__law_statement T) (hr.mono (by decide)) rfl passL (ar_s 0 rfl (by first | exact Or.inl rfl | exact Or.inr (Or.inl rfl) | exact Or.inr (Or.inr rfl)) (ar_v (d_var 1 rfl (by first | exact Or.inl rfl | exact Or.inr (Or.inl rfl) | exact Or.inr (Or.inr rfl))) (ar_v d_str ar_nil rfl) rfl) rfl) rfl rfl rfl)) (by intro _; rfl)) (ss_cons (s_set 6 sc__law_script.nd rfl (by first | exact Or.inl rfl | exact Or.inr rfl) (by first | exact Or.inl rfl | exact Or.inr rfl) (d_callTy call_tupX rdc_tup rfl T.z_tuple bb_tuple (ad_cons (PF.pd (f_lc [("_law_one", 7)] rfl sc__law_script.nd (i_seq (d_var 5 rfl (by first | exact Or.inl rfl | exact Or.inr (Or.inl rfl) | exact Or.inr (Or.inr rfl)))) (by kernel_rfl) (fun _ _ _ _ _ => (g_name 7 sc__law_script.nd rfl (by first | exact Or.inl rfl | exact Or.inr rfl) (by first | exact Or.inl rfl | exact Or.inr rfl))) (by decide) (fun _ _ _ _ _ => ts_nil) (fun _ _ _ _ _ => (d_call (F__law_twin T) (hr.mono (by decide)) rfl passL (ar_s 0 rfl (by first | exact Or.inl rfl | exact Or.inr (Or.inl rfl) | exact Or.inr (Or.inr rfl)) (ar_v (d_var 7 rfl (by first | exact Or.inl rfl | exact Or.inr (Or.inl rfl) | exact Or.inr (Or.inr rfl))) ar_nil rfl) rfl) rfl rfl rfl)) (by intro _; rfl))) ad_nil rfl) rfl rfl) rfl) (ss_cons (s_set 8 sc__law_script.nd rfl (by first | exact Or.inl rfl | exact Or.inr rfl) (by first | exact Or.inl rfl | exact Or.inr rfl) (d_call (F__law_take T) (hr.mono (by decide)) rfl passF (ar_s 0 rfl (by first | exact Or.inl rfl | exact Or.inr (Or.inl rfl) | exact Or.inr (Or.inr rfl)) (ar_v (d_op op_addA rd_add (d_callB call_len2 rdc_len rfl T.z_len bb_len (ad_cons (d_var 6 rfl (by first | exact Or.inl rfl | exact Or.inr (Or.inl rfl) | exact Or.inr (Or.inr rfl))) ad_nil rfl) rfl rfl) d_int) ar_nil rfl) rfl) rfl rfl rfl) rfl) (ss_cons (s_if (b_cmp (op_eqD hr.units) rd_eq (d_call (F__law_take T) (hr.mono (by decide)) rfl passF (ar_s 0 rfl (by first | exact Or.inl rfl | exact Or.inr (Or.inl rfl) | exact Or.inr (Or.inr rfl)) (ar_v d_int ar_nil rfl) rfl) rfl rfl rfl) d_int (nomark _)) (ss_one (s_set 6 sc__law_script.nd rfl (by first | exact Or.inl rfl | exact Or.inr rfl) (by first | exact Or.inl rfl | exact Or.inr rfl) (d_op op_addA rd_add (d_sl (d_var 6 rfl (by first | exact Or.inl rfl | exact Or.inr (Or.inl rfl) | exact Or.inr (Or.inr rfl))) od_none (od_some (d_var 8 rfl (by first | exact Or.inl rfl | exact Or.inr (Or.inl rfl) | exact Or.inr (Or.inr rfl))))) (d_sl (d_var 6 rfl (by first | exact Or.inl rfl | exact Or.inr (Or.inl rfl) | exact Or.inr (Or.inr rfl))) (od_some (d_op op_addA rd_add (d_var 8 rfl (by first | exact Or.inl rfl | exact Or.inr (Or.inl rfl) | exact Or.inr (Or.inr rfl))) d_int)) od_none)) rfl)) ss_nil) (ss_one (s_ret (d_if (b_cmp op_gt rd_gt (d_call (F__law_take T) (hr.mono (by decide)) rfl passF (ar_s 0 rfl (by first | exact Or.inl rfl | exact Or.inr (Or.inl rfl) | exact Or.inr (Or.inr rfl)) (ar_v d_int ar_nil rfl) rfl) rfl rfl rfl) d_int (nomark _)) (d_op op_addA rd_add (d_callTy call_tupX rdc_tup rfl T.z_tuple bb_tuple (ad_cons (d_var 5 rfl (by first | exact Or.inl rfl | exact Or.inr (Or.inl rfl) | exact Or.inr (Or.inr rfl))) ad_nil rfl) rfl rfl) (d_var 6 rfl (by first | exact Or.inl rfl | exact Or.inr (Or.inl rfl) | exact Or.inr (Or.inr rfl)))) (d_op op_addA rd_add (d_var 6 rfl (by first | exact Or.inl rfl | exact Or.inr (Or.inl rfl) | exact Or.inr (Or.inr rfl))) (d_callTy call_tupX rdc_tup rfl T.z_tuple bb_tuple (ad_cons (d_var 5 rfl (by first | exact Or.inl rfl | exact Or.inr (Or.inl rfl) | exact Or.inr (Or.inr rfl))) ad_nil rfl) rfl rfl)))))))))))
theorem F__law_all_contents (T : Txt K mg) : FnD P w K mg base 1 "_law_all_contents" 1 m__law_all_contents := fnD (k := 0) T.d__law_all_contents sc__law_all_contents rfl rfl fun f cdv A outer s H E hr => (ss_cons (s_set 1 sc__law_all_contents.nd rfl (by first | exact Or.inl rfl | exact Or.inr rfl) (by first | exact Or.inl rfl | exact Or.inr rfl) (PF.pd (f_lst (ad_cons (d_tup ad_nil) ad_nil rfl))) rfl) (ss_cons (s_for ownF rfl (i_rng1 rfl T.z_range (ad_cons (d_var 0 rfl (by first | exact Or.inl rfl | exact Or.inr (Or.inl rfl) | exact Or.inr (Or.inr rfl))) ad_nil rfl) rfl) (g_name 2 sc__law_all_contents.nd rfl (by first | exact Or.inl rfl | exact Or.inr rfl) (by first | exact Or.inl rfl | exact Or.inr rfl)) (ss_one (s_set 1 sc__law_all_contents.nd rfl (by first | exact Or.inl rfl | exact Or.inr rfl) (by first | exact Or.inl rfl | exact Or.inr rfl) (d_op op_addA rd_add (d_var 1 rfl (by first | exact Or.inl rfl | exact Or.inr (Or.inl rfl) | exact Or.inr (Or.inr rfl))) (PF.pd (f_lc [("_law_row", 3)] rfl sc__law_all_contents.nd (i_seq (d_var 1 rfl (by first | exact Or.inl rfl | exact Or.inr (Or.inl rfl) | exact Or.inr (Or.inr rfl)))) (by kernel_rfl) (fun _ _ _ _ _ => (g_name 3 sc__law_all_contents.nd rfl (by first | exact Or.inl rfl | exact Or.inr rfl) (by first | exact Or.inl rfl | exact Or.inr rfl))) (by decide) (fun _ _ _ _ _ => ts_nil) (fun _ _ _ _ _ => (d_op op_addA rd_add (d_var 3 rfl (by first | exact Or.inl rfl | exact Or.inr (Or.inl rfl) | exact Or.inr (Or.inr rfl))) (d_tup (ad_cons (d_var 2 rfl (by first | exact Or.inl rfl | exact Or.inr (Or.inl rfl) | exact Or.inr (Or.inr rfl))) ad_nil rfl)))) (by intro _; rfl)))) rfl)) (by intro _; rfl)) (ss_cons (s_set 4 sc__law_all_contents.nd rfl (by first | exact Or.inl rfl | exact Or.inr rfl) (by first | exact Or.inl rfl | exact Or.inr rfl) (PF.pd (f_lst ad_nil)) rfl) (ss_cons (s_for ownF rfl (i_rng1 rfl T.z_range (ad_cons (d_op op_addA rd_add (d_var 0 rfl (by first | exact Or.inl rfl | exact Or.inr (Or.inl rfl) | exact Or.inr (Or.inr rfl))) d_int) ad_nil rfl) rfl) (g_name 5 sc__law_all_contents.nd rfl (by first | exact Or.inl rfl | exact Or.inr rfl) (by first | exact Or.inl rfl | exact Or.inr rfl)) (ss_one (s_set 4 sc__law_all_contents.nd rfl (by first | exact Or.inl rfl | exact Or.inr rfl) (by first | exact Or.inl rfl | exact Or.inr rfl) (d_op op_addA rd_add (d_var 4 rfl (by first | exact Or.inl rfl | exact Or.inr (Or.inl rfl) | exact Or.inr (Or.inr rfl))) (PF.pd (f_callB (cr_sortA hr.units) rdc_sort rfl T.z_sorted bb_sorted (ad_cons (PF.pd (f_lc [("_law_row", 3)] rfl sc__law_all_contents.nd (i_seq (d_var 1 rfl (by first | exact Or.inl rfl | exact Or.inr (Or.inl rfl) | exact Or.inr (Or.inr rfl)))) (by kernel_rfl) (fun _ _ _ _ _ => (g_name 3 sc__law_all_contents.nd rfl (by first | exact Or.inl rfl | exact Or.inr rfl) (by first | exact Or.inl rfl | exact Or.inr rfl))) (by decide) (fun _ _ _ _ _ => (ts_one (b_cmp (op_eqD hr.units) rd_eq (d_callB call_len2 rdc_len rfl T.z_len bb_len (ad_cons (d_var 3 rfl (by first | exact Or.inl rfl | exact Or.inr (Or.inl rfl) | exact Or.inr (Or.inr rfl))) ad_nil rfl) rfl rfl) (d_var 5 rfl (by first | exact Or.inl rfl | exact Or.inr (Or.inl rfl) | exact Or.inr (Or.inr rfl))) (nomark _)))) (fun _ _ _ _ _ => (d_var 3 rfl (by first | exact Or.inl rfl | exact Or.inr (Or.inl rfl) | exact Or.inr (Or.inr rfl)))) (by intro _; rfl))) ad_nil rfl) rfl rfl))) rfl)) (by intro _; rfl)) (ss_one (s_ret (d_var 4 rfl (by first | exact Or.inl rfl | exact Or.inr (Or.inl rfl) | exact Or.inr (Or.inr rfl)))))))))
theorem F__law_sum (T : Txt K mg) : FnD P w K mg base 1 "_law_sum" 3 m__law_sum := fnD (k := 0) T.d__law_sum sc__law_sum rfl rfl fun f cdv A outer s H E hr => (ss_one (s_ret (d_if (b_inRg rfl T.z_range (d_op op_addA rd_add (d_var 1 rfl (by first | exact Or.inl rfl | exact Or.inr (Or.inl rfl) | exact Or.inr (Or.inr rfl))) (d_var 2 rfl (by first | exact Or.inl rfl | exact Or.inr (Or.inl rfl) | exact Or.inr (Or.inr rfl)))) (d_var 0 rfl (by first | exact Or.inl rfl | exact Or.inr (Or.inl rfl) | exact Or.inr (Or.inr rfl))) rfl (by with_unfolding_all rfl)) (d_op op_addA rd_add (d_var 1 rfl (by first | exact Or.inl rfl | exact Or.inr (Or.inl rfl) | exact Or.inr (Or.inr rfl))) (d_var 2 rfl (by first | exact Or.inl rfl | exact Or.inr (Or.inl rfl) | exact Or.inr (Or.inr rfl)))) (d_var 1 rfl (by first | exact Or.inl rfl | exact Or.inr (Or.inl rfl) | exact Or.inr (Or.inr rfl))))))
theorem F__law_refs (T : Txt K mg) : FnD P w K mg base 2 "_law_refs" 3 m__law_refs := fnD (k := 1) T.d__law_refs sc__law_refs rfl rfl fun f cdv A outer s H E hr => (ss_cons (s_if (b_cmp (op_eqD hr.units) rd_eq (d_ix hr.units (d_var 1 rfl (by first | exact Or.inl rfl | exact Or.inr (Or.inl rfl) | exact Or.inr (Or.inr rfl))) d_int (fun _ _ => rfl)) d_str (nomark _)) (ss_one (s_ret (d_call (F__law_sum T) (hr.mono (by decide)) rfl passF (ar_v (d_var 0 rfl (by first | exact Or.inl rfl | exact Or.inr (Or.inl rfl) | exact Or.inr (Or.inr rfl))) (ar_v (d_var 2 rfl (by first | exact Or.inl rfl | exact Or.inr (Or.inl rfl) | exact Or.inr (Or.inr rfl))) (ar_v (d_ix hr.units (d_var 1 rfl (by first | exact Or.inl rfl | exact Or.inr (Or.inl rfl) | exact Or.inr (Or.inr rfl))) d_int (fun _ _ => rfl)) ar_nil rfl) rfl) rfl) rfl rfl rfl))) ss_nil) (ss_cons (s_if (b_cmp (op_eqD hr.units) rd_eq (d_ix hr.units (d_var 1 rfl (by first | exact Or.inl rfl | exact Or.inr (Or.inl rfl) | exact Or.inr (Or.inr rfl))) d_int (fun _ _ => rfl)) d_str (nomark _)) (ss_one (s_ret (d_ix hr.units (d_op op_addA rd_add (PF.pd (f_lc [("_law_old", 3), ("_law_new", 4)] rfl sc__law_refs.nd (i_seq (d_ix hr.units (d_var 1 rfl (by first | exact Or.inl rfl | exact Or.inr (Or.inl rfl) | exact Or.inr (Or.inr rfl))) d_int (fun _ _ => rfl))) (by kernel_rfl) (fun _ _ _ _ _ => (g_tup rfl (gs_cons (g_name 3 sc__law_refs.nd rfl (by first | exact Or.inl rfl | exact Or.inr rfl) (by first | exact Or.inl rfl | exact Or.inr rfl)) (gs_cons (g_name 4 sc__law_refs.nd rfl (by first | exact Or.inl rfl | exact Or.inr rfl) (by first | exact Or.inl rfl | exact Or.inr rfl)) gs_nil rfl) rfl) rfl rfl)) (by decide) (fun _ _ _ _ _ => (ts_one (b_cmp (op_eqD hr.units) rd_eq (d_var 3 rfl (by first | exact Or.inl rfl | exact Or.inr (Or.inl rfl) | exact Or.inr (Or.inr rfl))) (d_var 2 rfl (by first | exact Or.inl rfl | exact Or.inr (Or.inl rfl) | exact Or.inr (Or.inr rfl))) (nomark _)))) (fun _ _ _ _ _ => (d_var 4 rfl (by first | exact Or.inl rfl | exact Or.inr (Or.inl rfl) | exact Or.inr (Or.inr rfl)))) (by intro _; rfl))) (PF.pd (f_lst (ad_cons (d_var 2 rfl (by first | exact Or.inl rfl | exact Or.inr (Or.inl rfl) | exact Or.inr (Or.inr rfl))) ad_nil rfl)))) d_int (fun _ _ => rfl)))) ss_nil) (ss_cons (s_for ownF rfl (i_seq (d_if (b_cmp (op_eqD hr.units) rd_eq (d_ix hr.units (d_var 1 rfl (by first | exact Or.inl rfl | exact Or.inr (Or.inl rfl) | exact Or.inr (Or.inr rfl))) d_int (fun _ _ => rfl)) d_str (nomark _)) (d_ix hr.units (d_var 1 rfl (by first | exact Or.inl rfl | exact Or.inr (Or.inl rfl) | exact Or.inr (Or.inr rfl))) d_int (fun _ _ => rfl)) (PF.pd (f_lst (ad_cons (d_sl (d_var 1 rfl (by first | exact Or.inl rfl | exact Or.inr (Or.inl rfl) | exact Or.inr (Or.inr rfl))) (od_some d_int) od_none) ad_nil rfl))))) (g_tup rfl (gs_cons (g_name 3 sc__law_refs.nd rfl (by first | exact Or.inl rfl | exact Or.inr rfl) (by first | exact Or.inl rfl | exact Or.inr rfl)) (gs_cons (g_name 4 sc__law_refs.nd rfl (by first | exact Or.inl rfl | exact Or.inr rfl) (by first | exact Or.inl rfl | exact Or.inr rfl)) gs_nil rfl) rfl) rfl rfl) (ss_one (s_if (b_cmp (op_eqD hr.units) rd_eq (d_var 2 rfl (by first | exact Or.inl rfl | exact Or.inr (Or.inl rfl) | exact Or.inr (Or.inr rfl))) (d_var 3 rfl (by first | exact Or.inl rfl | exact Or.inr (Or.inl rfl) | exact Or.inr (Or.inr rfl))) (nomark _)) (ss_one (s_set 2 sc__law_refs.nd rfl (by first | exact Or.inl rfl | exact Or.inr rfl) (by first | exact Or.inl rfl | exact Or.inr rfl) (d_var 4 rfl (by first | exact Or.inl rfl | exact Or.inr (Or.inl rfl) | exact Or.inr (Or.inr rfl))) rfl)) ss_nil)) (by intro _; rfl)) (ss_one (s_ret (d_var 2 rfl (by first | exact Or.inl rfl | exact Or.inr (Or.inl rfl) | exact Or.inr (Or.inr rfl))))))))
theorem F__law_singles (T : Txt K mg) : FnD P w K mg base 2 "_law_singles" 3 m__law_singles := fnD (k := 1) T.d__law_singles sc__law_singles rfl rfl fun f cdv A outer s H E hr => (ss_cons (s_if (b_cmp (op_eqD hr.units) rd_eq (d_ix hr.units (d_var 1 rfl (by first | exact Or.inl rfl | exact Or.inr (Or.inl rfl) | exact Or.inr (Or.inr rfl))) d_int (fun _ _ => rfl)) d_str (nomark _)) (ss_one (s_ret (PF.pd (f_lc [("_law_row", 3)] rfl sc__law_singles.nd (i_seq (d_var 2 rfl (by first | exact Or.inl rfl | exact Or.inr (Or.inl rfl) | exact Or.inr (Or.inr rfl)))) (by kernel_rfl) (fun _ _ _ _ _ => (g_name 3 sc__law_singles.nd rfl (by first | exact Or.inl rfl | exact Or.inr rfl) (by first | exact Or.inl rfl | exact Or.inr rfl))) (by decide) (fun _ _ _ _ _ => (ts_one (b_cmp (op_eqD hr.units) rd_eq (d_ix hr.units (d_var 2 rfl (by first | exact Or.inl rfl | exact Or.inr (Or.inl rfl) | exact Or.inr (Or.inr rfl))) (d_var 3 rfl (by first | exact Or.inl rfl | exact Or.inr (Or.inl rfl) | exact Or.inr (Or.inr rfl))) (fun _ _ => rfl)) (d_ix hr.units (d_var 1 rfl (by first | exact Or.inl rfl | exact Or.inr (Or.inl rfl) | exact Or.inr (Or.inr rfl))) d_int (fun _ _ => rfl)) (nomark _)))) (fun _ _ _ _ _ => (d_tup (ad_cons (d_var 3 rfl (by first | exact Or.inl rfl | exact Or.inr (Or.inl rfl) | exact Or.inr (Or.inr rfl))) (ad_cons (d_ix hr.units (d_var 1 rfl (by first | exact Or.inl rfl | exact Or.inr (Or.inl rfl) | exact Or.inr (Or.inr rfl))) d_int (fun _ _ => rfl)) ad_nil rfl) rfl))) (by intro _; rfl))))) ss_nil) (ss_cons (s_set 4 sc__law_singles.nd rfl (by first | exact Or.inl rfl | exact Or.inr rfl) (by first | exact Or.inl rfl | exact Or.inr rfl) (PF.pd (f_callB (cr_sortA hr.units) rdc_sort rfl T.z_sorted bb_sorted (ad_cons (PF.pd (f_lc [("_law_row", 3)] rfl sc__law_singles.nd (i_seq (d_var 2 rfl (by first | exact Or.inl rfl | exact Or.inr (Or.inl rfl) | exact Or.inr (Or.inr rfl)))) (by kernel_rfl) (fun _ _ _ _ _ => (g_name 3 sc__law_singles.nd rfl (by first | exact Or.inl rfl | exact Or.inr rfl) (by first | exact Or.inl rfl | exact Or.inr rfl))) (by decide) (fun _ _ _ _ _ => ts_nil) (fun _ _ _ _ _ => (d_tup (ad_cons (d_ix hr.units (d_var 2 rfl (by first | exact Or.inl rfl | exact Or.inr (Or.inl rfl) | exact Or.inr (Or.inr rfl))) (d_var 3 rfl (by first | exact Or.inl rfl | exact Or.inr (Or.inl rfl) | exact Or.inr (Or.inr rfl))) (fun _ _ => rfl)) (ad_cons (d_var 3 rfl (by first | exact Or.inl rfl | exact Or.inr (Or.inl rfl) | exact Or.inr (Or.inr rfl))) ad_nil rfl) rfl))) (by intro _; rfl))) ad_nil rfl) rfl rfl)) rfl) (ss_cons (s_if (b_cmp (op_eqD hr.units) rd_eq (d_ix hr.units (d_var 1 rfl (by first | exact Or.inl rfl | exact Or.inr (Or.inl rfl) | exact Or.inr (Or.inr rfl))) d_int (fun _ _ => rfl)) d_str (nomark _)) (ss_one (s_set 4 sc__law_singles.nd rfl (by first | exact Or.inl rfl | exact Or.inr rfl) (by first | exact Or.inl rfl | exact Or.inr rfl) (d_rev (d_var 4 rfl (by first | exact Or.inl rfl | exact Or.inr (Or.inl rfl) | exact Or.inr (Or.inr rfl)))) rfl)) ss_nil) (ss_one (s_ret (PF.pd (f_lc [("_law_number", 5), ("_law_row", 3)] rfl sc__law_singles.nd (i_seq (d_var 4 rfl (by first | exact Or.inl rfl | exact Or.inr (Or.inl rfl) | exact Or.inr (Or.inr rfl)))) (by kernel_rfl) (fun _ _ _ _ _ => (g_tup rfl (gs_cons (g_name 5 sc__law_singles.nd rfl (by first | exact Or.inl rfl | exact Or.inr rfl) (by first | exact Or.inl rfl | exact Or.inr rfl)) (gs_cons (g_name 3 sc__law_singles.nd rfl (by first | exact Or.inl rfl | exact Or.inr rfl) (by first | exact Or.inl rfl | exact Or.inr rfl)) gs_nil rfl) rfl) rfl rfl)) (by decide) (fun _ _ _ _ _ => ts_nil) (fun _ _ _ _ _ => (d_tup (ad_cons (d_var 3 rfl (by first | exact Or.inl rfl | exact Or.inr (Or.inl rfl) | exact Or.inr (Or.inr rfl))) (ad_cons (d_call (F__law_sum T) (hr.mono (by decide)) rfl passL (ar_v (d_var 0 rfl (by first | exact Or.inl rfl | exact Or.inr (Or.inl rfl) | exact Or.inr (Or.inr rfl))) (ar_v (d_var 5 rfl (by first | exact Or.inl rfl | exact Or.inr (Or.inl rfl) | exact Or.inr (Or.inr rfl))) (ar_v (d_ix hr.units (d_var 1 rfl (by first | exact Or.inl rfl | exact Or.inr (Or.inl rfl) | exact Or.inr (Or.inr rfl))) d_int (fun _ _ => rfl)) ar_nil rfl) rfl) rfl) rfl rfl rfl) ad_nil rfl) rfl))) (by intro _; rfl))))))))
theorem F__law_rows (T : Txt K mg) : FnD P w K mg base 3 "_law_rows" 3 m__law_rows := fnD (k := 2) T.d__law_rows sc__law_rows rfl rfl fun f cdv A outer s H E hr => (ss_cons (s_if (b_cmp (op_eqD hr.units) rd_eq (d_ix hr.units (d_var 1 rfl (by first | exact Or.inl rfl | exact Or.inr (Or.inl rfl) | exact Or.inr (Or.inr rfl))) d_int (fun _ _ => rfl)) d_str (nomark _)) (ss_cons (s_new 3 sc__law_rows.nd rfl (by first | exact Or.inl rfl | exact Or.inr rfl) (by first | exact Or.inl rfl | exact Or.inr rfl) f_dnew rfl) (ss_cons (s_for ownF rfl (i_seq (d_var 2 rfl (by first | exact Or.inl rfl | exact Or.inr (Or.inl rfl) | exact Or.inr (Or.inr rfl)))) (g_name 4 sc__law_rows.nd rfl (by first | exact Or.inl rfl | exact Or.inr rfl) (by first | exact Or.inl rfl | exact Or.inr rfl)) (ss_one (s_setK 3 hr.units rfl (by first | exact Or.inl rfl | exact Or.inr (Or.inl rfl) | exact Or.inr (Or.inr rfl)) (d_var 4 rfl (by first | exact Or.inl rfl | exact Or.inr (Or.inl rfl) | exact Or.inr (Or.inr rfl))) (d_call (F__law_refs T) (hr.mono (by decide)) rfl passF (ar_v (d_var 0 rfl (by first | exact Or.inl rfl | exact Or.inr (Or.inl rfl) | exact Or.inr (Or.inr rfl))) (ar_v (d_var 1 rfl (by first | exact Or.inl rfl | exact Or.inr (Or.inl rfl) | exact Or.inr (Or.inr rfl))) (ar_v (d_ix hr.units (d_var 2 rfl (by first | exact Or.inl rfl | exact Or.inr (Or.inl rfl) | exact Or.inr (Or.inr rfl))) (d_var 4 rfl (by first | exact Or.inl rfl | exact Or.inr (Or.inl rfl) | exact Or.inr (Or.inr rfl))) (fun _ _ => rfl)) ar_nil rfl) rfl) rfl) rfl rfl rfl) (by intro _; rfl) rfl rfl rfl)) (by intro _; rfl)) (ss_thaw 3 (ss_cons (s_set 5 sc__law_rows.nd rfl (by first | exact Or.inl rfl | exact Or.inr rfl) (by first | exact Or.inl rfl | exact Or.inr rfl) (d_cmp (op_eqD hr.units) rd_eq (d_lenSet rfl T.z_len rfl T.z_set (PF.pd (f_vals rfl T.z_list (d_var 3 rfl (by first | exact Or.inl rfl | exact Or.inr (Or.inl rfl) | exact Or.inr (Or.inr rfl))) rfl rfl rfl)) rfl rfl) (d_callB call_len2 rdc_len rfl T.z_len bb_len (ad_cons (d_var 3 rfl (by first | exact Or.inl rfl | exact Or.inr (Or.inl rfl) | exact Or.inr (Or.inr rfl))) ad_nil rfl) rfl rfl) (nomark _)) rfl) (ss_one (s_ret (d_if (b_val (d_var 5 rfl (by first | exact Or.inl rfl | exact Or.inr (Or.inl rfl) | exact Or.inr (Or.inr rfl))) (by intro _; rfl)) (d_tup (ad_cons (d_var 3 rfl (by first | exact Or.inl rfl | exact Or.inr (Or.inl rfl) | exact Or.inr (Or.inr rfl))) (ad_cons d_bl ad_nil rfl) rfl)) (d_tup (ad_cons (d_var 2 rfl (by first | exact Or.inl rfl | exact Or.inr (Or.inl rfl) | exact Or.inr (Or.inr rfl))) (ad_cons d_bl ad_nil rfl) rfl))))))))) ss_nil) (ss_cons (s_set 6 sc__law_rows.nd rfl (by first | exact Or.inl rfl | exact Or.inr rfl) (by first | exact Or.inl rfl | exact Or.inr rfl) (d_if (b_cmp (op_eqD hr.units) rd_eq (d_ix hr.units (d_var 1 rfl (by first | exact Or.inl rfl | exact Or.inr (Or.inl rfl) | exact Or.inr (Or.inr rfl))) d_int (fun _ _ => rfl)) d_str (nomark _)) (PF.pd (f_lc [("_law_pair", 7)] rfl sc__law_rows.nd (i_seq (d_ix hr.units (d_var 1 rfl (by first | exact Or.inl rfl | exact Or.inr (Or.inl rfl) | exact Or.inr (Or.inr rfl))) d_int (fun _ _ => rfl))) (by kernel_rfl) (fun _ _ _ _ _ => (g_name 7 sc__law_rows.nd rfl (by first | exact Or.inl rfl | exact Or.inr rfl) (by first | exact Or.inl rfl | exact Or.inr rfl))) (by decide) (fun _ _ _ _ _ => ts_nil) (fun _ _ _ _ _ => (d_op op_addA rd_add (d_tup (ad_cons d_str (ad_cons d_str ad_nil rfl) rfl)) (d_var 7 rfl (by first | exact Or.inl rfl | exact Or.inr (Or.inl rfl) | exact Or.inr (Or.inr rfl))))) (by intro _; rfl))) (PF.pd (f_lst (ad_cons (d_var 1 rfl (by first | exact Or.inl rfl | exact Or.inr (Or.inl rfl) | exact Or.inr (Or.inr rfl))) ad_nil rfl)))) rfl) (ss_cons (s_for ownF rfl (i_seq (d_var 6 rfl (by first | exact Or.inl rfl | exact Or.inr (Or.inl rfl) | exact Or.inr (Or.inr rfl)))) (g_name 8 sc__law_rows.nd rfl (by first | exact Or.inl rfl | exact Or.inr rfl) (by first | exact Or.inl rfl | exact Or.inr rfl)) (ss_one (s_for ownF rfl (i_seq (d_call (F__law_singles T) (hr.mono (by decide)) rfl passF (ar_v (d_var 0 rfl (by first | exact Or.inl rfl | exact Or.inr (Or.inl rfl) | exact Or.inr (Or.inr rfl))) (ar_v (d_var 8 rfl (by first | exact Or.inl rfl | exact Or.inr (Or.inl rfl) | exact Or.inr (Or.inr rfl))) (ar_v (d_var 2 rfl (by first | exact Or.inl rfl | exact Or.inr (Or.inl rfl) | exact Or.inr (Or.inr rfl))) ar_nil rfl) rfl) rfl) rfl rfl rfl)) (g_tup rfl (gs_cons (g_name 4 sc__law_rows.nd rfl (by first | exact Or.inl rfl | exact Or.inr rfl) (by first | exact Or.inl rfl | exact Or.inr rfl)) (gs_cons (g_name 9 sc__law_rows.nd rfl (by first | exact Or.inl rfl | exact Or.inr rfl) (by first | exact Or.inl rfl | exact Or.inr rfl)) gs_nil rfl) rfl) rfl rfl) (ss_cons (s_if (b_cmp (op_neD hr.units) rd_ne (PF.pd (f_lc [("_law_other", 10)] rfl sc__law_rows.nd (i_seq (d_var 2 rfl (by first | exact Or.inl rfl | exact Or.inr (Or.inl rfl) | exact Or.inr (Or.inr rfl)))) (by kernel_rfl) (fun _ _ _ _ _ => (g_name 10 sc__law_rows.nd rfl (by first | exact Or.inl rfl | exact Or.inr rfl) (by first | exact Or.inl rfl | exact Or.inr rfl))) (by decide) (fun _ _ _ _ _ => (ts_one (PBW.pb (b_and (b_cmp (op_neD hr.units) rd_ne (d_var 10 rfl (by first | exact Or.inl rfl | exact Or.inr (Or.inl rfl) | exact Or.inr (Or.inr rfl))) (d_var 4 rfl (by first | exact Or.inl rfl | exact Or.inr (Or.inl rfl) | exact Or.inr (Or.inr rfl))) (nomark _)) (b_and1 (b_cmp (op_eqD hr.units) rd_eq (d_ix hr.units (d_var 2 rfl (by first | exact Or.inl rfl | exact Or.inr (Or.inl rfl) | exact Or.inr (Or.inr rfl))) (d_var 10 rfl (by first | exact Or.inl rfl | exact Or.inr (Or.inl rfl) | exact Or.inr (Or.inr rfl))) (fun _ _ => rfl)) (d_var 9 rfl (by first | exact Or.inl rfl | exact Or.inr (Or.inl rfl) | exact Or.inr (Or.inr rfl))) (nomark _))))))) (fun _ _ _ _ _ => (d_var 10 rfl (by first | exact Or.inl rfl | exact Or.inr (Or.inl rfl) | exact Or.inr (Or.inr rfl)))) (by intro _; rfl))) (PF.pd (f_lst ad_nil)) (nomark _)) (ss_one (s_ret (d_tup (ad_cons (d_var 2 rfl (by first | exact Or.inl rfl | exact Or.inr (Or.inl rfl) | exact Or.inr (Or.inr rfl))) (ad_cons d_bl ad_nil rfl) rfl)))) ss_nil) (ss_cons (s_new 2 sc__law_rows.nd rfl (by first | exact Or.inl rfl | exact Or.inr rfl) (by first | exact Or.inl rfl | exact Or.inr rfl) (f_callTy (cr_dictA rfl) rdc_dictA rfl T.z_dict bb_dict (ad_cons (d_var 2 rfl (by first | exact Or.inl rfl | exact Or.inr (Or.inl rfl) | exact Or.inr (Or.inr rfl))) ad_nil rfl) rfl rfl) rfl) (ss_cons (s_setK 2 hr.units rfl (by first | exact Or.inl rfl | exact Or.inr (Or.inl rfl) | exact Or.inr (Or.inr rfl)) (d_var 4 rfl (by first | exact Or.inl rfl | exact Or.inr (Or.inl rfl) | exact Or.inr (Or.inr rfl))) (d_var 9 rfl (by first | exact Or.inl rfl | exact Or.inr (Or.inl rfl) | exact Or.inr (Or.inr rfl))) (by intro _; rfl) rfl rfl rfl) (ss_thaw 2 ss_nil)))) (by intro _; rfl))) (by intro _; rfl)) (ss_one (s_ret (d_tup (ad_cons (d_var 2 rfl (by first | exact Or.inl rfl | exact Or.inr (Or.inl rfl) | exact Or.inr (Or.inr rfl))) (ad_cons d_bl ad_nil rfl) rfl)))))))
theorem F__law_done (T : Txt K mg) : FnD P w K mg base 4 "_law_done" 4 m__law_done := fnD (k := 3) T.d__law_done sc__law_done rfl rfl fun f cdv A outer s H E hr => (ss_cons (s_for ownF rfl (i_enumA rfl T.z_enumerate (ad_cons (d_var 1 rfl (by first | exact Or.inl rfl | exact Or.inr (Or.inl rfl) | exact Or.inr (Or.inr rfl))) ad_nil rfl) rfl) (g_tup rfl (gs_cons (g_name 4 sc__law_done.nd rfl (by first | exact Or.inl rfl | exact Or.inr rfl) (by first | exact Or.inl rfl | exact Or.inr rfl)) (gs_cons (g_name 5 sc__law_done.nd rfl (by first | exact Or.inl rfl | exact Or.inr rfl) (by first | exact Or.inl rfl | exact Or.inr rfl)) gs_nil rfl) rfl) rfl rfl) (ss_one (s_if (b_cmp (op_eqD hr.units) rd_eq (d_ix hr.units (d_var 5 rfl (by first | exact Or.inl rfl | exact Or.inr (Or.inl rfl) | exact Or.inr (Or.inr rfl))) d_int (fun _ _ => rfl)) d_str (nomark _)) (ss_one (s_set 3 sc__law_done.nd rfl (by first | exact Or.inl rfl | exact Or.inr rfl) (by first | exact Or.inl rfl | exact Or.inr rfl) (d_callTy call_tupX rdc_tup rfl T.z_tuple bb_tuple (ad_cons (PF.pd (f_lc [("_law_number", 6)] rfl sc__law_done.nd (i_seq (d_var 3 rfl (by first | exact Or.inl rfl | exact Or.inr (Or.inl rfl) | exact Or.inr (Or.inr rfl)))) (by kernel_rfl) (fun _ _ _ _ _ => (g_name 6 sc__law_done.nd rfl (by first | exact Or.inl rfl | exact Or.inr rfl) (by first | exact Or.inl rfl | exact Or.inr rfl))) (by decide) (fun _ _ _ _ _ => ts_nil) (fun _ _ _ _ _ => (d_call (F__law_refs T) (hr.mono (by decide)) rfl passL (ar_v (d_var 0 rfl (by first | exact Or.inl rfl | exact Or.inr (Or.inl rfl) | exact Or.inr (Or.inr rfl))) (ar_v (d_var 5 rfl (by first | exact Or.inl rfl | exact Or.inr (Or.inl rfl) | exact Or.inr (Or.inr rfl))) (ar_v (d_var 6 rfl (by first | exact Or.inl rfl | exact Or.inr (Or.inl rfl) | exact Or.inr (Or.inr rfl))) ar_nil rfl) rfl) rfl) rfl rfl rfl)) (by intro _; rfl))) ad_nil rfl) rfl rfl) rfl)) (ss_cons (s_asg (d_call (F__law_rows T) (hr.mono (by decide)) rfl passF (ar_v (d_var 0 rfl (by first | exact Or.inl rfl | exact Or.inr (Or.inl rfl) | exact Or.inr (Or.inr rfl))) (ar_v (d_var 5 rfl (by first | exact Or.inl rfl | exact Or.inr (Or.inl rfl) | exact Or.inr (Or.inr rfl))) (ar_v (d_var 2 rfl (by first | exact Or.inl rfl | exact Or.inr (Or.inl rfl) | exact Or.inr (Or.inr rfl))) ar_nil rfl) rfl) rfl) rfl rfl rfl) (g_tup rfl (gs_cons (g_name 2 sc__law_done.nd rfl (by first | exact Or.inl rfl | exact Or.inr rfl) (by first | exact Or.inl rfl | exact Or.inr rfl)) (gs_cons (g_name 7 sc__law_done.nd rfl (by first | exact Or.inl rfl | exact Or.inr rfl) (by first | exact Or.inl rfl | exact Or.inr rfl)) gs_nil rfl) rfl) rfl rfl) rfl rfl rfl) (ss_one (s_if (b_val (d_var 7 rfl (by first | exact Or.inl rfl | exact Or.inr (Or.inl rfl) | exact Or.inr (Or.inr rfl))) (by intro _; rfl)) (ss_one (s_ret (d_tup (ad_cons (d_var 2 rfl (by first | exact Or.inl rfl | exact Or.inr (Or.inl rfl) | exact Or.inr (Or.inr rfl))) (ad_cons (d_var 3 rfl (by first | exact Or.inl rfl | exact Or.inr (Or.inl rfl) | exact Or.inr (Or.inr rfl))) (ad_cons (d_var 4 rfl (by first | exact Or.inl rfl | exact Or.inr (Or.inl rfl) | exact Or.inr (Or.inr rfl))) ad_nil rfl) rfl) rfl)))) ss_nil))))) (by intro _; rfl)) (ss_one (s_ret (d_tup (ad_cons (d_var 2 rfl (by first | exact Or.inl rfl | exact Or.inr (Or.inl rfl) | exact Or.inr (Or.inr rfl))) (ad_cons (d_var 3 rfl (by first | exact Or.inl rfl | exact Or.inr (Or.inl rfl) | exact Or.inr (Or.inr rfl))) (ad_cons (d_un un_neg rd_neg d_int) ad_nil rfl) rfl) rfl)))))
theorem F__law_effect (T : Txt K mg) : FnD P w K mg base 5 "_law_effect" 4 m__law_effect := fnD (k := 4) T.d__law_effect sc__law_effect rfl rfl fun f cdv A outer s H E hr => (ss_cons (s_parNewT 4 5 rfl sc__law_effect.nd rfl rfl (by first | exact Or.inl rfl | exact Or.inr rfl) (by first | exact Or.inl rfl | exact Or.inr rfl) (by first | exact Or.inl rfl | exact Or.inr rfl) (by first | exact Or.inl rfl | exact Or.inr rfl) f_dnew (d_tupRg rfl T.z_tuple rfl T.z_range (d_var 0 rfl (by first | exact Or.inl rfl | exact Or.inr (Or.inl rfl) | exact Or.inr (Or.inr rfl))) rfl rfl) rfl rfl rfl rfl rfl rfl rfl rfl rfl) (ss_cons (s_for ownF rfl (i_seq (d_var 2 rfl (by first | exact Or.inl rfl | exact Or.inr (Or.inl rfl) | exact Or.inr (Or.inr rfl)))) (g_name 6 sc__law_effect.nd rfl (by first | exact Or.inl rfl | exact Or.inr rfl) (by first | exact Or.inl rfl | exact Or.inr rfl)) (ss_one (s_setK 4 hr.units rfl (by first | exact Or.inl rfl | exact Or.inr (Or.inl rfl) | exact Or.inr (Or.inr rfl)) (d_var 6 rfl (by first | exact Or.inl rfl | exact Or.inr (Or.inl rfl) | exact Or.inr (Or.inr rfl))) (d_var 6 rfl (by first | exact Or.inl rfl | exact Or.inr (Or.inl rfl) | exact Or.inr (Or.inr rfl))) (by intro _; rfl) rfl rfl rfl)) (by intro _; rfl)) (ss_thaw 4 (ss_cons (s_for ownF rfl (i_seq (d_var 3 rfl (by first | exact Or.inl rfl | exact Or.inr (Or.inl rfl) | exact Or.inr (Or.inr rfl)))) (g_name 7 sc__law_effect.nd rfl (by first | exact Or.inl rfl | exact Or.inr rfl) (by first | exact Or.inl rfl | exact Or.inr rfl)) (ss_one (s_asg (d_call (F__law_done T) (hr.mono (by decide)) rfl passF (ar_v (d_var 0 rfl (by first | exact Or.inl rfl | exact Or.inr (Or.inl rfl) | exact Or.inr (Or.inr rfl))) (ar_v (d_sl (d_var 1 rfl (by first | exact Or.inl rfl | exact Or.inr (Or.inl rfl) | exact Or.inr (Or.inr rfl))) od_none (od_some (d_var 7 rfl (by first | exact Or.inl rfl | exact Or.inr (Or.inl rfl) | exact Or.inr (Or.inr rfl))))) (ar_v (d_var 4 rfl (by first | exact Or.inl rfl | exact Or.inr (Or.inl rfl) | exact Or.inr (Or.inr rfl))) (ar_v (d_var 5 rfl (by first | exact Or.inl rfl | exact Or.inr (Or.inl rfl) | exact Or.inr (Or.inr rfl))) ar_nil rfl) rfl) rfl) rfl) rfl rfl rfl) (g_tup rfl (gs_cons (g_name 4 sc__law_effect.nd rfl (by first | exact Or.inl rfl | exact Or.inr rfl) (by first | exact Or.inl rfl | exact Or.inr rfl)) (gs_cons (g_name 5 sc__law_effect.nd rfl (by first | exact Or.inl rfl | exact Or.inr rfl) (by first | exact Or.inl rfl | exact Or.inr rfl)) (gs_cons (g_name 8 sc__law_effect.nd rfl (by first | exact Or.inl rfl | exact Or.inr rfl) (by first | exact Or.inl rfl | exact Or.inr rfl)) gs_nil rfl) rfl) rfl) rfl rfl) rfl rfl rfl)) (by intro _; rfl)) (ss_cons (s_asg (d_call (F__law_done T) (hr.mono (by decide)) rfl passF (ar_v (d_var 0 rfl (by first | exact Or.inl rfl | exact Or.inr (Or.inl rfl) | exact Or.inr (Or.inr rfl))) (ar_v (d_var 1 rfl (by first | exact Or.inl rfl | exact Or.inr (Or.inl rfl) | exact Or.inr (Or.inr rfl))) (ar_v (d_var 4 rfl (by first | exact Or.inl rfl | exact Or.inr (Or.inl rfl) | exact Or.inr (Or.inr rfl))) (ar_v (d_var 5 rfl (by first | exact Or.inl rfl | exact Or.inr (Or.inl rfl) | exact Or.inr (Or.inr rfl))) ar_nil rfl) rfl) rfl) rfl) rfl rfl rfl) (g_tup rfl (gs_cons (g_name 4 sc__law_effect.nd rfl (by first | exact Or.inl rfl | exact Or.inr rfl) (by first | exact Or.inl rfl | exact Or.inr rfl)) (gs_cons (g_name 5 sc__law_effect.nd rfl (by first | exact Or.inl rfl | exact Or.inr rfl) (by first | exact Or.inl rfl | exact Or.inr rfl)) (gs_cons (g_name 8 sc__law_effect.nd rfl (by first | exact Or.inl rfl | exact Or.inr rfl) (by first | exact Or.inl rfl | exact Or.inr rfl)) gs_nil rfl) rfl) rfl) rfl rfl) rfl rfl rfl) (ss_one (s_ret (d_tup (ad_cons (d_callTy call_tupX rdc_tup rfl T.z_tuple bb_tuple (ad_cons (PF.pd (f_lc [("_law_number", 6)] rfl sc__law_effect.nd (i_seq (d_var 2 rfl (by first | exact Or.inl rfl | exact Or.inr (Or.inl rfl) | exact Or.inr (Or.inr rfl)))) (by kernel_rfl) (fun _ _ _ _ _ => (g_name 6 sc__law_effect.nd rfl (by first | exact Or.inl rfl | exact Or.inr rfl) (by first | exact Or.inl rfl | exact Or.inr rfl))) (by decide) (fun _ _ _ _ _ => ts_nil) (fun _ _ _ _ _ => (d_ix hr.units (d_var 4 rfl (by first | exact Or.inl rfl | exact Or.inr (Or.inl rfl) | exact Or.inr (Or.inr rfl))) (d_var 6 rfl (by first | exact Or.inl rfl | exact Or.inr (Or.inl rfl) | exact Or.inr (Or.inr rfl))) (fun _ _ => rfl))) (by intro _; rfl))) ad_nil rfl) rfl rfl) (ad_cons (d_var 5 rfl (by first | exact Or.inl rfl | exact Or.inr (Or.inl rfl) | exact Or.inr (Or.inr rfl))) (ad_cons (d_var 8 rfl (by first | exact Or.inl rfl | exact Or.inr (Or.inl rfl) | exact Or.inr (Or.inr rfl))) ad_nil rfl) rfl) rfl)))))))))
theorem F__law_errors (T : Txt K mg) : FnD P w K mg base 1 "_law_errors" 2 m__law_errors := fnD (k := 0) T.d__law_errors sc__law_errors rfl rfl fun f cdv A outer s H E hr => (ss_cons (s_asg (d_var 1 rfl (by first | exact Or.inl rfl | exact Or.inr (Or.inl rfl) | exact Or.inr (Or.inr rfl))) (g_tup rfl (gs_cons (g_name 2 sc__law_errors.nd rfl (by first | exact Or.inl rfl | exact Or.inr rfl) (by first | exact Or.inl rfl | exact Or.inr rfl)) (gs_cons (g_name 3 sc__law_errors.nd rfl (by first | exact Or.inl rfl | exact Or.inr rfl) (by first | exact Or.inl rfl | exact Or.inr rfl)) (gs_cons (g_name 4 sc__law_errors.nd rfl (by first | exact Or.inl rfl | exact Or.inr rfl) (by first | exact Or.inl rfl | exact Or.inr rfl)) gs_nil rfl) rfl) rfl) rfl rfl) rfl rfl rfl) (ss_cons (s_new 5 sc__law_errors.nd rfl (by first | exact Or.inl rfl | exact Or.inr rfl) (by first | exact Or.inl rfl | exact Or.inr rfl) (f_lst ad_nil) rfl) (ss_cons (s_for ownF rfl (i_enumA rfl T.z_enumerate (ad_cons (d_var 3 rfl (by first | exact Or.inl rfl | exact Or.inr (Or.inl rfl) | exact Or.inr (Or.inr rfl))) ad_nil rfl) rfl) (g_tup rfl (gs_cons (g_name 6 sc__law_errors.nd rfl (by first | exact Or.inl rfl | exact Or.inr rfl) (by first | exact Or.inl rfl | exact Or.inr rfl)) (gs_cons (g_name 7 sc__law_errors.nd rfl (by first | exact Or.inl rfl | exact Or.inr rfl) (by first | exact Or.inl rfl | exact Or.inr rfl)) gs_nil rfl) rfl) rfl rfl) (ss_cons (s_lcSet 8 [("_law_old", 9), ("_law_new", 10)] rfl sc__law_errors.nd rfl rfl rfl (i_zip rfl T.z_zip (ad_cons (d_var 0 rfl (by first | exact Or.inl rfl | exact Or.inr (Or.inl rfl) | exact Or.inr (Or.inr rfl))) (ad_cons (d_var 2 rfl (by first | exact Or.inl rfl | exact Or.inr (Or.inl rfl) | exact Or.inr (Or.inr rfl))) ad_nil rfl) rfl) rfl rfl) (by kernel_rfl) (fun _ _ _ _ _ => (g_tup rfl (gs_cons (g_name 9 sc__law_errors.nd rfl (by first | exact Or.inl rfl | exact Or.inr rfl) (by first | exact Or.inl rfl | exact Or.inr rfl)) (gs_cons (g_name 10 sc__law_errors.nd rfl (by first | exact Or.inl rfl | exact Or.inr rfl) (by first | exact Or.inl rfl | exact Or.inr rfl)) gs_nil rfl) rfl) rfl rfl)) (by decide) (fun _ _ _ _ _ => (ts_one (b_cmp (op_eqD hr.units) rd_eq (d_var 9 rfl (by first | exact Or.inl rfl | exact Or.inr (Or.inl rfl) | exact Or.inr (Or.inr rfl))) (d_var 6 rfl (by first | exact Or.inl rfl | exact Or.inr (Or.inl rfl) | exact Or.inr (Or.inr rfl))) (nomark _)))) (fun _ _ _ _ _ => (d_var 10 rfl (by first | exact Or.inl rfl | exact Or.inr (Or.inl rfl) | exact Or.inr (Or.inr rfl)))) (by intro _; rfl)) (ss_cons (s_if (PBW.pb (b_and (b_cmp (op_neD hr.units) rd_ne (d_var 8 rfl (by first | exact Or.inl rfl | exact Or.inr (Or.inl rfl) | exact Or.inr (Or.inr rfl))) (PF.pd (f_lst ad_nil)) (nomark _)) (b_and1 (b_cmp (op_neD hr.units) rd_ne (d_var 8 rfl (by first | exact Or.inl rfl | exact Or.inr (Or.inl rfl) | exact Or.inr (Or.inr rfl))) (PF.pd (f_lst (ad_cons (d_var 7 rfl (by first | exact Or.inl rfl | exact Or.inr (Or.inl rfl) | exact Or.inr (Or.inr rfl))) ad_nil rfl))) (nomark _))))) (ss_one (s_appO 5 rfl (by first | exact Or.inl rfl | exact Or.inr (Or.inl rfl) | exact Or.inr (Or.inr rfl)) (d_tup (ad_cons d_str (ad_cons (d_var 6 rfl (by first | exact Or.inl rfl | exact Or.inr (Or.inl rfl) | exact Or.inr (Or.inr rfl))) ad_nil rfl) rfl)) rfl rfl rfl rfl rfl rfl)) ss_nil) (ss_one (s_if (PBW.pb (b_and (b_cmp (op_eqD hr.units) rd_eq (d_var 8 rfl (by first | exact Or.inl rfl | exact Or.inr (Or.inl rfl) | exact Or.inr (Or.inr rfl))) (PF.pd (f_lst ad_nil)) (nomark _)) (b_and1 (b_cmp op_in_seq rd_in (d_var 7 rfl (by first | exact Or.inl rfl | exact Or.inr (Or.inl rfl) | exact Or.inr (Or.inr rfl))) (d_var 2 rfl (by first | exact Or.inl rfl | exact Or.inr (Or.inl rfl) | exact Or.inr (Or.inr rfl))) (by with_unfolding_all rfl))))) (ss_one (s_appO 5 rfl (by first | exact Or.inl rfl | exact Or.inr (Or.inl rfl) | exact Or.inr (Or.inr rfl)) (d_tup (ad_cons d_str (ad_cons (d_var 6 rfl (by first | exact Or.inl rfl | exact Or.inr (Or.inl rfl) | exact Or.inr (Or.inr rfl))) ad_nil rfl) rfl)) rfl rfl rfl rfl rfl rfl)) ss_nil)))) (by intro _; rfl)) (ss_thaw 5 (ss_one (s_ret (d_op op_addA rd_add (PF.pd (f_callB (cr_sortA hr.units) rdc_sort rfl T.z_sorted bb_sorted (ad_cons (d_var 5 rfl (by first | exact Or.inl rfl | exact Or.inr (Or.inl rfl) | exact Or.inr (Or.inr rfl))) ad_nil rfl) rfl rfl)) (d_op op_mulA rd_mul (PF.pd (f_lst (ad_cons (d_tup (ad_cons d_str (ad_cons (d_var 4 rfl (by first | exact Or.inl rfl | exact Or.inr (Or.inl rfl) | exact Or.inr (Or.inr rfl))) ad_nil rfl) rfl)) ad_nil rfl))) (d_callTy call_int1 rdc_int rfl T.z_int bb_int (ad_cons (d_cmp op_gt rd_gt (d_var 4 rfl (by first | exact Or.inl rfl | exact Or.inr (Or.inl rfl) | exact Or.inr (Or.inr rfl))) (d_un un_neg rd_neg d_int) (nomark _)) ad_nil rfl) rfl rfl)))))))))
theorem F__law_moves (T : Txt K mg) : FnD P w K mg base 2 "_law_moves" 2 m__law_moves := fnD (k := 1) T.d__law_moves sc__law_moves rfl rfl fun f cdv A outer s H E hr => (ss_cons (s_parNN 2 3 rfl sc__law_moves.nd rfl rfl (by decide) rfl rfl (f_lstRg rfl T.z_list rfl T.z_range (d_var 1 rfl (by first | exact Or.inl rfl | exact Or.inr (Or.inl rfl) | exact Or.inr (Or.inr rfl))) rfl rfl) (f_lst ad_nil) rfl rfl rfl rfl) (ss_cons (s_for ownF rfl (i_rng1 rfl T.z_range (ad_cons (d_var 1 rfl (by first | exact Or.inl rfl | exact Or.inr (Or.inl rfl) | exact Or.inr (Or.inr rfl))) ad_nil rfl) rfl) (g_name 4 sc__law_moves.nd rfl (by first | exact Or.inl rfl | exact Or.inr rfl) (by first | exact Or.inl rfl | exact Or.inr rfl)) (ss_one (s_if (b_cmp op_gt rd_gt (d_call (F__law_take T) (hr.mono (by decide)) rfl passF (ar_s 0 rfl (by first | exact Or.inl rfl | exact Or.inr (Or.inl rfl) | exact Or.inr (Or.inr rfl)) (ar_v d_int ar_nil rfl) rfl) rfl rfl rfl) d_int (nomark _)) (ss_one (s_appO 3 rfl (by first | exact Or.inl rfl | exact Or.inr (Or.inl rfl) | exact Or.inr (Or.inr rfl)) (d_tup (ad_cons (d_var 4 rfl (by first | exact Or.inl rfl | exact Or.inr (Or.inl rfl) | exact Or.inr (Or.inr rfl))) (ad_cons (d_popO 2 rfl (by first | exact Or.inl rfl | exact Or.inr (Or.inl rfl) | exact Or.inr (Or.inr rfl)) (d_call (F__law_take T) (hr.mono (by decide)) rfl passF (ar_s 0 rfl (by first | exact Or.inl rfl | exact Or.inr (Or.inl rfl) | exact Or.inr (Or.inr rfl)) (ar_v (d_lenO 2 rfl (by first | exact Or.inl rfl | exact Or.inr (Or.inl rfl) | exact Or.inr (Or.inr rfl)) rfl T.z_len bb_len rfl rfl) ar_nil rfl) rfl) rfl rfl rfl) rfl rfl rfl rfl rfl) ad_nil rfl) rfl)) rfl rfl rfl rfl rfl rfl)) ss_nil)) (by intro _; rfl)) (ss_thaw 2 (ss_thaw 3 (ss_one (s_ret (d_callTy call_tupX rdc_tup rfl T.z_tuple bb_tuple (ad_cons (d_var 3 rfl (by first | exact Or.inl rfl | exact Or.inr (Or.inl rfl) | exact Or.inr (Or.inr rfl))) ad_nil rfl) rfl rfl)))))))
theorem F__law_does (T : Txt K mg) : FnD P w K mg base 6 "_law_does" 3 m__law_does := fnD (k := 5) T.d__law_does sc__law_does rfl rfl fun f cdv A outer s H E hr => (ss_cons (s_asg (d_call (F__law_effect T) (hr.mono (by decide)) rfl passF (ar_v (d_var 0 rfl (by first | exact Or.inl rfl | exact Or.inr (Or.inl rfl) | exact Or.inr (Or.inr rfl))) (ar_v (d_var 1 rfl (by first | exact Or.inl rfl | exact Or.inr (Or.inl rfl) | exact Or.inr (Or.inr rfl))) (ar_v (d_callTy call_tupX rdc_tup rfl T.z_tuple bb_tuple (ad_cons (PF.pd (f_lc [("_law_old", 6), ("_law_new", 7)] rfl sc__law_does.nd (i_seq (d_var 2 rfl (by first | exact Or.inl rfl | exact Or.inr (Or.inl rfl) | exact Or.inr (Or.inr rfl)))) (by kernel_rfl) (fun _ _ _ _ _ => (g_tup rfl (gs_cons (g_name 6 sc__law_does.nd rfl (by first | exact Or.inl rfl | exact Or.inr rfl) (by first | exact Or.inl rfl | exact Or.inr rfl)) (gs_cons (g_name 7 sc__law_does.nd rfl (by first | exact Or.inl rfl | exact Or.inr rfl) (by first | exact Or.inl rfl | exact Or.inr rfl)) gs_nil rfl) rfl) rfl rfl)) (by decide) (fun _ _ _ _ _ => ts_nil) (fun _ _ _ _ _ => (d_var 6 rfl (by first | exact Or.inl rfl | exact Or.inr (Or.inl rfl) | exact Or.inr (Or.inr rfl)))) (by intro _; rfl))) ad_nil rfl) rfl rfl) (ar_v (d_tup ad_nil) ar_nil rfl) rfl) rfl) rfl) rfl rfl rfl) (g_tup rfl (gs_cons (g_name 3 sc__law_does.nd rfl (by first | exact Or.inl rfl | exact Or.inr rfl) (by first | exact Or.inl rfl | exact Or.inr rfl)) (gs_cons (g_name 4 sc__law_does.nd rfl (by first | exact Or.inl rfl | exact Or.inr rfl) (by first | exact Or.inl rfl | exact Or.inr rfl)) (gs_cons (g_name 5 sc__law_does.nd rfl (by first | exact Or.inl rfl | exact Or.inr rfl) (by first | exact Or.inl rfl | exact Or.inr rfl)) gs_nil rfl) rfl) rfl) rfl rfl) rfl rfl rfl) (ss_cons (s_if (PBW.pb (b_or (b_cmp (op_neD hr.units) rd_ne (d_var 5 rfl (by first | exact Or.inl rfl | exact Or.inr (Or.inl rfl) | exact Or.inr (Or.inr rfl))) (d_un un_neg rd_neg d_int) (nomark _)) (b_or1 (b_cmp (op_neD hr.units) rd_ne (PF.pd (f_callTy call_list_of rdc_lst rfl T.z_list bb_list (ad_cons (d_var 3 rfl (by first | exact Or.inl rfl | exact Or.inr (Or.inl rfl) | exact Or.inr (Or.inr rfl))) ad_nil rfl) rfl rfl)) (PF.pd (f_lc [("_law_old", 6), ("_law_new", 7)] rfl sc__law_does.nd (i_seq (d_var 2 rfl (by first | exact Or.inl rfl | exact Or.inr (Or.inl rfl) | exact Or.inr (Or.inr rfl)))) (by kernel_rfl) (fun _ _ _ _ _ => (g_tup rfl (gs_cons (g_name 6 sc__law_does.nd rfl (by first | exact Or.inl rfl | exact Or.inr rfl) (by first | exact Or.inl rfl | exact Or.inr rfl)) (gs_cons (g_name 7 sc__law_does.nd rfl (by first | exact Or.inl rfl | exact Or.inr rfl) (by first | exact Or.inl rfl | exact Or.inr rfl)) gs_nil rfl) rfl) rfl rfl)) (by decide) (fun _ _ _ _ _ => ts_nil) (fun _ _ _ _ _ => (d_var 7 rfl (by first | exact Or.inl rfl | exact Or.inr (Or.inl rfl) | exact Or.inr (Or.inr rfl)))) (by intro _; rfl))) (nomark _))))) (ss_one (s_ret d_bl)) ss_nil) (ss_one (s_ret (d_cmp (op_eqD hr.units) rd_eq (PF.pd (f_lc [("_law_old", 6), ("_law_new", 7)] rfl sc__law_does.nd (i_seq (d_var 2 rfl (by first | exact Or.inl rfl | exact Or.inr (Or.inl rfl) | exact Or.inr (Or.inr rfl)))) (by kernel_rfl) (fun _ _ _ _ _ => (g_tup rfl (gs_cons (g_name 6 sc__law_does.nd rfl (by first | exact Or.inl rfl | exact Or.inr rfl) (by first | exact Or.inl rfl | exact Or.inr rfl)) (gs_cons (g_name 7 sc__law_does.nd rfl (by first | exact Or.inl rfl | exact Or.inr rfl) (by first | exact Or.inl rfl | exact Or.inr rfl)) gs_nil rfl) rfl) rfl rfl)) (by decide) (fun _ _ _ _ _ => (ts_one (b_cmp (op_neD hr.units) rd_ne (d_ix hr.units (d_var 4 rfl (by first | exact Or.inl rfl | exact Or.inr (Or.inl rfl) | exact Or.inr (Or.inr rfl))) (d_var 6 rfl (by first | exact Or.inl rfl | exact Or.inr (Or.inl rfl) | exact Or.inr (Or.inr rfl))) (fun _ _ => rfl)) (d_var 7 rfl (by first | exact Or.inl rfl | exact Or.inr (Or.inl rfl) | exact Or.inr (Or.inr rfl))) (nomark _)))) (fun _ _ _ _ _ => (d_var 6 rfl (by first | exact Or.inl rfl | exact Or.inr (Or.inl rfl) | exact Or.inr (Or.inr rfl)))) (by intro _; rfl))) (PF.pd (f_lst ad_nil)) (nomark _))))))
end
section
variable {P : Program} {w : World} {K : PySem.W.Frag} {mg : Str → Option Value} {base : Heap} {fa : Addr} {fd : FuncData} {cdv : Value} {A : Around} {outer : List Env} {s : Shared} {H : Hp} {E : XK}
theorem hit_law (T : Txt K mg) (hr : Room 9 (A.deeper (PyProof.Rows.envOfC "law" (defScope s_law) s.heap.objs.size fa cdv))) : PD (cxOf (L2.CX P w) P w K mg base ["_law_script_here", "_law_bag", "_law_bound", "_law_moves_here", "_law_plan", "_law_some", "_law_both", "_law_each", "_law_other"] "law" (defScope s_law) fa cdv A outer s H E) E (forIter s_law) fit_law := (d_call (F__law_bags T) (hr.mono (by decide)) rfl passF (ar_v (d_var 0 rfl (by first | exact Or.inl rfl | exact Or.inr (Or.inl rfl) | exact Or.inr (Or.inr rfl))) (ar_v d_int ar_nil rfl) rfl) rfl rfl rfl)
theorem hbd_law (T : Txt K mg) (hr : Room 9 (A.deeper (PyProof.Rows.envOfC "law" (defScope s_law) s.heap.objs.size fa cdv))) : PSsD (cxOf (L2.CX P w) P w K mg base ["_law_script_here", "_law_bag", "_law_bound", "_law_moves_here", "_law_plan", "_law_some", "_law_both", "_law_each", "_law_other"] "law" (defScope s_law) fa cdv A outer s H E) E (forBody s_law) b_law := (ss_cons (s_set 2 sc_law.nd rfl (by first | exact Or.inl rfl | exact Or.inr rfl) (by first | exact Or.inl rfl | exact Or.inr rfl) (d_op op_addA rd_add d_int (d_call (F__law_take T) (hr.mono (by decide)) rfl passF (ar_s 1 rfl (by first | exact Or.inl rfl | exact Or.inr (Or.inl rfl) | exact Or.inr (Or.inr rfl)) (ar_v d_int ar_nil rfl) rfl) rfl rfl rfl)) rfl) (ss_cons (s_set 3 sc_law.nd rfl (by first | exact Or.inl rfl | exact Or.inr rfl) (by first | exact Or.inl rfl | exact Or.inr rfl) (d_call (F__law_moves T) (hr.mono (by decide)) rfl passF (ar_s 1 rfl (by first | exact Or.inl rfl | exact Or.inr (Or.inl rfl) | exact Or.inr (Or.inr rfl)) (ar_v (d_var 2 rfl (by first | exact Or.inl rfl | exact Or.inr (Or.inl rfl) | exact Or.inr (Or.inr rfl))) ar_nil rfl) rfl) rfl rfl rfl) rfl) (ss_cons (s_set 4 sc_law.nd rfl (by first | exact Or.inl rfl | exact Or.inr rfl) (by first | exact Or.inl rfl | exact Or.inr rfl) (d_call (F_script_for T) (hr.mono (by decide)) rfl passF (ar_v (d_var 2 rfl (by first | exact Or.inl rfl | exact Or.inr (Or.inl rfl) | exact Or.inr (Or.inr rfl))) (ar_v (d_var 3 rfl (by first | exact Or.inl rfl | exact Or.inr (Or.inl rfl) | exact Or.inr (Or.inr rfl))) ar_nil rfl) rfl) rfl rfl rfl) rfl) (ss_cons (s_if (PBW.pb (b_or (b_cmp op_isNotA rd_isNot (d_call (F_is_script T) (hr.mono (by decide)) rfl passF (ar_v (d_var 2 rfl (by first | exact Or.inl rfl | exact Or.inr (Or.inl rfl) | exact Or.inr (Or.inr rfl))) (ar_v (d_var 4 rfl (by first | exact Or.inl rfl | exact Or.inr (Or.inl rfl) | exact Or.inr (Or.inr rfl))) ar_nil rfl) rfl) rfl rfl rfl) d_bl (nomark _)) (b_or (b_cmp (op_neD hr.units) rd_ne (d_callB call_len2 rdc_len rfl T.z_len bb_len (ad_cons (d_var 4 rfl (by first | exact Or.inl rfl | exact Or.inr (Or.inl rfl) | exact Or.inr (Or.inr rfl))) ad_nil rfl) rfl rfl) d_int (nomark _)) (b_or1 (b_not (b_val (d_call (F__law_does T) (hr.mono (by decide)) rfl passF (ar_v (d_var 2 rfl (by first | exact Or.inl rfl | exact Or.inr (Or.inl rfl) | exact Or.inr (Or.inr rfl))) (ar_v (d_var 4 rfl (by first | exact Or.inl rfl | exact Or.inr (Or.inl rfl) | exact Or.inr (Or.inr rfl))) (ar_v (d_var 3 rfl (by first | exact Or.inl rfl | exact Or.inr (Or.inl rfl) | exact Or.inr (Or.inr rfl))) ar_nil rfl) rfl) rfl) rfl rfl rfl) (by intro _; rfl))))))) (ss_one (s_ret d_bl)) ss_nil) (ss_cons (s_for ownF rfl (i_seq (d_call (F__law_all_contents T) (hr.mono (by decide)) rfl passF (ar_v (d_var 2 rfl (by first | exact Or.inl rfl | exact Or.inr (Or.inl rfl) | exact Or.inr (Or.inr rfl))) ar_nil rfl) rfl rfl rfl)) (g_name 5 sc_law.nd rfl (by first | exact Or.inl rfl | exact Or.inr rfl) (by first | exact Or.inl rfl | exact Or.inr rfl)) (ss_one (s_if (b_cmp (op_neD hr.units) rd_ne (d_call (F__law_errors T) (hr.mono (by decide)) rfl passF (ar_v (d_var 5 rfl (by first | exact Or.inl rfl | exact Or.inr (Or.inl rfl) | exact Or.inr (Or.inr rfl))) (ar_v (d_call (F__law_effect T) (hr.mono (by decide)) rfl passF (ar_v (d_var 2 rfl (by first | exact Or.inl rfl | exact Or.inr (Or.inl rfl) | exact Or.inr (Or.inr rfl))) (ar_v (d_var 4 rfl (by first | exact Or.inl rfl | exact Or.inr (Or.inl rfl) | exact Or.inr (Or.inr rfl))) (ar_v (d_var 5 rfl (by first | exact Or.inl rfl | exact Or.inr (Or.inl rfl) | exact Or.inr (Or.inr rfl))) (ar_v (d_tup ad_nil) ar_nil rfl) rfl) rfl) rfl) rfl rfl rfl) ar_nil rfl) rfl) rfl rfl rfl) (PF.pd (f_lst ad_nil)) (nomark _)) (ss_one (s_ret d_bl)) ss_nil)) (by intro _; rfl)) (ss_cons (s_set 6 sc_law.nd rfl (by first | exact Or.inl rfl | exact Or.inr rfl) (by first | exact Or.inl rfl | exact Or.inr rfl) (d_if (b_cmp (op_neD hr.units) rd_ne (d_var 3 rfl (by first | exact Or.inl rfl | exact Or.inr (Or.inl rfl) | exact Or.inr (Or.inr rfl))) (d_tup ad_nil) (nomark _)) (d_tup (ad_cons (d_tup (ad_cons d_str (ad_cons d_str (ad_cons (d_var 3 rfl (by first | exact Or.inl rfl | exact Or.inr (Or.inl rfl) | exact Or.inr (Or.inr rfl))) ad_nil rfl) rfl) rfl)) (ad_cons (d_tup (ad_cons d_str (ad_cons d_str (ad_cons (d_var 3 rfl (by first | exact Or.inl rfl | exact Or.inr (Or.inl rfl) | exact Or.inr (Or.inr rfl))) ad_nil rfl) rfl) rfl)) ad_nil rfl) rfl)) (d_tup ad_nil)) rfl) (ss_cons (s_set 7 sc_law.nd rfl (by first | exact Or.inl rfl | exact Or.inr rfl) (by first | exact Or.inl rfl | exact Or.inr rfl) (d_if (b_cmp (op_neD hr.units) rd_ne (d_var 3 rfl (by first | exact Or.inl rfl | exact Or.inr (Or.inl rfl) | exact Or.inr (Or.inr rfl))) (d_tup ad_nil) (nomark _)) (d_tup (ad_cons (d_tup (ad_cons d_str (ad_cons d_str (ad_cons (d_rev (d_var 3 rfl (by first | exact Or.inl rfl | exact Or.inr (Or.inl rfl) | exact Or.inr (Or.inr rfl)))) ad_nil rfl) rfl) rfl)) (ad_cons (d_tup (ad_cons d_str (ad_cons d_str (ad_cons (d_rev (d_var 3 rfl (by first | exact Or.inl rfl | exact Or.inr (Or.inl rfl) | exact Or.inr (Or.inr rfl)))) ad_nil rfl) rfl) rfl)) ad_nil rfl) rfl)) (d_tup ad_nil)) rfl) (ss_one (s_for ownF rfl (i_lst (PF.pd (f_lst (ad_cons (d_var 4 rfl (by first | exact Or.inl rfl | exact Or.inr (Or.inl rfl) | exact Or.inr (Or.inr rfl))) (ad_cons (d_sl (d_var 4 rfl (by first | exact Or.inl rfl | exact Or.inr (Or.inl rfl) | exact Or.inr (Or.inr rfl))) od_none (od_some d_int)) (ad_cons (d_rev (d_var 4 rfl (by first | exact Or.inl rfl | exact Or.inr (Or.inl rfl) | exact Or.inr (Or.inr rfl)))) (ad_cons (d_var 6 rfl (by first | exact Or.inl rfl | exact Or.inr (Or.inl rfl) | exact Or.inr (Or.inr rfl))) (ad_cons (d_sl (d_var 6 rfl (by first | exact Or.inl rfl | exact Or.inr (Or.inl rfl) | exact Or.inr (Or.inr rfl))) (od_some d_int) od_none) (ad_cons (d_var 7 rfl (by first | exact Or.inl rfl | exact Or.inr (Or.inl rfl) | exact Or.inr (Or.inr rfl))) (ad_cons (d_call (F__law_script T) (hr.mono (by decide)) rfl passF (ar_s 1 rfl (by first | exact Or.inl rfl | exact Or.inr (Or.inl rfl) | exact Or.inr (Or.inr rfl)) (ar_v (d_var 2 rfl (by first | exact Or.inl rfl | exact Or.inr (Or.inl rfl) | exact Or.inr (Or.inr rfl))) (ar_v d_int ar_nil rfl) rfl) rfl) rfl rfl rfl) ad_nil rfl) rfl) rfl) rfl) rfl) rfl) rfl)))) (g_name 8 sc_law.nd rfl (by first | exact Or.inl rfl | exact Or.inr rfl) (by first | exact Or.inl rfl | exact Or.inr rfl)) (ss_one (s_if (b_not (b_val (d_call (F__law_same T) (hr.mono (by decide)) rfl passF (ar_v (d_call (F_does T) (hr.mono (by decide)) rfl passF (ar_v (d_var 2 rfl (by first | exact Or.inl rfl | exact Or.inr (Or.inl rfl) | exact Or.inr (Or.inr rfl))) (ar_v (d_var 8 rfl (by first | exact Or.inl rfl | exact Or.inr (Or.inl rfl) | exact Or.inr (Or.inr rfl))) (ar_v (d_var 3 rfl (by first | exact Or.inl rfl | exact Or.inr (Or.inl rfl) | exact Or.inr (Or.inr rfl))) ar_nil rfl) rfl) rfl) rfl rfl rfl) (ar_v (d_call (F__law_does T) (hr.mono (by decide)) rfl passF (ar_v (d_var 2 rfl (by first | exact Or.inl rfl | exact Or.inr (Or.inl rfl) | exact Or.inr (Or.inr rfl))) (ar_v (d_var 8 rfl (by first | exact Or.inl rfl | exact Or.inr (Or.inl rfl) | exact Or.inr (Or.inr rfl))) (ar_v (d_var 3 rfl (by first | exact Or.inl rfl | exact Or.inr (Or.inl rfl) | exact Or.inr (Or.inr rfl))) ar_nil rfl) rfl) rfl) rfl rfl rfl) ar_nil rfl) rfl) rfl rfl rfl) (by intro _; rfl))) (ss_one (s_ret d_bl)) ss_nil)) (by intro _; rfl))))))))))
theorem htl_law (T : Txt K mg) (hr : Room 9 (A.deeper (PyProof.Rows.envOfC "law" (defScope s_law) s.heap.objs.size fa cdv))) : PSsD (cxOf (L2.CX P w) P w K mg base ["_law_script_here", "_law_bag", "_law_bound", "_law_moves_here", "_law_plan", "_law_some", "_law_both", "_law_each", "_law_other"] "law" (defScope s_law) fa cdv A outer s H E) E (forTail s_law) g_law := (ss_one (s_ret d_bl))
theorem ok_law (F : Fun K "law" "law" s_law fa fd) (T : Txt K mg)
    (hfit : ∀ ns : List Int, ns.length ≤ 63 → ∃ ws : List Bag, (∃ ρ', fit_law (.v (.scr ns) :: List.replicate 8 .u) = .ok (.lst (ws.map Bag.d)) ρ') ∧ (∀ (i j : Nat) (w u : Bag), ws[i]? = some w → ws[j]? = some u → w.c = u.c → i = j) ∧ ∀ w ∈ ws, w.ok)
    (hbody : ∀ w : Bag, w.ok → ∃ ρ', b_law (bagRo w 7) = .ok .nx ρ') (htail : ∃ ρ', g_law (List.replicate 9 .u) = .ok (.ret (.bl true)) ρ') : FnOk P w K mg base (L2.CX P w) 10 fa fd ["_law_script_here"] (spLaw K) := by
  refine F.okX sc_law (fun vs H Q E h => ?_) (fun cdv A outer s H vs Q E hr h => ?_)
  · obtain ⟨a, ns, rfl, _⟩ := h
    rfl
  · obtain ⟨a, ns, rfl, hS, hn, hQ⟩ := h
    obtain ⟨ws, h1, h2, h3⟩ := hfit ns hn
    obtain ⟨t, t1, t2⟩ := (hit_law T hr).ex
    obtain ⟨tb, b1, b2⟩ := (hbd_law T hr).ex
    obtain ⟨tt, g1, g2⟩ := (htl_law T hr).ex
    exact ⟨_, pss_cons (ps_for ownF rfl (pi_list t1) (pg_name (i := 1) sc_law.nd rfl (by first | exact Or.inl rfl | exact Or.inr rfl) (by first | exact Or.inl rfl | exact Or.inr rfl)) b1 (by intro _; rfl)) g1, law_sem t2 b2 g2 rfl hS h1 h2 (fun w hw => hbody w (h3 w hw)) htail hQ⟩
end
end DL

/-! the end, printed by gen.py -/
namespace DL
open PySem L2
theorem all_mk {l : PySem.W.OpenLaw} {w : World} {K : PySem.W.Frag} {h : Heap} {mg : Str → Option Value} {fa : Addr} (X : K.In h) (G : h.Ns mainGlobals mg) (hfa : mg "law" = some (.ref fa))
    {t_MOST : Tok}
    {u_PLACES : Addr} {n_PLACES : Nat} {s_PLACES : Array (Option Value)} {t0_PLACES t1_PLACES : Tok}
    {u_WAYS : Addr} {n_WAYS : Nat} {s_WAYS : Array (Option Value)} {t0_WAYS t1_WAYS : Tok}
    {e_InvalidMoves : Addr}
    {e_InvalidScript : Addr}
    {e_InvalidSize : Addr}
    {f0 : Addr} {od0 an0 : Option Addr} {sl0 : Array (Option Value)} {oc0 kV0 dc0 pm0 cd0 ct0 : Value}
    {f1 : Addr} {od1 an1 : Option Addr} {sl1 : Array (Option Value)} {oc1 kV1 dc1 pm1 cd1 ct1 : Value}
    {f2 : Addr} {od2 an2 : Option Addr} {sl2 : Array (Option Value)} {oc2 kV2 dc2 pm2 cd2 ct2 : Value}
    {f3 : Addr} {od3 an3 : Option Addr} {sl3 : Array (Option Value)} {oc3 kV3 dc3 pm3 cd3 ct3 : Value}
    {f4 : Addr} {od4 an4 : Option Addr} {sl4 : Array (Option Value)} {oc4 kV4 dc4 pm4 cd4 ct4 : Value}
    {f5 : Addr} {od5 an5 : Option Addr} {sl5 : Array (Option Value)} {oc5 kV5 dc5 pm5 cd5 ct5 : Value}
    {f6 : Addr} {od6 an6 : Option Addr} {sl6 : Array (Option Value)} {oc6 kV6 dc6 pm6 cd6 ct6 : Value}
    {f7 : Addr} {od7 an7 : Option Addr} {sl7 : Array (Option Value)} {oc7 kV7 dc7 pm7 cd7 ct7 : Value}
    {f8 : Addr} {od8 an8 : Option Addr} {sl8 : Array (Option Value)} {oc8 kV8 dc8 pm8 cd8 ct8 : Value}
    {f9 : Addr} {od9 an9 : Option Addr} {sl9 : Array (Option Value)} {oc9 kV9 dc9 pm9 cd9 ct9 : Value}
    {f10 : Addr} {od10 an10 : Option Addr} {sl10 : Array (Option Value)} {oc10 kV10 dc10 pm10 cd10 ct10 : Value}
    {f11 : Addr} {od11 an11 : Option Addr} {sl11 : Array (Option Value)} {oc11 kV11 dc11 pm11 cd11 ct11 : Value}
    {f12 : Addr} {od12 an12 : Option Addr} {sl12 : Array (Option Value)} {oc12 kV12 dc12 pm12 cd12 ct12 : Value}
    {f13 : Addr} {od13 an13 : Option Addr} {sl13 : Array (Option Value)} {oc13 kV13 dc13 pm13 cd13 ct13 : Value}
    {f14 : Addr} {od14 an14 : Option Addr} {sl14 : Array (Option Value)} {oc14 kV14 dc14 pm14 cd14 ct14 : Value}
    {f15 : Addr} {od15 an15 : Option Addr} {sl15 : Array (Option Value)} {oc15 kV15 dc15 pm15 cd15 ct15 : Value}
    {f16 : Addr} {od16 an16 : Option Addr} {sl16 : Array (Option Value)} {oc16 kV16 dc16 pm16 cd16 ct16 : Value}
    {f17 : Addr} {od17 an17 : Option Addr} {sl17 : Array (Option Value)} {oc17 kV17 dc17 pm17 cd17 ct17 : Value}
    {f18 : Addr} {od18 an18 : Option Addr} {sl18 : Array (Option Value)} {oc18 kV18 dc18 pm18 cd18 ct18 : Value}
    {f19 : Addr} {od19 an19 : Option Addr} {sl19 : Array (Option Value)} {oc19 kV19 dc19 pm19 cd19 ct19 : Value}
    {f20 : Addr} {od20 an20 : Option Addr} {sl20 : Array (Option Value)} {oc20 kV20 dc20 pm20 cd20 ct20 : Value}
    {f21 : Addr} {od21 an21 : Option Addr} {sl21 : Array (Option Value)} {oc21 kV21 dc21 pm21 cd21 ct21 : Value}
    {f22 : Addr} {od22 an22 : Option Addr} {sl22 : Array (Option Value)} {oc22 kV22 dc22 pm22 cd22 ct22 : Value}
    {f23 : Addr} {od23 an23 : Option Addr} {sl23 : Array (Option Value)} {oc23 kV23 dc23 pm23 cd23 ct23 : Value}
    {f24 : Addr} {od24 an24 : Option Addr} {sl24 : Array (Option Value)} {oc24 kV24 dc24 pm24 cd24 ct24 : Value}
    {f25 : Addr} {od25 an25 : Option Addr} {sl25 : Array (Option Value)} {oc25 kV25 dc25 pm25 cd25 ct25 : Value}
    {f26 : Addr} {od26 an26 : Option Addr} {sl26 : Array (Option Value)} {oc26 kV26 dc26 pm26 cd26 ct26 : Value}
    {f27 : Addr} {od27 an27 : Option Addr} {sl27 : Array (Option Value)} {oc27 kV27 dc27 pm27 cd27 ct27 : Value}
    {f28 : Addr} {od28 an28 : Option Addr} {sl28 : Array (Option Value)} {oc28 kV28 dc28 pm28 cd28 ct28 : Value}
    {f29 : Addr} {od29 an29 : Option Addr} {sl29 : Array (Option Value)} {oc29 kV29 dc29 pm29 cd29 ct29 : Value}
    {f30 : Addr} {od30 an30 : Option Addr} {sl30 : Array (Option Value)} {oc30 kV30 dc30 pm30 cd30 ct30 : Value}
    {f31 : Addr} {od31 an31 : Option Addr} {sl31 : Array (Option Value)} {oc31 kV31 dc31 pm31 cd31 ct31 : Value}
    {f32 : Addr} {od32 an32 : Option Addr} {sl32 : Array (Option Value)} {oc32 kV32 dc32 pm32 cd32 ct32 : Value}
    {f33 : Addr} {od33 an33 : Option Addr} {sl33 : Array (Option Value)} {oc33 kV33 dc33 pm33 cd33 ct33 : Value}
    {f34 : Addr} {od34 an34 : Option Addr} {sl34 : Array (Option Value)} {oc34 kV34 dc34 pm34 cd34 ct34 : Value}
    {f35 : Addr} {od35 an35 : Option Addr} {sl35 : Array (Option Value)} {oc35 kV35 dc35 pm35 cd35 ct35 : Value}
    {f36 : Addr} {od36 an36 : Option Addr} {sl36 : Array (Option Value)} {oc36 kV36 dc36 pm36 cd36 ct36 : Value}
    {f37 : Addr} {od37 an37 : Option Addr} {sl37 : Array (Option Value)} {oc37 kV37 dc37 pm37 cd37 ct37 : Value}
    {f38 : Addr} {od38 an38 : Option Addr} {sl38 : Array (Option Value)} {oc38 kV38 dc38 pm38 cd38 ct38 : Value}
    {f39 : Addr} {od39 an39 : Option Addr} {sl39 : Array (Option Value)} {oc39 kV39 dc39 pm39 cd39 ct39 : Value}
    {f40 : Addr} {od40 an40 : Option Addr} {sl40 : Array (Option Value)} {oc40 kV40 dc40 pm40 cd40 ct40 : Value}
    {f41 : Addr} {od41 an41 : Option Addr} {sl41 : Array (Option Value)} {oc41 kV41 dc41 pm41 cd41 ct41 : Value}
    {f42 : Addr} {od42 an42 : Option Addr} {sl42 : Array (Option Value)} {oc42 kV42 dc42 pm42 cd42 ct42 : Value}
    {f43 : Addr} {od43 an43 : Option Addr} {sl43 : Array (Option Value)} {oc43 kV43 dc43 pm43 cd43 ct43 : Value}
    {f44 : Addr} {od44 an44 : Option Addr} {sl44 : Array (Option Value)} {oc44 kV44 dc44 pm44 cd44 ct44 : Value}
    (z_all : PySem.W.nsIn K mainGlobals "all" = some none)
    (z_bool : PySem.W.nsIn K mainGlobals "bool" = some none)
    (z_dict : PySem.W.nsIn K mainGlobals "dict" = some none)
    (z_enumerate : PySem.W.nsIn K mainGlobals "enumerate" = some none)
    (z_int : PySem.W.nsIn K mainGlobals "int" = some none)
    (z_isinstance : PySem.W.nsIn K mainGlobals "isinstance" = some none)
    (z_len : PySem.W.nsIn K mainGlobals "len" = some none)
    (z_list : PySem.W.nsIn K mainGlobals "list" = some none)
    (z_range : PySem.W.nsIn K mainGlobals "range" = some none)
    (z_set : PySem.W.nsIn K mainGlobals "set" = some none)
    (z_sorted : PySem.W.nsIn K mainGlobals "sorted" = some none)
    (z_str : PySem.W.nsIn K mainGlobals "str" = some none)
    (z_tuple : PySem.W.nsIn K mainGlobals "tuple" = some none)
    (z_zip : PySem.W.nsIn K mainGlobals "zip" = some none)
    (g_MOST : PySem.W.nsIn K mainGlobals "MOST" = some (some (.int 8 t_MOST)))
    (g_PLACES : PySem.W.nsIn K mainGlobals "PLACES" = some (some (.ref u_PLACES)))
    (l_PLACES : K.lookup u_PLACES = some ⟨.type "tuple", none, .seq #[.str "refs" t0_PLACES, .str "rows" t1_PLACES] n_PLACES, s_PLACES⟩)
    (g_WAYS : PySem.W.nsIn K mainGlobals "WAYS" = some (some (.ref u_WAYS)))
    (l_WAYS : K.lookup u_WAYS = some ⟨.type "tuple", none, .seq #[.str "down" t0_WAYS, .str "up" t1_WAYS] n_WAYS, s_WAYS⟩)
    (gx_InvalidMoves : PySem.W.nsIn K mainGlobals "InvalidMoves" = some (some (.ref e_InvalidMoves)))
    (qx_InvalidMoves : PySem.W.excIn K e_InvalidMoves [.type "ValueError", .type "Exception", .type "BaseException", .type "object"] "ValueError.__new__" = true)
    (kx_InvalidMoves : PySem.W.keepIn K (.ref e_InvalidMoves) = true)
    (bx_InvalidMoves : PySem.W.subIn K (.ref e_InvalidMoves) (.type "BaseException") = some true)
    (tx_InvalidMoves : PySem.W.typeIn K (.ref e_InvalidMoves) = some (.type "type"))
    (gx_InvalidScript : PySem.W.nsIn K mainGlobals "InvalidScript" = some (some (.ref e_InvalidScript)))
    (qx_InvalidScript : PySem.W.excIn K e_InvalidScript [.type "ValueError", .type "Exception", .type "BaseException", .type "object"] "ValueError.__new__" = true)
    (kx_InvalidScript : PySem.W.keepIn K (.ref e_InvalidScript) = true)
    (bx_InvalidScript : PySem.W.subIn K (.ref e_InvalidScript) (.type "BaseException") = some true)
    (tx_InvalidScript : PySem.W.typeIn K (.ref e_InvalidScript) = some (.type "type"))
    (gx_InvalidSize : PySem.W.nsIn K mainGlobals "InvalidSize" = some (some (.ref e_InvalidSize)))
    (qx_InvalidSize : PySem.W.excIn K e_InvalidSize [.type "ValueError", .type "Exception", .type "BaseException", .type "object"] "ValueError.__new__" = true)
    (kx_InvalidSize : PySem.W.keepIn K (.ref e_InvalidSize) = true)
    (bx_InvalidSize : PySem.W.subIn K (.ref e_InvalidSize) (.type "BaseException") = some true)
    (tx_InvalidSize : PySem.W.typeIn K (.ref e_InvalidSize) = some (.type "type"))
    (a0 : PySem.W.nsIn K mainGlobals "is_within" = some (some (.ref f0)))
    (l0 : K.lookup f0 = some ⟨oc0, od0, .func (PySem.W.fnOf "is_within" "is_within" (defArgs s_is_within) (defBody s_is_within) (defScope s_is_within) .none kV0 dc0 pm0 an0 cd0 ct0), sl0⟩)
    (c0 : PySem.W.codeIn K cd0 "is_within" = true)
    (k0 : PySem.W.keepIn K (.ref f0) = true)
    (a1 : PySem.W.nsIn K mainGlobals "is_one_of" = some (some (.ref f1)))
    (l1 : K.lookup f1 = some ⟨oc1, od1, .func (PySem.W.fnOf "is_one_of" "is_one_of" (defArgs s_is_one_of) (defBody s_is_one_of) (defScope s_is_one_of) .none kV1 dc1 pm1 an1 cd1 ct1), sl1⟩)
    (c1 : PySem.W.codeIn K cd1 "is_one_of" = true)
    (k1 : PySem.W.keepIn K (.ref f1) = true)
    (a2 : PySem.W.nsIn K mainGlobals "rises" = some (some (.ref f2)))
    (l2 : K.lookup f2 = some ⟨oc2, od2, .func (PySem.W.fnOf "rises" "rises" (defArgs s_rises) (defBody s_rises) (defScope s_rises) .none kV2 dc2 pm2 an2 cd2 ct2), sl2⟩)
    (c2 : PySem.W.codeIn K cd2 "rises" = true)
    (k2 : PySem.W.keepIn K (.ref f2) = true)
    (a3 : PySem.W.nsIn K mainGlobals "look_at_size" = some (some (.ref f3)))
    (l3 : K.lookup f3 = some ⟨oc3, od3, .func (PySem.W.fnOf "look_at_size" "look_at_size" (defArgs s_look_at_size) (defBody s_look_at_size) (defScope s_look_at_size) .none kV3 dc3 pm3 an3 cd3 ct3), sl3⟩)
    (c3 : PySem.W.codeIn K cd3 "look_at_size" = true)
    (k3 : PySem.W.keepIn K (.ref f3) = true)
    (a4 : PySem.W.nsIn K mainGlobals "is_pair" = some (some (.ref f4)))
    (l4 : K.lookup f4 = some ⟨oc4, od4, .func (PySem.W.fnOf "is_pair" "is_pair" (defArgs s_is_pair) (defBody s_is_pair) (defScope s_is_pair) .none kV4 dc4 pm4 an4 cd4 ct4), sl4⟩)
    (c4 : PySem.W.codeIn K cd4 "is_pair" = true)
    (k4 : PySem.W.keepIn K (.ref f4) = true)
    (a5 : PySem.W.nsIn K mainGlobals "is_table" = some (some (.ref f5)))
    (l5 : K.lookup f5 = some ⟨oc5, od5, .func (PySem.W.fnOf "is_table" "is_table" (defArgs s_is_table) (defBody s_is_table) (defScope s_is_table) .none kV5 dc5 pm5 an5 cd5 ct5), sl5⟩)
    (c5 : PySem.W.codeIn K cd5 "is_table" = true)
    (k5 : PySem.W.keepIn K (.ref f5) = true)
    (a6 : PySem.W.nsIn K mainGlobals "is_row_of_pairs" = some (some (.ref f6)))
    (l6 : K.lookup f6 = some ⟨oc6, od6, .func (PySem.W.fnOf "is_row_of_pairs" "is_row_of_pairs" (defArgs s_is_row_of_pairs) (defBody s_is_row_of_pairs) (defScope s_is_row_of_pairs) .none kV6 dc6 pm6 an6 cd6 ct6), sl6⟩)
    (c6 : PySem.W.codeIn K cd6 "is_row_of_pairs" = true)
    (k6 : PySem.W.keepIn K (.ref f6) = true)
    (a7 : PySem.W.nsIn K mainGlobals "is_statement" = some (some (.ref f7)))
    (l7 : K.lookup f7 = some ⟨oc7, od7, .func (PySem.W.fnOf "is_statement" "is_statement" (defArgs s_is_statement) (defBody s_is_statement) (defScope s_is_statement) .none kV7 dc7 pm7 an7 cd7 ct7), sl7⟩)
    (c7 : PySem.W.codeIn K cd7 "is_statement" = true)
    (k7 : PySem.W.keepIn K (.ref f7) = true)
    (a8 : PySem.W.nsIn K mainGlobals "fits" = some (some (.ref f8)))
    (l8 : K.lookup f8 = some ⟨oc8, od8, .func (PySem.W.fnOf "fits" "fits" (defArgs s_fits) (defBody s_fits) (defScope s_fits) .none kV8 dc8 pm8 an8 cd8 ct8), sl8⟩)
    (c8 : PySem.W.codeIn K cd8 "fits" = true)
    (k8 : PySem.W.keepIn K (.ref f8) = true)
    (a9 : PySem.W.nsIn K mainGlobals "look_at_script" = some (some (.ref f9)))
    (l9 : K.lookup f9 = some ⟨oc9, od9, .func (PySem.W.fnOf "look_at_script" "look_at_script" (defArgs s_look_at_script) (defBody s_look_at_script) (defScope s_look_at_script) .none kV9 dc9 pm9 an9 cd9 ct9), sl9⟩)
    (c9 : PySem.W.codeIn K cd9 "look_at_script" = true)
    (k9 : PySem.W.keepIn K (.ref f9) = true)
    (a10 : PySem.W.nsIn K mainGlobals "look_at" = some (some (.ref f10)))
    (l10 : K.lookup f10 = some ⟨oc10, od10, .func (PySem.W.fnOf "look_at" "look_at" (defArgs s_look_at) (defBody s_look_at) (defScope s_look_at) .none kV10 dc10 pm10 an10 cd10 ct10), sl10⟩)
    (c10 : PySem.W.codeIn K cd10 "look_at" = true)
    (k10 : PySem.W.keepIn K (.ref f10) = true)
    (a11 : PySem.W.nsIn K mainGlobals "is_script" = some (some (.ref f11)))
    (l11 : K.lookup f11 = some ⟨oc11, od11, .func (PySem.W.fnOf "is_script" "is_script" (defArgs s_is_script) (defBody s_is_script) (defScope s_is_script) .none kV11 dc11 pm11 an11 cd11 ct11), sl11⟩)
    (c11 : PySem.W.codeIn K cd11 "is_script" = true)
    (k11 : PySem.W.keepIn K (.ref f11) = true)
    (a12 : PySem.W.nsIn K mainGlobals "clashes" = some (some (.ref f12)))
    (l12 : K.lookup f12 = some ⟨oc12, od12, .func (PySem.W.fnOf "clashes" "clashes" (defArgs s_clashes) (defBody s_clashes) (defScope s_clashes) .none kV12 dc12 pm12 an12 cd12 ct12), sl12⟩)
    (c12 : PySem.W.codeIn K cd12 "clashes" = true)
    (k12 : PySem.W.keepIn K (.ref f12) = true)
    (a13 : PySem.W.nsIn K mainGlobals "turned_by" = some (some (.ref f13)))
    (l13 : K.lookup f13 = some ⟨oc13, od13, .func (PySem.W.fnOf "turned_by" "turned_by" (defArgs s_turned_by) (defBody s_turned_by) (defScope s_turned_by) .none kV13 dc13 pm13 an13 cd13 ct13), sl13⟩)
    (c13 : PySem.W.codeIn K cd13 "turned_by" = true)
    (k13 : PySem.W.keepIn K (.ref f13) = true)
    (a14 : PySem.W.nsIn K mainGlobals "added" = some (some (.ref f14)))
    (l14 : K.lookup f14 = some ⟨oc14, od14, .func (PySem.W.fnOf "added" "added" (defArgs s_added) (defBody s_added) (defScope s_added) .none kV14 dc14 pm14 an14 cd14 ct14), sl14⟩)
    (c14 : PySem.W.codeIn K cd14 "added" = true)
    (k14 : PySem.W.keepIn K (.ref f14) = true)
    (a15 : PySem.W.nsIn K mainGlobals "changes_of" = some (some (.ref f15)))
    (l15 : K.lookup f15 = some ⟨oc15, od15, .func (PySem.W.fnOf "changes_of" "changes_of" (defArgs s_changes_of) (defBody s_changes_of) (defScope s_changes_of) .none kV15 dc15 pm15 an15 cd15 ct15), sl15⟩)
    (c15 : PySem.W.codeIn K cd15 "changes_of" = true)
    (k15 : PySem.W.keepIn K (.ref f15) = true)
    (a16 : PySem.W.nsIn K mainGlobals "single_changes" = some (some (.ref f16)))
    (l16 : K.lookup f16 = some ⟨oc16, od16, .func (PySem.W.fnOf "single_changes" "single_changes" (defArgs s_single_changes) (defBody s_single_changes) (defScope s_single_changes) .none kV16 dc16 pm16 an16 cd16 ct16), sl16⟩)
    (c16 : PySem.W.codeIn K cd16 "single_changes" = true)
    (k16 : PySem.W.keepIn K (.ref f16) = true)
    (a17 : PySem.W.nsIn K mainGlobals "turned_rows" = some (some (.ref f17)))
    (l17 : K.lookup f17 = some ⟨oc17, od17, .func (PySem.W.fnOf "turned_rows" "turned_rows" (defArgs s_turned_rows) (defBody s_turned_rows) (defScope s_turned_rows) .none kV17 dc17 pm17 an17 cd17 ct17), sl17⟩)
    (c17 : PySem.W.codeIn K cd17 "turned_rows" = true)
    (k17 : PySem.W.keepIn K (.ref f17) = true)
    (a18 : PySem.W.nsIn K mainGlobals "turned_refs" = some (some (.ref f18)))
    (l18 : K.lookup f18 = some ⟨oc18, od18, .func (PySem.W.fnOf "turned_refs" "turned_refs" (defArgs s_turned_refs) (defBody s_turned_refs) (defScope s_turned_refs) .none kV18 dc18 pm18 an18 cd18 ct18), sl18⟩)
    (c18 : PySem.W.codeIn K cd18 "turned_refs" = true)
    (k18 : PySem.W.keepIn K (.ref f18) = true)
    (a19 : PySem.W.nsIn K mainGlobals "done" = some (some (.ref f19)))
    (l19 : K.lookup f19 = some ⟨oc19, od19, .func (PySem.W.fnOf "done" "done" (defArgs s_done) (defBody s_done) (defScope s_done) .none kV19 dc19 pm19 an19 cd19 ct19), sl19⟩)
    (c19 : PySem.W.codeIn K cd19 "done" = true)
    (k19 : PySem.W.keepIn K (.ref f19) = true)
    (a20 : PySem.W.nsIn K mainGlobals "effect_of" = some (some (.ref f20)))
    (l20 : K.lookup f20 = some ⟨oc20, od20, .func (PySem.W.fnOf "effect_of" "effect_of" (defArgs s_effect_of) (defBody s_effect_of) (defScope s_effect_of) .none kV20 dc20 pm20 an20 cd20 ct20), sl20⟩)
    (c20 : PySem.W.codeIn K cd20 "effect_of" = true)
    (k20 : PySem.W.keepIn K (.ref f20) = true)
    (a21 : PySem.W.nsIn K mainGlobals "are_moves" = some (some (.ref f21)))
    (l21 : K.lookup f21 = some ⟨oc21, od21, .func (PySem.W.fnOf "are_moves" "are_moves" (defArgs s_are_moves) (defBody s_are_moves) (defScope s_are_moves) .none kV21 dc21 pm21 an21 cd21 ct21), sl21⟩)
    (c21 : PySem.W.codeIn K cd21 "are_moves" = true)
    (k21 : PySem.W.keepIn K (.ref f21) = true)
    (a22 : PySem.W.nsIn K mainGlobals "look_at_moves" = some (some (.ref f22)))
    (l22 : K.lookup f22 = some ⟨oc22, od22, .func (PySem.W.fnOf "look_at_moves" "look_at_moves" (defArgs s_look_at_moves) (defBody s_look_at_moves) (defScope s_look_at_moves) .none kV22 dc22 pm22 an22 cd22 ct22), sl22⟩)
    (c22 : PySem.W.codeIn K cd22 "look_at_moves" = true)
    (k22 : PySem.W.keepIn K (.ref f22) = true)
    (a23 : PySem.W.nsIn K mainGlobals "does" = some (some (.ref f23)))
    (l23 : K.lookup f23 = some ⟨oc23, od23, .func (PySem.W.fnOf "does" "does" (defArgs s_does) (defBody s_does) (defScope s_does) .none kV23 dc23 pm23 an23 cd23 ct23), sl23⟩)
    (c23 : PySem.W.codeIn K cd23 "does" = true)
    (k23 : PySem.W.keepIn K (.ref f23) = true)
    (a24 : PySem.W.nsIn K mainGlobals "script_for" = some (some (.ref f24)))
    (l24 : K.lookup f24 = some ⟨oc24, od24, .func (PySem.W.fnOf "script_for" "script_for" (defArgs s_script_for) (defBody s_script_for) (defScope s_script_for) .none kV24 dc24 pm24 an24 cd24 ct24), sl24⟩)
    (c24 : PySem.W.codeIn K cd24 "script_for" = true)
    (k24 : PySem.W.keepIn K (.ref f24) = true)
    (a25 : PySem.W.nsIn K mainGlobals "_law_well" = some (some (.ref f25)))
    (l25 : K.lookup f25 = some ⟨oc25, od25, .func (PySem.W.fnOf "_law_well" "_law_well" (defArgs s__law_well) (defBody s__law_well) (defScope s__law_well) .none kV25 dc25 pm25 an25 cd25 ct25), sl25⟩)
    (c25 : PySem.W.codeIn K cd25 "_law_well" = true)
    (k25 : PySem.W.keepIn K (.ref f25) = true)
    (a26 : PySem.W.nsIn K mainGlobals "_law_take" = some (some (.ref f26)))
    (l26 : K.lookup f26 = some ⟨oc26, od26, .func (PySem.W.fnOf "_law_take" "_law_take" (defArgs s__law_take) (defBody s__law_take) (defScope s__law_take) .none kV26 dc26 pm26 an26 cd26 ct26), sl26⟩)
    (c26 : PySem.W.codeIn K cd26 "_law_take" = true)
    (k26 : PySem.W.keepIn K (.ref f26) = true)
    (a27 : PySem.W.nsIn K mainGlobals "_law_bags" = some (some (.ref f27)))
    (l27 : K.lookup f27 = some ⟨oc27, od27, .func (PySem.W.fnOf "_law_bags" "_law_bags" (defArgs s__law_bags) (defBody s__law_bags) (defScope s__law_bags) .none kV27 dc27 pm27 an27 cd27 ct27), sl27⟩)
    (c27 : PySem.W.codeIn K cd27 "_law_bags" = true)
    (k27 : PySem.W.keepIn K (.ref f27) = true)
    (a28 : PySem.W.nsIn K mainGlobals "_law_same" = some (some (.ref f28)))
    (l28 : K.lookup f28 = some ⟨oc28, od28, .func (PySem.W.fnOf "_law_same" "_law_same" (defArgs s__law_same) (defBody s__law_same) (defScope s__law_same) .none kV28 dc28 pm28 an28 cd28 ct28), sl28⟩)
    (c28 : PySem.W.codeIn K cd28 "_law_same" = true)
    (k28 : PySem.W.keepIn K (.ref f28) = true)
    (a29 : PySem.W.nsIn K mainGlobals "_law_pairs" = some (some (.ref f29)))
    (l29 : K.lookup f29 = some ⟨oc29, od29, .func (PySem.W.fnOf "_law_pairs" "_law_pairs" (defArgs s__law_pairs) (defBody s__law_pairs) (defScope s__law_pairs) .none kV29 dc29 pm29 an29 cd29 ct29), sl29⟩)
    (c29 : PySem.W.codeIn K cd29 "_law_pairs" = true)
    (k29 : PySem.W.keepIn K (.ref f29) = true)
    (a30 : PySem.W.nsIn K mainGlobals "_law_table" = some (some (.ref f30)))
    (l30 : K.lookup f30 = some ⟨oc30, od30, .func (PySem.W.fnOf "_law_table" "_law_table" (defArgs s__law_table) (defBody s__law_table) (defScope s__law_table) .none kV30 dc30 pm30 an30 cd30 ct30), sl30⟩)
    (c30 : PySem.W.codeIn K cd30 "_law_table" = true)
    (k30 : PySem.W.keepIn K (.ref f30) = true)
    (a31 : PySem.W.nsIn K mainGlobals "_law_statement" = some (some (.ref f31)))
    (l31 : K.lookup f31 = some ⟨oc31, od31, .func (PySem.W.fnOf "_law_statement" "_law_statement" (defArgs s__law_statement) (defBody s__law_statement) (defScope s__law_statement) .none kV31 dc31 pm31 an31 cd31 ct31), sl31⟩)
    (c31 : PySem.W.codeIn K cd31 "_law_statement" = true)
    (k31 : PySem.W.keepIn K (.ref f31) = true)
    (a32 : PySem.W.nsIn K mainGlobals "_law_twin" = some (some (.ref f32)))
    (l32 : K.lookup f32 = some ⟨oc32, od32, .func (PySem.W.fnOf "_law_twin" "_law_twin" (defArgs s__law_twin) (defBody s__law_twin) (defScope s__law_twin) .none kV32 dc32 pm32 an32 cd32 ct32), sl32⟩)
    (c32 : PySem.W.codeIn K cd32 "_law_twin" = true)
    (k32 : PySem.W.keepIn K (.ref f32) = true)
    (a33 : PySem.W.nsIn K mainGlobals "_law_script" = some (some (.ref f33)))
    (l33 : K.lookup f33 = some ⟨oc33, od33, .func (PySem.W.fnOf "_law_script" "_law_script" (defArgs s__law_script) (defBody s__law_script) (defScope s__law_script) .none kV33 dc33 pm33 an33 cd33 ct33), sl33⟩)
    (c33 : PySem.W.codeIn K cd33 "_law_script" = true)
    (k33 : PySem.W.keepIn K (.ref f33) = true)
    (a34 : PySem.W.nsIn K mainGlobals "_law_all_contents" = some (some (.ref f34)))
    (l34 : K.lookup f34 = some ⟨oc34, od34, .func (PySem.W.fnOf "_law_all_contents" "_law_all_contents" (defArgs s__law_all_contents) (defBody s__law_all_contents) (defScope s__law_all_contents) .none kV34 dc34 pm34 an34 cd34 ct34), sl34⟩)
    (c34 : PySem.W.codeIn K cd34 "_law_all_contents" = true)
    (k34 : PySem.W.keepIn K (.ref f34) = true)
    (a35 : PySem.W.nsIn K mainGlobals "_law_sum" = some (some (.ref f35)))
    (l35 : K.lookup f35 = some ⟨oc35, od35, .func (PySem.W.fnOf "_law_sum" "_law_sum" (defArgs s__law_sum) (defBody s__law_sum) (defScope s__law_sum) .none kV35 dc35 pm35 an35 cd35 ct35), sl35⟩)
    (c35 : PySem.W.codeIn K cd35 "_law_sum" = true)
    (k35 : PySem.W.keepIn K (.ref f35) = true)
    (a36 : PySem.W.nsIn K mainGlobals "_law_refs" = some (some (.ref f36)))
    (l36 : K.lookup f36 = some ⟨oc36, od36, .func (PySem.W.fnOf "_law_refs" "_law_refs" (defArgs s__law_refs) (defBody s__law_refs) (defScope s__law_refs) .none kV36 dc36 pm36 an36 cd36 ct36), sl36⟩)
    (c36 : PySem.W.codeIn K cd36 "_law_refs" = true)
    (k36 : PySem.W.keepIn K (.ref f36) = true)
    (a37 : PySem.W.nsIn K mainGlobals "_law_singles" = some (some (.ref f37)))
    (l37 : K.lookup f37 = some ⟨oc37, od37, .func (PySem.W.fnOf "_law_singles" "_law_singles" (defArgs s__law_singles) (defBody s__law_singles) (defScope s__law_singles) .none kV37 dc37 pm37 an37 cd37 ct37), sl37⟩)
    (c37 : PySem.W.codeIn K cd37 "_law_singles" = true)
    (k37 : PySem.W.keepIn K (.ref f37) = true)
    (a38 : PySem.W.nsIn K mainGlobals "_law_rows" = some (some (.ref f38)))
    (l38 : K.lookup f38 = some ⟨oc38, od38, .func (PySem.W.fnOf "_law_rows" "_law_rows" (defArgs s__law_rows) (defBody s__law_rows) (defScope s__law_rows) .none kV38 dc38 pm38 an38 cd38 ct38), sl38⟩)
    (c38 : PySem.W.codeIn K cd38 "_law_rows" = true)
    (k38 : PySem.W.keepIn K (.ref f38) = true)
    (a39 : PySem.W.nsIn K mainGlobals "_law_done" = some (some (.ref f39)))
    (l39 : K.lookup f39 = some ⟨oc39, od39, .func (PySem.W.fnOf "_law_done" "_law_done" (defArgs s__law_done) (defBody s__law_done) (defScope s__law_done) .none kV39 dc39 pm39 an39 cd39 ct39), sl39⟩)
    (c39 : PySem.W.codeIn K cd39 "_law_done" = true)
    (k39 : PySem.W.keepIn K (.ref f39) = true)
    (a40 : PySem.W.nsIn K mainGlobals "_law_effect" = some (some (.ref f40)))
    (l40 : K.lookup f40 = some ⟨oc40, od40, .func (PySem.W.fnOf "_law_effect" "_law_effect" (defArgs s__law_effect) (defBody s__law_effect) (defScope s__law_effect) .none kV40 dc40 pm40 an40 cd40 ct40), sl40⟩)
    (c40 : PySem.W.codeIn K cd40 "_law_effect" = true)
    (k40 : PySem.W.keepIn K (.ref f40) = true)
    (a41 : PySem.W.nsIn K mainGlobals "_law_errors" = some (some (.ref f41)))
    (l41 : K.lookup f41 = some ⟨oc41, od41, .func (PySem.W.fnOf "_law_errors" "_law_errors" (defArgs s__law_errors) (defBody s__law_errors) (defScope s__law_errors) .none kV41 dc41 pm41 an41 cd41 ct41), sl41⟩)
    (c41 : PySem.W.codeIn K cd41 "_law_errors" = true)
    (k41 : PySem.W.keepIn K (.ref f41) = true)
    (a42 : PySem.W.nsIn K mainGlobals "_law_moves" = some (some (.ref f42)))
    (l42 : K.lookup f42 = some ⟨oc42, od42, .func (PySem.W.fnOf "_law_moves" "_law_moves" (defArgs s__law_moves) (defBody s__law_moves) (defScope s__law_moves) .none kV42 dc42 pm42 an42 cd42 ct42), sl42⟩)
    (c42 : PySem.W.codeIn K cd42 "_law_moves" = true)
    (k42 : PySem.W.keepIn K (.ref f42) = true)
    (a43 : PySem.W.nsIn K mainGlobals "_law_does" = some (some (.ref f43)))
    (l43 : K.lookup f43 = some ⟨oc43, od43, .func (PySem.W.fnOf "_law_does" "_law_does" (defArgs s__law_does) (defBody s__law_does) (defScope s__law_does) .none kV43 dc43 pm43 an43 cd43 ct43), sl43⟩)
    (c43 : PySem.W.codeIn K cd43 "_law_does" = true)
    (k43 : PySem.W.keepIn K (.ref f43) = true)
    (a44 : PySem.W.nsIn K mainGlobals "law" = some (some (.ref f44)))
    (l44 : K.lookup f44 = some ⟨oc44, od44, .func (PySem.W.fnOf "law" "law" (defArgs s_law) (defBody s_law) (defScope s_law) .none kV44 dc44 pm44 an44 cd44 ct44), sl44⟩)
    (c44 : PySem.W.codeIn K cd44 "law" = true)
    (k44 : PySem.W.keepIn K (.ref f44) = true) :
    ∃ fd : FuncData, (∀ (s : Shared) (v : Value), BindsTo s fd ⟨[v], []⟩ [("_law_script_here", v)]) ∧ ∀ base : Heap, K.In base → base.Ns mainGlobals mg → FnOk l.prog w K mg base (L2.CX l.prog w) 10 fa fd ["_law_script_here"] (spLaw K) := by
  have e := hfa.symm.trans (PySem.W.mg_of X G a44)
  cases e
  have T : Txt K mg := { z_all := PySem.W.mg_none_of X G z_all, z_bool := PySem.W.mg_none_of X G z_bool, z_dict := PySem.W.mg_none_of X G z_dict, z_enumerate := PySem.W.mg_none_of X G z_enumerate, z_int := PySem.W.mg_none_of X G z_int, z_isinstance := PySem.W.mg_none_of X G z_isinstance, z_len := PySem.W.mg_none_of X G z_len, z_list := PySem.W.mg_none_of X G z_list, z_range := PySem.W.mg_none_of X G z_range, z_set := PySem.W.mg_none_of X G z_set, z_sorted := PySem.W.mg_none_of X G z_sorted, z_str := PySem.W.mg_none_of X G z_str, z_tuple := PySem.W.mg_none_of X G z_tuple, z_zip := PySem.W.mg_none_of X G z_zip, c_MOST := glob_int X G g_MOST, c_PLACES := glob_strs (ss := ["refs", "rows"]) X G g_PLACES l_PLACES rfl rfl rfl (show 2 ≤ sizeLine by decide) (.cons ⟨_, rfl⟩ (.cons ⟨_, rfl⟩ .nil)), c_WAYS := glob_strs (ss := ["down", "up"]) X G g_WAYS l_WAYS rfl rfl rfl (show 2 ≤ sizeLine by decide) (.cons ⟨_, rfl⟩ (.cons ⟨_, rfl⟩ .nil)), x_InvalidMoves := exc_mk X G gx_InvalidMoves qx_InvalidMoves kx_InvalidMoves bx_InvalidMoves tx_InvalidMoves, x_InvalidScript := exc_mk X G gx_InvalidScript qx_InvalidScript kx_InvalidScript bx_InvalidScript tx_InvalidScript, x_InvalidSize := exc_mk X G gx_InvalidSize qx_InvalidSize kx_InvalidSize bx_InvalidSize tx_InvalidSize, d_is_within := ⟨f0, _, fun_mk (st := s_is_within) l0 c0 k0, PySem.W.mg_of X G a0, (fun_mk (st := s_is_within) l0 c0 k0).binds (ps := ["value", "low", "high"]) fun _ _ _ _ _ _ us hl => match us, hl with | [_, _, _], _ => rfl⟩, d_is_one_of := ⟨f1, _, fun_mk (st := s_is_one_of) l1 c1 k1, PySem.W.mg_of X G a1, (fun_mk (st := s_is_one_of) l1 c1 k1).binds (ps := ["value", "some"]) fun _ _ _ _ _ _ us hl => match us, hl with | [_, _], _ => rfl⟩, d_rises := ⟨f2, _, fun_mk (st := s_rises) l2 c2 k2, PySem.W.mg_of X G a2, (fun_mk (st := s_rises) l2 c2 k2).binds (ps := ["some"]) fun _ _ _ _ _ _ us hl => match us, hl with | [_], _ => rfl⟩, d_look_at_size := ⟨f3, _, fun_mk (st := s_look_at_size) l3 c3 k3, PySem.W.mg_of X G a3, (fun_mk (st := s_look_at_size) l3 c3 k3).binds (ps := ["size"]) fun _ _ _ _ _ _ us hl => match us, hl with | [_], _ => rfl⟩, d_is_pair := ⟨f4, _, fun_mk (st := s_is_pair) l4 c4 k4, PySem.W.mg_of X G a4, (fun_mk (st := s_is_pair) l4 c4 k4).binds (ps := ["size", "value"]) fun _ _ _ _ _ _ us hl => match us, hl with | [_, _], _ => rfl⟩, d_is_table := ⟨f5, _, fun_mk (st := s_is_table) l5 c5 k5, PySem.W.mg_of X G a5, (fun_mk (st := s_is_table) l5 c5 k5).binds (ps := ["size", "value"]) fun _ _ _ _ _ _ us hl => match us, hl with | [_, _], _ => rfl⟩, d_is_row_of_pairs := ⟨f6, _, fun_mk (st := s_is_row_of_pairs) l6 c6 k6, PySem.W.mg_of X G a6, (fun_mk (st := s_is_row_of_pairs) l6 c6 k6).binds (ps := ["size", "value"]) fun _ _ _ _ _ _ us hl => match us, hl with | [_, _], _ => rfl⟩, d_is_statement := ⟨f7, _, fun_mk (st := s_is_statement) l7 c7 k7, PySem.W.mg_of X G a7, (fun_mk (st := s_is_statement) l7 c7 k7).binds (ps := ["size", "value"]) fun _ _ _ _ _ _ us hl => match us, hl with | [_, _], _ => rfl⟩, d_fits := ⟨f8, _, fun_mk (st := s_fits) l8 c8 k8, PySem.W.mg_of X G a8, (fun_mk (st := s_fits) l8 c8 k8).binds (ps := ["size", "value"]) fun _ _ _ _ _ _ us hl => match us, hl with | [_, _], _ => rfl⟩, d_look_at_script := ⟨f9, _, fun_mk (st := s_look_at_script) l9 c9 k9, PySem.W.mg_of X G a9, (fun_mk (st := s_look_at_script) l9 c9 k9).binds (ps := ["size", "script"]) fun _ _ _ _ _ _ us hl => match us, hl with | [_, _], _ => rfl⟩, d_look_at := ⟨f10, _, fun_mk (st := s_look_at) l10 c10 k10, PySem.W.mg_of X G a10, (fun_mk (st := s_look_at) l10 c10 k10).binds (ps := ["size", "script"]) fun _ _ _ _ _ _ us hl => match us, hl with | [_, _], _ => rfl⟩, d_is_script := ⟨f11, _, fun_mk (st := s_is_script) l11 c11 k11, PySem.W.mg_of X G a11, (fun_mk (st := s_is_script) l11 c11 k11).binds (ps := ["size", "value"]) fun _ _ _ _ _ _ us hl => match us, hl with | [_, _], _ => rfl⟩, d_clashes := ⟨f12, _, fun_mk (st := s_clashes) l12 c12 k12, PySem.W.mg_of X G a12, (fun_mk (st := s_clashes) l12 c12 k12).binds (ps := ["rows"]) fun _ _ _ _ _ _ us hl => match us, hl with | [_], _ => rfl⟩, d_turned_by := ⟨f13, _, fun_mk (st := s_turned_by) l13 c13 k13, PySem.W.mg_of X G a13, (fun_mk (st := s_turned_by) l13 c13 k13).binds (ps := ["table", "numbers"]) fun _ _ _ _ _ _ us hl => match us, hl with | [_, _], _ => rfl⟩, d_added := ⟨f14, _, fun_mk (st := s_added) l14 c14 k14, PySem.W.mg_of X G a14, (fun_mk (st := s_added) l14 c14 k14).binds (ps := ["size", "number", "amount"]) fun _ _ _ _ _ _ us hl => match us, hl with | [_, _, _], _ => rfl⟩, d_changes_of := ⟨f15, _, fun_mk (st := s_changes_of) l15 c15 k15, PySem.W.mg_of X G a15, (fun_mk (st := s_changes_of) l15 c15 k15).binds (ps := ["size", "statement", "rows"]) fun _ _ _ _ _ _ us hl => match us, hl with | [_, _, _], _ => rfl⟩, d_single_changes := ⟨f16, _, fun_mk (st := s_single_changes) l16 c16 k16, PySem.W.mg_of X G a16, (fun_mk (st := s_single_changes) l16 c16 k16).binds (ps := ["size", "statement", "rows"]) fun _ _ _ _ _ _ us hl => match us, hl with | [_, _, _], _ => rfl⟩, d_turned_rows := ⟨f17, _, fun_mk (st := s_turned_rows) l17 c17 k17, PySem.W.mg_of X G a17, (fun_mk (st := s_turned_rows) l17 c17 k17).binds (ps := ["size", "statement", "rows"]) fun _ _ _ _ _ _ us hl => match us, hl with | [_, _, _], _ => rfl⟩, d_turned_refs := ⟨f18, _, fun_mk (st := s_turned_refs) l18 c18 k18, PySem.W.mg_of X G a18, (fun_mk (st := s_turned_refs) l18 c18 k18).binds (ps := ["size", "statement", "refs"]) fun _ _ _ _ _ _ us hl => match us, hl with | [_, _, _], _ => rfl⟩, d_done := ⟨f19, _, fun_mk (st := s_done) l19 c19 k19, PySem.W.mg_of X G a19, (fun_mk (st := s_done) l19 c19 k19).binds (ps := ["size", "script", "rows", "refs"]) fun _ _ _ _ _ _ us hl => match us, hl with | [_, _, _, _], _ => rfl⟩, d_effect_of := ⟨f20, _, fun_mk (st := s_effect_of) l20 c20 k20, PySem.W.mg_of X G a20, (fun_mk (st := s_effect_of) l20 c20 k20).binds (ps := ["size", "script", "contents"]) fun _ _ _ _ _ _ us hl => match us, hl with | [_, _, _], _ => rfl⟩, d_are_moves := ⟨f21, _, fun_mk (st := s_are_moves) l21 c21 k21, PySem.W.mg_of X G a21, (fun_mk (st := s_are_moves) l21 c21 k21).binds (ps := ["size", "value"]) fun _ _ _ _ _ _ us hl => match us, hl with | [_, _], _ => rfl⟩, d_look_at_moves := ⟨f22, _, fun_mk (st := s_look_at_moves) l22 c22 k22, PySem.W.mg_of X G a22, (fun_mk (st := s_look_at_moves) l22 c22 k22).binds (ps := ["size", "moves"]) fun _ _ _ _ _ _ us hl => match us, hl with | [_, _], _ => rfl⟩, d_does := ⟨f23, _, fun_mk (st := s_does) l23 c23 k23, PySem.W.mg_of X G a23, (fun_mk (st := s_does) l23 c23 k23).binds (ps := ["size", "script", "moves"]) fun _ _ _ _ _ _ us hl => match us, hl with | [_, _, _], _ => rfl⟩, d_script_for := ⟨f24, _, fun_mk (st := s_script_for) l24 c24 k24, PySem.W.mg_of X G a24, (fun_mk (st := s_script_for) l24 c24 k24).binds (ps := ["size", "moves"]) fun _ _ _ _ _ _ us hl => match us, hl with | [_, _], _ => rfl⟩, d__law_well := ⟨f25, _, fun_mk (st := s__law_well) l25 c25 k25, PySem.W.mg_of X G a25, (fun_mk (st := s__law_well) l25 c25 k25).binds (ps := ["_law_cell", "_law_turn"]) fun _ _ _ _ _ _ us hl => match us, hl with | [_, _], _ => rfl⟩, d__law_take := ⟨f26, _, fun_mk (st := s__law_take) l26 c26 k26, PySem.W.mg_of X G a26, (fun_mk (st := s__law_take) l26 c26 k26).binds (ps := ["_law_bag", "_law_many"]) fun _ _ _ _ _ _ us hl => match us, hl with | [_, _], _ => rfl⟩, d__law_bags := ⟨f27, _, fun_mk (st := s__law_bags) l27 c27 k27, PySem.W.mg_of X G a27, (fun_mk (st := s__law_bags) l27 c27 k27).binds (ps := ["_law_script_here", "_law_most"]) fun _ _ _ _ _ _ us hl => match us, hl with | [_, _], _ => rfl⟩, d__law_same := ⟨f28, _, fun_mk (st := s__law_same) l28 c28 k28, PySem.W.mg_of X G a28, (fun_mk (st := s__law_same) l28 c28 k28).binds (ps := ["_law_a", "_law_b"]) fun _ _ _ _ _ _ us hl => match us, hl with | [_, _], _ => rfl⟩, d__law_pairs := ⟨f29, _, fun_mk (st := s__law_pairs) l29 c29 k29, PySem.W.mg_of X G a29, (fun_mk (st := s__law_pairs) l29 c29 k29).binds (ps := ["_law_bag", "_law_bound", "_law_many"]) fun _ _ _ _ _ _ us hl => match us, hl with | [_, _, _], _ => rfl⟩, d__law_table := ⟨f30, _, fun_mk (st := s__law_table) l30 c30 k30, PySem.W.mg_of X G a30, (fun_mk (st := s__law_table) l30 c30 k30).binds (ps := ["_law_bag", "_law_bound"]) fun _ _ _ _ _ _ us hl => match us, hl with | [_, _], _ => rfl⟩, d__law_statement := ⟨f31, _, fun_mk (st := s__law_statement) l31 c31 k31, PySem.W.mg_of X G a31, (fun_mk (st := s__law_statement) l31 c31 k31).binds (ps := ["_law_bag", "_law_bound", "_law_spot"]) fun _ _ _ _ _ _ us hl => match us, hl with | [_, _, _], _ => rfl⟩, d__law_twin := ⟨f32, _, fun_mk (st := s__law_twin) l32 c32 k32, PySem.W.mg_of X G a32, (fun_mk (st := s__law_twin) l32 c32 k32).binds (ps := ["_law_bag", "_law_statement_here"]) fun _ _ _ _ _ _ us hl => match us, hl with | [_, _], _ => rfl⟩, d__law_script := ⟨f33, _, fun_mk (st := s__law_script) l33 c33 k33, PySem.W.mg_of X G a33, (fun_mk (st := s__law_script) l33 c33 k33).binds (ps := ["_law_bag", "_law_bound", "_law_most"]) fun _ _ _ _ _ _ us hl => match us, hl with | [_, _, _], _ => rfl⟩, d__law_all_contents := ⟨f34, _, fun_mk (st := s__law_all_contents) l34 c34 k34, PySem.W.mg_of X G a34, (fun_mk (st := s__law_all_contents) l34 c34 k34).binds (ps := ["_law_bound"]) fun _ _ _ _ _ _ us hl => match us, hl with | [_], _ => rfl⟩, d__law_sum := ⟨f35, _, fun_mk (st := s__law_sum) l35 c35 k35, PySem.W.mg_of X G a35, (fun_mk (st := s__law_sum) l35 c35 k35).binds (ps := ["_law_bound", "_law_number", "_law_amount"]) fun _ _ _ _ _ _ us hl => match us, hl with | [_, _, _], _ => rfl⟩, d__law_refs := ⟨f36, _, fun_mk (st := s__law_refs) l36 c36 k36, PySem.W.mg_of X G a36, (fun_mk (st := s__law_refs) l36 c36 k36).binds (ps := ["_law_bound", "_law_statement_here", "_law_number"]) fun _ _ _ _ _ _ us hl => match us, hl with | [_, _, _], _ => rfl⟩, d__law_singles := ⟨f37, _, fun_mk (st := s__law_singles) l37 c37 k37, PySem.W.mg_of X G a37, (fun_mk (st := s__law_singles) l37 c37 k37).binds (ps := ["_law_bound", "_law_statement_here", "_law_rows_here"]) fun _ _ _ _ _ _ us hl => match us, hl with | [_, _, _], _ => rfl⟩, d__law_rows := ⟨f38, _, fun_mk (st := s__law_rows) l38 c38 k38, PySem.W.mg_of X G a38, (fun_mk (st := s__law_rows) l38 c38 k38).binds (ps := ["_law_bound", "_law_statement_here", "_law_rows_here"]) fun _ _ _ _ _ _ us hl => match us, hl with | [_, _, _], _ => rfl⟩, d__law_done := ⟨f39, _, fun_mk (st := s__law_done) l39 c39 k39, PySem.W.mg_of X G a39, (fun_mk (st := s__law_done) l39 c39 k39).binds (ps := ["_law_bound", "_law_script_so", "_law_rows_here", "_law_refs_here"]) fun _ _ _ _ _ _ us hl => match us, hl with | [_, _, _, _], _ => rfl⟩, d__law_effect := ⟨f40, _, fun_mk (st := s__law_effect) l40 c40 k40, PySem.W.mg_of X G a40, (fun_mk (st := s__law_effect) l40 c40 k40).binds (ps := ["_law_bound", "_law_script_so", "_law_some", "_law_stopped"]) fun _ _ _ _ _ _ us hl => match us, hl with | [_, _, _, _], _ => rfl⟩, d__law_errors := ⟨f41, _, fun_mk (st := s__law_errors) l41 c41 k41, PySem.W.mg_of X G a41, (fun_mk (st := s__law_errors) l41 c41 k41).binds (ps := ["_law_some", "_law_due"]) fun _ _ _ _ _ _ us hl => match us, hl with | [_, _], _ => rfl⟩, d__law_moves := ⟨f42, _, fun_mk (st := s__law_moves) l42 c42 k42, PySem.W.mg_of X G a42, (fun_mk (st := s__law_moves) l42 c42 k42).binds (ps := ["_law_bag", "_law_bound"]) fun _ _ _ _ _ _ us hl => match us, hl with | [_, _], _ => rfl⟩, d__law_does := ⟨f43, _, fun_mk (st := s__law_does) l43 c43 k43, PySem.W.mg_of X G a43, (fun_mk (st := s__law_does) l43 c43 k43).binds (ps := ["_law_bound", "_law_plan", "_law_moves_here"]) fun _ _ _ _ _ _ us hl => match us, hl with | [_, _, _], _ => rfl⟩ }
  exact ⟨PySem.W.fnOf "law" "law" (defArgs s_law) (defBody s_law) (defScope s_law) .none kV44 dc44 pm44 an44 cd44 ct44, fun s v => .of_eq rfl, fun base _ _ => ok_law (fun_mk (st := s_law) l44 c44 k44) T fit_all body_all tail_all⟩
theorem walk {l : PySem.W.OpenLaw} {q : Program} {loose : List Str} {XP : (Str → Option Value) → Heap → Prop} {YP : World → Heap → Prop} {d : DefRec} {K : Params → PySem.W.Frag} (hn : l.most = some 63) (hdf : d.params.defaults = [])
    (hY : ∀ (w : World) (h : Heap), YP w h → (K w.params).In h)
    (F : ∀ (w : World) (mg : Str → Option Value) (fa : Addr) (h : Heap), (K w.params).In h → h.Ns mainGlobals mg → mg d.name = some (.ref fa) →
      ∃ fd : FuncData, (∀ (s : Shared) (u : Value), BindsTo s fd ⟨[u], []⟩ [("_law_script_here", u)]) ∧ ∀ base : Heap, (K w.params).In base → base.Ns mainGlobals mg → FnOk l.prog w (K w.params) mg base (L2.CX l.prog w) 10 fa fd ["_law_script_here"] (spLaw (K w.params))) :
    PySem.W.WalkO q loose XP YP l.row.toRowW d [] (fun f vs => PySem.call f vs) :=
  L2.walk_of (n := 63) (k := 10) (x := "_law_script_here") (CX := fun w => L2.CX l.prog w) (sp := fun w => spLaw (K w.params)) hn (by decide) hdf ⟨rfl, by decide, by decide⟩ hY F (fun _ _ a ns hl _ hS => ⟨a, ns, rfl, hS, hl, fun _ => rfl⟩) fun w H s e s' z => cx_no z
end DL
open PySem PySem.W PyProof.Rows in
set_option maxRecDepth 100000 in
set_option maxHeartbeats 0 in
theorem PySem.Challenge.cw_pointsat_k11_whole_scripts_that_do_moves_holds : PySem.Challenge.rw_pointsat_k11_whole_scripts_that_do_moves.Holds := by
  w_on; o_law; k_head; (case hw => w_witness2)
  k_fill
  refine DL.walk (l := PySem.Challenge.rw_pointsat_k11_whole_scripts_that_do_moves) rfl rfl (fun w h Y => PySem.W.kIn_of Y) ?F
  case F =>
    intro w mg fa h KX G hmg
    refine' DL.all_mk KX G hmg ?z_all ?z_bool ?z_dict ?z_enumerate ?z_int ?z_isinstance ?z_len ?z_list ?z_range ?z_set ?z_sorted ?z_str ?z_tuple ?z_zip ?g_MOST ?g_PLACES ?l_PLACES ?g_WAYS ?l_WAYS ?gx_InvalidMoves ?qx_InvalidMoves ?kx_InvalidMoves ?bx_InvalidMoves ?tx_InvalidMoves ?gx_InvalidScript ?qx_InvalidScript ?kx_InvalidScript ?bx_InvalidScript ?tx_InvalidScript ?gx_InvalidSize ?qx_InvalidSize ?kx_InvalidSize ?bx_InvalidSize ?tx_InvalidSize ?a0 ?l0 ?c0 ?k0 ?a1 ?l1 ?c1 ?k1 ?a2 ?l2 ?c2 ?k2 ?a3 ?l3 ?c3 ?k3 ?a4 ?l4 ?c4 ?k4 ?a5 ?l5 ?c5 ?k5 ?a6 ?l6 ?c6 ?k6 ?a7 ?l7 ?c7 ?k7 ?a8 ?l8 ?c8 ?k8 ?a9 ?l9 ?c9 ?k9 ?a10 ?l10 ?c10 ?k10 ?a11 ?l11 ?c11 ?k11 ?a12 ?l12 ?c12 ?k12 ?a13 ?l13 ?c13 ?k13 ?a14 ?l14 ?c14 ?k14 ?a15 ?l15 ?c15 ?k15 ?a16 ?l16 ?c16 ?k16 ?a17 ?l17 ?c17 ?k17 ?a18 ?l18 ?c18 ?k18 ?a19 ?l19 ?c19 ?k19 ?a20 ?l20 ?c20 ?k20 ?a21 ?l21 ?c21 ?k21 ?a22 ?l22 ?c22 ?k22 ?a23 ?l23 ?c23 ?k23 ?a24 ?l24 ?c24 ?k24 ?a25 ?l25 ?c25 ?k25 ?a26 ?l26 ?c26 ?k26 ?a27 ?l27 ?c27 ?k27 ?a28 ?l28 ?c28 ?k28 ?a29 ?l29 ?c29 ?k29 ?a30 ?l30 ?c30 ?k30 ?a31 ?l31 ?c31 ?k31 ?a32 ?l32 ?c32 ?k32 ?a33 ?l33 ?c33 ?k33 ?a34 ?l34 ?c34 ?k34 ?a35 ?l35 ?c35 ?k35 ?a36 ?l36 ?c36 ?k36 ?a37 ?l37 ?c37 ?k37 ?a38 ?l38 ?c38 ?k38 ?a39 ?l39 ?c39 ?k39 ?a40 ?l40 ?c40 ?k40 ?a41 ?l41 ?c41 ?k41 ?a42 ?l42 ?c42 ?k42 ?a43 ?l43 ?c43 ?k43 ?a44 ?l44 ?c44 ?k44
    (case z_all => k_is)
    (case z_bool => k_is)
    (case z_dict => k_is)
    (case z_enumerate => k_is)
    (case z_int => k_is)
    (case z_isinstance => k_is)
    (case z_len => k_is)
    (case z_list => k_is)
    (case z_range => k_is)
    (case z_set => k_is)
    (case z_sorted => k_is)
    (case z_str => k_is)
    (case z_tuple => k_is)
    (case z_zip => k_is)
    (case g_MOST => k_is)
    (case g_PLACES => k_is)
    (case l_PLACES => k_is)
    (case g_WAYS => k_is)
    (case l_WAYS => k_is)
    (case gx_InvalidMoves => k_is)
    (case qx_InvalidMoves => k_exc)
    (case kx_InvalidMoves => k_is)
    (case bx_InvalidMoves => k_is)
    (case tx_InvalidMoves => k_is)
    (case gx_InvalidScript => k_is)
    (case qx_InvalidScript => k_exc)
    (case kx_InvalidScript => k_is)
    (case bx_InvalidScript => k_is)
    (case tx_InvalidScript => k_is)
    (case gx_InvalidSize => k_is)
    (case qx_InvalidSize => k_exc)
    (case kx_InvalidSize => k_is)
    (case bx_InvalidSize => k_is)
    (case tx_InvalidSize => k_is)
    (case a0 => k_is)
    (case l0 => k_is)
    (case c0 => k_is)
    (case k0 => k_is)
    (case a1 => k_is)
    (case l1 => k_is)
    (case c1 => k_is)
    (case k1 => k_is)
    (case a2 => k_is)
    (case l2 => k_is)
    (case c2 => k_is)
    (case k2 => k_is)
    (case a3 => k_is)
    (case l3 => k_is)
    (case c3 => k_is)
    (case k3 => k_is)
    (case a4 => k_is)
    (case l4 => k_is)
    (case c4 => k_is)
    (case k4 => k_is)
    (case a5 => k_is)
    (case l5 => k_is)
    (case c5 => k_is)
    (case k5 => k_is)
    (case a6 => k_is)
    (case l6 => k_is)
    (case c6 => k_is)
    (case k6 => k_is)
    (case a7 => k_is)
    (case l7 => k_is)
    (case c7 => k_is)
    (case k7 => k_is)
    (case a8 => k_is)
    (case l8 => k_is)
    (case c8 => k_is)
    (case k8 => k_is)
    (case a9 => k_is)
    (case l9 => k_is)
    (case c9 => k_is)
    (case k9 => k_is)
    (case a10 => k_is)
    (case l10 => k_is)
    (case c10 => k_is)
    (case k10 => k_is)
    (case a11 => k_is)
    (case l11 => k_is)
    (case c11 => k_is)
    (case k11 => k_is)
    (case a12 => k_is)
    (case l12 => k_is)
    (case c12 => k_is)
    (case k12 => k_is)
    (case a13 => k_is)
    (case l13 => k_is)
    (case c13 => k_is)
    (case k13 => k_is)
    (case a14 => k_is)
    (case l14 => k_is)
    (case c14 => k_is)
    (case k14 => k_is)
    (case a15 => k_is)
    (case l15 => k_is)
    (case c15 => k_is)
    (case k15 => k_is)
    (case a16 => k_is)
    (case l16 => k_is)
    (case c16 => k_is)
    (case k16 => k_is)
    (case a17 => k_is)
    (case l17 => k_is)
    (case c17 => k_is)
    (case k17 => k_is)
    (case a18 => k_is)
    (case l18 => k_is)
    (case c18 => k_is)
    (case k18 => k_is)
    (case a19 => k_is)
    (case l19 => k_is)
    (case c19 => k_is)
    (case k19 => k_is)
    (case a20 => k_is)
    (case l20 => k_is)
    (case c20 => k_is)
    (case k20 => k_is)
    (case a21 => k_is)
    (case l21 => k_is)
    (case c21 => k_is)
    (case k21 => k_is)
    (case a22 => k_is)
    (case l22 => k_is)
    (case c22 => k_is)
    (case k22 => k_is)
    (case a23 => k_is)
    (case l23 => k_is)
    (case c23 => k_is)
    (case k23 => k_is)
    (case a24 => k_is)
    (case l24 => k_is)
    (case c24 => k_is)
    (case k24 => k_is)
    (case a25 => k_is)
    (case l25 => k_is)
    (case c25 => k_is)
    (case k25 => k_is)
    (case a26 => k_is)
    (case l26 => k_is)
    (case c26 => k_is)
    (case k26 => k_is)
    (case a27 => k_is)
    (case l27 => k_is)
    (case c27 => k_is)
    (case k27 => k_is)
    (case a28 => k_is)
    (case l28 => k_is)
    (case c28 => k_is)
    (case k28 => k_is)
    (case a29 => k_is)
    (case l29 => k_is)
    (case c29 => k_is)
    (case k29 => k_is)
    (case a30 => k_is)
    (case l30 => k_is)
    (case c30 => k_is)
    (case k30 => k_is)
    (case a31 => k_is)
    (case l31 => k_is)
    (case c31 => k_is)
    (case k31 => k_is)
    (case a32 => k_is)
    (case l32 => k_is)
    (case c32 => k_is)
    (case k32 => k_is)
    (case a33 => k_is)
    (case l33 => k_is)
    (case c33 => k_is)
    (case k33 => k_is)
    (case a34 => k_is)
    (case l34 => k_is)
    (case c34 => k_is)
    (case k34 => k_is)
    (case a35 => k_is)
    (case l35 => k_is)
    (case c35 => k_is)
    (case k35 => k_is)
    (case a36 => k_is)
    (case l36 => k_is)
    (case c36 => k_is)
    (case k36 => k_is)
    (case a37 => k_is)
    (case l37 => k_is)
    (case c37 => k_is)
    (case k37 => k_is)
    (case a38 => k_is)
    (case l38 => k_is)
    (case c38 => k_is)
    (case k38 => k_is)
    (case a39 => k_is)
    (case l39 => k_is)
    (case c39 => k_is)
    (case k39 => k_is)
    (case a40 => k_is)
    (case l40 => k_is)
    (case c40 => k_is)
    (case k40 => k_is)
    (case a41 => k_is)
    (case l41 => k_is)
    (case c41 => k_is)
    (case k41 => k_is)
    (case a42 => k_is)
    (case l42 => k_is)
    (case c42 => k_is)
    (case k42 => k_is)
    (case a43 => k_is)
    (case l43 => k_is)
    (case c43 => k_is)
    (case k43 => k_is)
    (case a44 => k_is)
    (case l44 => k_is)
    (case c44 => k_is)
    (case k44 => k_is)
#print axioms PySem.Challenge.cw_pointsat_k11_whole_scripts_that_do_moves_holds

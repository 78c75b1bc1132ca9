import PyProof.Rows.All
import Wide.All
import OpenK.AllK
import Wide.FinOn
import HandS.ForMost
import HandS.Exc
import HandS.ExcOwn
import HandS.WordsExc
import HandS.TupAny
import KE.KDictKeyed
import HandS.IsInst
import HandS.Conv
import HandS.TupMul
import HandS.TupLe
import HandS.Style
import HandS.Zip
import KE.SortData
import HandS.SortOrd
import HandS.Strs
import HandS.SetFor
import HandS.Small
import HandS.More
import HandS.Sort
import KE.KDictList
import KE.GoesMore
import KE.KDictPairs
import PyProof.Draws
import KE.KDictZip
import KE.KDictDisplayH
import KE.KDictWalk
import HandS.DictTup
import HandS.DictComp
import PySem.Challenge.RW_pointsat_k10_whole_moves_by_single_steps
set_option Elab.async false
set_option linter.all false
set_option maxRecDepth 100000
set_option maxHeartbeats 8000000
/-! The D layer, 1: data, what represents it in the abstract heap, states of slots, readings that compute. -/
namespace DL
open PySem L2

/-- Python data by value; ref: an object by its address; dcn: a dict whose keys are (nested) tuples; ins: an instance that stays as it is; scr: the script; prt: a pair that a walk makes on the way -/
inductive D where
  | non | bl (b : Bool) | int (i : Int) | str (s : Str) | ref (a : Addr)
  | tup (xs : List D) | prt (xs : List D) | lst (xs : List D) | dct (kvs : List (D × D)) | dcn (kvs : List (D × D)) | ty (n : String) | ins (C : Addr) (fs : List (Str × D)) | scr (ns : List Int)

def keyD : D → Option Key
  | .int i => some (.inl i)
  | .str s => some (.inr s)
  | _ => none

mutual
def nkD : D → Option NestedKey
  | .non => some .none
  | .bl b => some (.num (if b then 1 else 0))
  | .int i => some (.num i)
  | .tup ds => (nksD ds).map .tup
  | _ => none
def nksD : List D → Option (List NestedKey)
  | [] => some []
  | d :: ds => match nkD d, nksD ds with
    | some k, some ks => some (k :: ks)
    | _, _ => none
end

/-- a key that is not too deep -/
def nk8 (d : D) : Option NestedKey := match nkD d with
  | some k => if k.depth ≤ 8 then some k else none
  | none => none
theorem nk8_inv {d : D} {k : NestedKey} (h : nk8 d = some k) : nkD d = some k ∧ k.depth ≤ 8 := by
  unfold nk8 at h
  cases e : nkD d with
  | none => rw [e] at h; cases h
  | some k' =>
    rw [e] at h
    simp only at h
    split at h
    · rename_i q
      cases h
      exact ⟨rfl, q⟩
    · cases h
mutual
/-- the hash of a key without texts -/
def hashN : NestedKey → Int
  | .none => reduceHash 0xFCA86420
  | .num i => hashInt i
  | .text _ => 0
  | .tup ks => reduceHash (Builtin.Tuple.tupleHashOf (hashNs ks))
def hashNs : List NestedKey → List Int
  | [] => []
  | k :: ks => hashN k :: hashNs ks
end
mutual
theorem nk_hash (w : World) : ∀ {d : D} {k : NestedKey}, nkD d = some k → k.hash w = hashN k
  | .non, k, h => by unfold nkD at h; cases h; rfl
  | .bl b, k, h => by unfold nkD at h; cases h; rfl
  | .int i, k, h => by unfold nkD at h; cases h; rfl
  | .tup ds, k, h => by
    unfold nkD at h
    cases e : nksD ds with
    | none => rw [e] at h; cases h
    | some ks =>
      rw [e] at h; cases h
      unfold NestedKey.hash hashN
      rw [nks_hash w e]
  | .str _, _, h => by unfold nkD at h; cases h
  | .ref _, _, h => by unfold nkD at h; cases h
  | .prt _, _, h => by unfold nkD at h; cases h
  | .lst _, _, h => by unfold nkD at h; cases h
  | .dct _, _, h => by unfold nkD at h; cases h
  | .dcn _, _, h => by unfold nkD at h; cases h
  | .ty _, _, h => by unfold nkD at h; cases h
  | .ins _ _, _, h => by unfold nkD at h; cases h
  | .scr _, _, h => by unfold nkD at h; cases h
theorem nks_hash (w : World) : ∀ {ds : List D} {ks : List NestedKey}, nksD ds = some ks → NestedKey.hashes w ks = hashNs ks
  | [], ks, h => by unfold nksD at h; cases h; rfl
  | d :: ds, ks, h => by
    unfold nksD at h
    cases e1 : nkD d with
    | none => rw [e1] at h; cases h
    | some k =>
      cases e2 : nksD ds with
      | none => rw [e1, e2] at h; cases h
      | some kr =>
        rw [e1, e2] at h; cases h
        unfold NestedKey.hashes hashNs
        rw [nk_hash w e1, nks_hash w e2]
end
/-- an entry of a dict with tuple keys: the key, its address, the value -/
abbrev NEnt := NestedKey × Addr × V
/-- the object at a is a dict of these entries -/
def dnP (a : Addr) (es : List NEnt) (h : Heap) : Prop := (a == sysModules) = false ∧ es.length ≤ sizeLine ∧ (es.map (·.1)).Nodup ∧
  ∃ (o : Obj) (ents : Array DictEntry) (ep : Nat) (us : List Value), h.get? a = some o ∧ o.ExactDict ∧ o.data = .dict ents ep ∧ Vals (es.map (·.2.2)) us ∧
    ents.toList = List.zipWith (fun (e : NEnt) u => (⟨hashN e.1, .ref e.2.1, u⟩ : DictEntry)) es us
def dnO (a : Addr) (es : List NEnt) : HO := .ext (dnP a es)

/-- a tuple that is a plain one (no namespace of its own): locked with its object, or written -/
def ExT (K : PySem.W.Frag) (H : Hp) (a : Addr) (vs : List V) : Prop := (∃ o, H a = some (.frz o (.tup vs)) ∧ o.dict = none) ∨
  ∃ (o : Obj) (its : Array Value) (n : Nat), K.lookup a = some o ∧ o.cls = .type "tuple" ∧ o.dict = none ∧ o.data = .seq its n ∧ its.size ≤ sizeLine ∧ Vals vs its.toList
theorem ExT.sqT {K : PySem.W.Frag} {H : Hp} {a : Addr} {vs : List V} (h : ExT K H a vs) : SqT K H a vs := by
  rcases h with ⟨o, h, _⟩ | ⟨o, its, n, h1, h2, _, h3, h4, h5⟩
  · exact .inl (.inr ⟨o, h⟩)
  · exact .inr ⟨o, its, n, h1, h2, h3, h4, h5⟩
mutual
def Rep (K : PySem.W.Frag) (H : Hp) : D → V → Prop
  | .non, v => v = .non
  | .bl b, v => v = .bl b
  | .int i, v => v = .int i
  | .str s, v => v = .str s
  | .ref a, v => v = .ref a
  | .ty n, v => v = .ty n
  | .tup ds, v => ∃ a vs, v = .ref a ∧ ExT K H a vs ∧ Reps K H ds vs
  | .prt ds, v => ∃ a vs, v = .ref a ∧ SqT K H a vs ∧ Reps K H ds vs
  | .lst ds, v => ∃ a vs, v = .ref a ∧ H a = some (.lst vs) ∧ Reps K H ds vs
  | .dct kvs, v => ∃ a o vs, v = .ref a ∧ H a = some (.frz o (.dK vs)) ∧ Repk K H kvs vs
  | .dcn kvs, v => ∃ a o es, v = .ref a ∧ H a = some (.frz o (dnO a es)) ∧ Repn K H kvs es
  | .ins C fs, v => ∃ a dx vs, v = .ref a ∧ H a = some (.ins C dx vs) ∧ Repf K H fs vs
  | .scr ns, v => ∃ a, v = .ref a ∧ SqL K H a (ns.map V.int)
def Reps (K : PySem.W.Frag) (H : Hp) : List D → List V → Prop
  | [], vs => vs = []
  | d :: ds, vs => ∃ v r, vs = v :: r ∧ Rep K H d v ∧ Reps K H ds r
def Repk (K : PySem.W.Frag) (H : Hp) : List (D × D) → List (Key × V) → Prop
  | [], vs => vs = []
  | (k, d) :: ds, vs => ∃ k' v r, vs = (k', v) :: r ∧ keyD k = some k' ∧ Rep K H d v ∧ Repk K H ds r
def Repn (K : PySem.W.Frag) (H : Hp) : List (D × D) → List NEnt → Prop
  | [], es => es = []
  | (k, d) :: ds, es => ∃ nk b v r, es = (nk, b, v) :: r ∧ nk8 k = some nk ∧ Rep K H k (.ref b) ∧ Rep K H d v ∧ Repn K H ds r
def Repf (K : PySem.W.Frag) (H : Hp) : List (Str × D) → List (Str × V) → Prop
  | [], vs => vs = []
  | (k, d) :: ds, vs => ∃ v r, vs = (k, v) :: r ∧ Rep K H d v ∧ Repf K H ds r
end

section
variable {K : PySem.W.Frag} {H H' : Hp}
theorem Same.rd (e : Same H H') {a : Addr} {u : HO} (h : Rd H a u) : Rd H' a u := by
  rcases h with h | ⟨o, h⟩
  · exact .inl (e _ _ h)
  · exact .inr ⟨o, e _ _ h⟩
theorem Same.sqT (e : Same H H') {a : Addr} {xs : List V} (h : SqT K H a xs) : SqT K H' a xs := by
  rcases h with h | h
  · exact .inl (Same.rd e h)
  · exact .inr h
theorem Same.sqL (e : Same H H') {a : Addr} {xs : List V} (h : SqL K H a xs) : SqL K H' a xs := by
  rcases h with h | h
  · exact .inl (Same.rd e h)
  · exact .inr h
theorem Same.exT (e : Same H H') {a : Addr} {xs : List V} (h : ExT K H a xs) : ExT K H' a xs := by
  rcases h with ⟨o, h, ho⟩ | h
  · exact .inl ⟨o, e _ _ h, ho⟩
  · exact .inr h
mutual
theorem Rep.mono (e : Same H H') : ∀ {d : D} {v : V}, Rep K H d v → Rep K H' d v
  | .non, _, h => h
  | .bl _, _, h => h
  | .int _, _, h => h
  | .str _, _, h => h
  | .ref _, _, h => h
  | .ty _, _, h => h
  | .tup ds, v, h => by
    unfold Rep at h ⊢
    obtain ⟨a, vs, h1, h2, h3⟩ := h
    exact ⟨a, vs, h1, Same.exT e h2, Reps.mono e h3⟩
  | .prt ds, v, h => by
    unfold Rep at h ⊢
    obtain ⟨a, vs, h1, h2, h3⟩ := h
    exact ⟨a, vs, h1, Same.sqT e h2, Reps.mono e h3⟩
  | .lst ds, v, h => by
    unfold Rep at h ⊢
    obtain ⟨a, vs, h1, h2, h3⟩ := h
    exact ⟨a, vs, h1, e _ _ h2, Reps.mono e h3⟩
  | .dct ds, v, h => by
    unfold Rep at h ⊢
    obtain ⟨a, o, vs, h1, h2, h3⟩ := h
    exact ⟨a, o, vs, h1, e _ _ h2, Repk.mono e h3⟩
  | .dcn ds, v, h => by
    unfold Rep at h ⊢
    obtain ⟨a, o, vs, h1, h2, h3⟩ := h
    exact ⟨a, o, vs, h1, e _ _ h2, Repn.mono e h3⟩
  | .ins C ds, v, h => by
    unfold Rep at h ⊢
    obtain ⟨a, dx, vs, h1, h2, h3⟩ := h
    exact ⟨a, dx, vs, h1, e _ _ h2, Repf.mono e h3⟩
  | .scr ns, v, h => by
    unfold Rep at h ⊢
    obtain ⟨a, h1, h2⟩ := h
    exact ⟨a, h1, Same.seq e h2⟩
theorem Reps.mono (e : Same H H') : ∀ {d : List D} {v : List V}, Reps K H d v → Reps K H' d v
  | [], _, h => h
  | d :: ds, v, h => by
    unfold Reps at h ⊢
    obtain ⟨a, vs, h1, h2, h3⟩ := h
    exact ⟨a, vs, h1, Rep.mono e h2, Reps.mono e h3⟩
theorem Repk.mono (e : Same H H') : ∀ {d : List (D × D)} {v : List (Key × V)}, Repk K H d v → Repk K H' d v
  | [], _, h => h
  | (k, d) :: ds, v, h => by
    unfold Repk at h ⊢
    obtain ⟨k', a, vs, h1, h2, h3, h4⟩ := h
    exact ⟨k', a, vs, h1, h2, Rep.mono e h3, Repk.mono e h4⟩
theorem Repn.mono (e : Same H H') : ∀ {d : List (D × D)} {v : List NEnt}, Repn K H d v → Repn K H' d v
  | [], _, h => h
  | (k, d) :: ds, v, h => by
    unfold Repn at h ⊢
    obtain ⟨nk, b, v, r, h1, h2, h4, h5, h6⟩ := h
    exact ⟨nk, b, v, r, h1, h2, Rep.mono e h4, Rep.mono e h5, Repn.mono e h6⟩
theorem Repf.mono (e : Same H H') : ∀ {d : List (Str × D)} {v : List (Str × V)}, Repf K H d v → Repf K H' d v
  | [], _, h => h
  | (k, d) :: ds, v, h => by
    unfold Repf at h ⊢
    obtain ⟨a, vs, h1, h2, h3⟩ := h
    exact ⟨a, vs, h1, Rep.mono e h2, Repf.mono e h3⟩
end
end

theorem rdSeq {K : PySem.W.Frag} {Hf H : Hp} {a : Addr} {vs : List V} (s : Same Hf H) (g : Rd Hf a (.lst vs)) : SqL K H a vs := .inl (Same.rd s g)

/-! ### slots -/
/-- u: no value; v: data that stays; o: a list or dict of this frame's own; p: one that a caller lent to be changed -/
inductive Sl where
  | u | v (d : D) | o (d : D) | p (d : D)
abbrev Ro := List Sl

/-- the owned object at a -/
def RepO (K : PySem.W.Frag) (Hf H : Hp) : D → Addr → Prop
  | .lst ds, a => ∃ vs, H a = some (.lst vs) ∧ Reps K Hf ds vs
  | .dct kvs, a => ∃ vs, H a = some (.dK vs) ∧ Repk K Hf kvs vs
  | .dcn kvs, a => ∃ es, H a = some (dnO a es) ∧ Repn K Hf kvs es
  | _, _ => False
theorem RepO.mono {K : PySem.W.Frag} {Hf Hf' H H' : Hp} {d : D} {a : Addr} (e : Same Hf Hf') (ea : H' a = H a) (h : RepO K Hf H d a) : RepO K Hf' H' d a := by
  cases d with
  | lst ds => obtain ⟨vs, h1, h2⟩ := h; exact ⟨vs, by rw [ea]; exact h1, Reps.mono e h2⟩
  | dct ds => obtain ⟨vs, h1, h2⟩ := h; exact ⟨vs, by rw [ea]; exact h1, Repk.mono e h2⟩
  | dcn ds => obtain ⟨vs, h1, h2⟩ := h; exact ⟨vs, by rw [ea]; exact h1, Repn.mono e h2⟩
  | _ => exact h.elim
theorem RepO.there {K : PySem.W.Frag} {Hf H : Hp} {d : D} {a : Addr} (h : RepO K Hf H d a) : H a ≠ none := by
  cases d with
  | lst ds => obtain ⟨vs, h1, h2⟩ := h; rw [h1]; simp
  | dct ds => obtain ⟨vs, h1, h2⟩ := h; rw [h1]; simp
  | dcn ds => obtain ⟨vs, h1, h2⟩ := h; rw [h1]; simp
  | _ => exact h.elim

/-- slot i of a state holds an owned object at a -/
def OwnAt (σ : L2.St) (ρ : Ro) (i : Nat) (a : Addr) : Prop := σ[i]? = some (some (V.ref a)) ∧ ∃ d, ρ[i]? = some (Sl.o d) ∨ ρ[i]? = some (Sl.p d)
def OA (σ : L2.St) (ρ : Ro) (a : Addr) : Prop := ∃ i, OwnAt σ ρ i a
def OO (σ : L2.St) (ρ : Ro) (a : Addr) : Prop := ∃ (i : Nat) (d : D), σ[i]? = some (some (V.ref a)) ∧ ρ[i]? = some (Sl.o d)
theorem OO.oa {σ : L2.St} {ρ : Ro} {a : Addr} (h : OO σ ρ a) : OA σ ρ a := let ⟨i, d, h1, h2⟩ := h; ⟨i, h1, d, .inl h2⟩

structure SR (K : PySem.W.Frag) (Hf : Hp) (σ : L2.St) (ρ : Ro) (H : Hp) : Prop where
  sub : Same Hf H
  len : σ.length = ρ.length
  val : ∀ (i : Nat) (d : D), ρ[i]? = some (Sl.v d) → ∃ v, σ[i]? = some (some v) ∧ Rep K Hf d v
  own : ∀ (i : Nat) (d : D), (ρ[i]? = some (Sl.o d) ∨ ρ[i]? = some (Sl.p d)) → ∃ a, σ[i]? = some (some (V.ref a)) ∧ Hf a = none ∧ RepO K Hf H d a
  inj : ∀ (i j : Nat) (a : Addr), OwnAt σ ρ i a → OwnAt σ ρ j a → i = j

theorem SR.oa {K : PySem.W.Frag} {Hf H : Hp} {σ : L2.St} {ρ : Ro} (S : SR K Hf σ ρ H) {a : Addr} (h : OA σ ρ a) : Hf a = none ∧ H a ≠ none := by
  obtain ⟨i, h1, d, h2⟩ := h
  obtain ⟨b, e, n, r⟩ := S.own i d h2
  rw [h1] at e
  cases e
  exact ⟨n, r.there⟩

/-- from one state to a later one -/
structure Stp (Hf : Hp) (σ : L2.St) (ρ : Ro) (H : Hp) (Hf' : Hp) (σ' : L2.St) (ρ' : Ro) (H' : Hp) : Prop where
  fz : Same Hf Hf'
  keep : ∀ b o, H b = some o → ¬ OA σ ρ b → H' b = some o
  there : ∀ b, H b ≠ none → H' b ≠ none
  out : ∀ b, H b ≠ none → Hf b = none → ¬ OO σ ρ b → Hf' b = none
  pin : ∀ (i : Nat) (d : D), ρ[i]? = some (Sl.p d) → (∃ d', ρ'[i]? = some (Sl.p d')) ∧ σ'[i]? = σ[i]?
  pin' : ∀ (i : Nat) (d : D), ρ'[i]? = some (Sl.p d) → ∃ d', ρ[i]? = some (Sl.p d')
  oo : ∀ b, OO σ' ρ' b → H b = none ∨ OO σ ρ b
  len : ρ'.length = ρ.length

theorem Stp.refl {Hf H : Hp} {σ : L2.St} {ρ : Ro} : Stp Hf σ ρ H Hf σ ρ H :=
  ⟨fun _ _ h => h, fun _ _ h _ => h, fun _ h => h, fun _ _ h _ => h, fun i d h => ⟨⟨d, h⟩, rfl⟩, fun i d h => ⟨d, h⟩, fun _ h => .inr h, rfl⟩
theorem Stp.oa {Hf H Hf' H' : Hp} {σ σ' : L2.St} {ρ ρ' : Ro} (a : Stp Hf σ ρ H Hf' σ' ρ' H') {b : Addr} (h : OA σ' ρ' b) : H b = none ∨ OA σ ρ b := by
  obtain ⟨i, h1, d, h2⟩ := h
  rcases h2 with h2 | h2
  · rcases a.oo b ⟨i, d, h1, h2⟩ with h | h
    · exact .inl h
    · exact .inr h.oa
  · obtain ⟨d', h3⟩ := a.pin' i d h2
    refine .inr ⟨i, ?_, d', .inr h3⟩
    rw [← (a.pin i d' h3).2]
    exact h1
theorem Stp.trans {Hf H Hf1 H1 Hf2 H2 : Hp} {σ σ1 σ2 : L2.St} {ρ ρ1 ρ2 : Ro} (a : Stp Hf σ ρ H Hf1 σ1 ρ1 H1) (b : Stp Hf1 σ1 ρ1 H1 Hf2 σ2 ρ2 H2) : Stp Hf σ ρ H Hf2 σ2 ρ2 H2 where
  fz := Same.trans a.fz b.fz
  keep := fun c o h n => b.keep c o (a.keep c o h n) fun q => by
    rcases a.oa q with q | q
    · rw [h] at q; cases q
    · exact n q
  there := fun c h => b.there c (a.there c h)
  out := fun c h h1 h2 => b.out c (a.there c h) (a.out c h h1 h2) fun q => by
    rcases a.oo c q with q | q
    · exact h q
    · exact h2 q
  pin := fun i d h => by
    obtain ⟨⟨d', h1⟩, h2⟩ := a.pin i d h
    obtain ⟨h3, h4⟩ := b.pin i d' h1
    exact ⟨h3, h4.trans h2⟩
  pin' := fun i d h => by
    obtain ⟨d', h1⟩ := b.pin' i d h
    exact a.pin' i d' h1
  oo := fun c h => by
    rcases b.oo c h with q | q
    · left
      cases e : H c with
      | none => rfl
      | some o => exact absurd q (a.there c (by rw [e]; simp))
    · exact a.oo c q
  len := b.len.trans a.len

/-! ### results -/
/-- an exception: its class's name, its field -/
structure Exc where
  cls : Str
  fld : Option (Str × D)
inductive Res (α : Type) where
  | bad | ok (a : α) (ρ : Ro) | err (x : Exc)
abbrev EM (α : Type) := Ro → Res α
def Res.bind {α β : Type} (r : Res α) (f : α → Ro → Res β) : Res β := match r with
  | .bad => .bad
  | .ok a ρ => f a ρ
  | .err x => .err x
@[reducible] def bindM {α β : Type} (m : EM α) (f : α → EM β) : EM β := fun ρ => (m ρ).bind f
def EX (K : PySem.W.Frag) (mg : Str → Option Value) (x : Exc) (c : Value) (d : Option Addr) (H : Hp) : Prop :=
  ∃ C, mg x.cls = some (.ref C) ∧ c = .ref C ∧ match x.fld with
    | none => d = none
    | some (f, y) => ∃ a v, d = some a ∧ H a = some (.xd [(f, v)]) ∧ Rep K H y v

/-- what is asked of a result -/
def Wp (K : PySem.W.Frag) (mg : Str → Option Value) (W : XK) {α : Type} (r : Res α) (k : α → Ro → Prop) : Prop :=
  match r with
  | .bad => False
  | .ok a ρ' => k a ρ'
  | .err x => ∀ c dd H', EX K mg x c dd H' → W c dd H'
section
variable {K : PySem.W.Frag} {mg : Str → Option Value} {W : XK} {α β : Type}
theorem Wp.mono {r : Res α} {k k' : α → Ro → Prop} (h : Wp K mg W r k) (q : ∀ a ρ', k a ρ' → k' a ρ') : Wp K mg W r k' := by
  cases r with
  | bad => exact h
  | ok a ρ' => exact q a ρ' h
  | err x => exact h
theorem Wp.bind {m : EM α} {f : α → EM β} {ρ : Ro} {k : β → Ro → Prop} (h : Wp K mg W (bindM m f ρ) k) : Wp K mg W (m ρ) fun a ρ1 => Wp K mg W (f a ρ1) k := by
  unfold bindM at h
  cases e : m ρ with
  | bad => rw [e] at h; exact h
  | ok a ρ' => rw [e] at h; exact h
  | err x => rw [e] at h; exact h
end

/-- an expression's reading computes data -/
def TD (K : PySem.W.Frag) (mg : Str → Option Value) (W : XK) (t : TE) (f : EM D) : Prop :=
  ∀ Hf σ ρ H, SR K Hf σ ρ H → ∀ Q : VK, Wp K mg W (f ρ) (fun d ρ' => ∀ v Hf' H', Stp Hf σ ρ H Hf' σ ρ' H' → SR K Hf' σ ρ' H' → Rep K Hf' d v → Q v H') → t σ H Q
/-- a new list or dict, of nobody's yet -/
def TF (K : PySem.W.Frag) (mg : Str → Option Value) (W : XK) (t : TE) (f : EM D) : Prop :=
  ∀ Hf σ ρ H, SR K Hf σ ρ H → ∀ Q : VK, Wp K mg W (f ρ) (fun d ρ' => ∀ a Hf' H', Stp Hf σ ρ H Hf' σ ρ' H' → SR K Hf' σ ρ' H' → H a = none → Hf' a = none → RepO K Hf' H' d a → ¬ OA σ ρ' a → Q (.ref a) H') → t σ H Q
/-- a test -/
def TB (K : PySem.W.Frag) (mg : Str → Option Value) (W : XK) (t : TT) (f : EM Bool) : Prop :=
  ∀ Hf σ ρ H, SR K Hf σ ρ H → ∀ Q : Bool → Hp → Prop, Wp K mg W (f ρ) (fun b ρ' => ∀ Hf' H', Stp Hf σ ρ H Hf' σ ρ' H' → SR K Hf' σ ρ' H' → Q b H') → t σ H Q
structure PD (X : Cx) (W : XK) (e : Expr) (f : EM D) : Prop where
  ex : ∃ t, PE X e t ∧ TD X.K X.mg W t f
structure PF (X : Cx) (W : XK) (e : Expr) (f : EM D) : Prop where
  ex : ∃ t, PE X e t ∧ TF X.K X.mg W t f
structure PB (X : Cx) (W : XK) (e : Expr) (f : EM Bool) : Prop where
  ex : ∃ t, PT X e t ∧ TB X.K X.mg W t f
end DL

/-! The D layer: new tuples are locked with their object (so it is known that they are plain tuples, without a namespace of their own). -/
namespace DL
open PySem L2 PySem.Spec PyProof.Rows HT

section
variable {X : Cx} {es : List Expr} {t : TA} {pos : Pos}
def tTupX (t : TA) : TE := fun σ H Q => t σ H fun xs H1 => xs.length ≤ sizeLine ∧ ∀ p o, H1 p = none → o.dict = none → Q (.ref p) (upd H1 p (.frz o (.tup xs)))
theorem pe_tupX {x1} (h : PA X es t) : PE X (.Tuple es x1 pos) (tTupX t) := by
  refine ⟨fun pins s σ H Q I hq => ?_⟩
  refine wpAny_Tuple_spliced (thn (h.run pos pins s σ H _ I hq) fun us s1 ⟨xs, H1, I1, r, z, q⟩ => ⟨by rw [← r.length]; exact z, ?_⟩)
  have hf : H1 s1.heap.objs.size = none := I1.hok.fresh (Nat.le_refl _)
  refine ⟨.ref s1.heap.objs.size, upd H1 s1.heap.objs.size (.frz _ (.tup xs)), I1.laid (t' := s1.toks) (fun b u e => Heap.get?_push_of_some _ e) (Nat.le_refl _) ⟨Heap.get?_push_size _ rfl, z, us, r, ⟨_, Heap.get?_push_size _ rfl, rfl, _, rfl⟩⟩, rfl, q _ _ hf rfl⟩
/-- t + u -/
def rCatX (K : PySem.W.Frag) : R2 := fun x y H Q => ∃ a b xs ys, x = .ref a ∧ y = .ref b ∧ SqT K H a xs ∧ SqT K H b ys ∧ xs.length + ys.length ≤ sizeLine ∧
  (xs = [] → Q (.ref b) H) ∧ (xs ≠ [] → ys = [] → Q (.ref a) H) ∧ (xs ≠ [] → ys ≠ [] → ∀ p o, H p = none → o.dict = none → Q (.ref p) (upd H p (.frz o (.tup (xs ++ ys)))))
theorem nil_iffV {xs : List V} {us : List Value} (r : Vals xs us) : xs = [] ↔ us = [] := by
  cases r with
  | nil => simp
  | cons _ _ => simp
theorem op_catX : OpR X (binaryOp .Add) (rCatX X.K) := by
  intro pins s σ H x y v u Q I rx ry h
  obtain ⟨a, b, xs, ys, rfl, rfl, ha, hb, hz, q0, q1, q2⟩ := h
  cases rx
  cases ry
  obtain ⟨its, r1, p1, _⟩ := I.tuple ha
  obtain ⟨its2, r2, p2, _⟩ := I.tuple hb
  by_cases hx : xs = []
  · subst hx
    cases r1
    exact cat_tup0 p1 p2 ⟨.ref b, H, I, rfl, q0 rfl⟩
  · refine HT.cat_tup p1 p2 (fun z => hx ((nil_iffV r1).mpr z)) (fun z => ⟨.ref a, H, I, rfl, q1 hx ((nil_iffV r2).mpr z)⟩) (fun z => ?_) (by rw [← r1.length, ← r2.length]; exact hz)
    refine ⟨.ref s.heap.objs.size, _, I.laid (t' := s.toks) (o := .frz _ (.tup (xs ++ ys))) (fun b ob q => Heap.get?_push_of_some _ q) (Nat.le_refl _) ⟨Heap.get?_push_size _ rfl, ?_⟩, rfl, q2 hx (fun w => z ((nil_iffV r2).mp w)) _ _ (I.hok.fresh (Nat.le_refl _)) rfl⟩
    exact ⟨by rw [List.length_append]; exact hz, _, r1.append r2, IsTup.new _ _⟩
/-- t[lo:hi] -/
def rSlTX (K : PySem.W.Frag) : V → Option Int → Option Int → Hp → VK → Prop := fun x lo hi H Q => ∃ a xs, x = .ref a ∧ SqT K H a xs ∧
  (HT.sIx xs.length 0 lo = 0 ∧ HT.sIx xs.length xs.length hi = xs.length → Q (.ref a) H) ∧ (¬ (HT.sIx xs.length 0 lo = 0 ∧ HT.sIx xs.length xs.length hi = xs.length) → ∀ p o, H p = none → o.dict = none → Q (.ref p) (upd H p (.frz o (.tup (cutV xs lo hi)))))
theorem sl_tupX : SlR X (rSlTX X.K) := by
  intro pins s σ H x v vl vu lo hi sl Q I rx hs pl pu h
  obtain ⟨a, xs, rfl, hx, q1, q2⟩ := h
  cases rx
  obtain ⟨its, r, ht, hz⟩ := I.tuple hx
  have hlen : its.toArray.size = xs.length := by rw [List.size_toArray]; exact r.length.symm
  by_cases hw : HT.sIx xs.length 0 lo = 0 ∧ HT.sIx xs.length xs.length hi = xs.length
  · refine ⟨"tuple", _, PyProof.Rows.slot_tuple_getitem.lookup, ht.typeIs, ?_⟩
    exact getItem_tuple_whole ht hs pl pu (by rw [hlen]; exact hw) ⟨.ref a, H, I, rfl, q1 hw⟩
  · refine ⟨"tuple", _, PyProof.Rows.slot_tuple_getitem.lookup, ht.typeIs, ?_⟩
    refine HT.getItem_tuple_cut ht hs pl pu (by rw [hlen]; exact hw) ?_ (by rw [hlen]; exact hz)
    rw [hlen]
    refine ⟨.ref s.heap.objs.size, _, I.laid (t' := s.toks) (o := .frz _ (.tup (cutV xs lo hi))) (fun b ob q => Heap.get?_push_of_some _ q) (Nat.le_refl _) ⟨Heap.get?_push_size _ rfl, ?_⟩, rfl, q2 hw _ _ (I.hok.fresh (Nat.le_refl _)) rfl⟩
    exact ⟨Nat.le_trans (cutV_length xs lo hi) hz, _, (r.drop (HT.sIx xs.length 0 lo)).take (HT.sIx xs.length xs.length hi - HT.sIx xs.length 0 lo), IsTup.new _ _⟩
/-- tuple(x) of a list or tuple -/
def rTupX (K : PySem.W.Frag) : List V → Hp → VK → Prop := fun xs H Q => ∃ p ys, xs = [.ref p] ∧ ((SqL K H p ys ∧ ∀ l o, H l = none → o.dict = none → Q (.ref l) (upd H l (.frz o (.tup ys)))) ∨ (SqT K H p ys ∧ Q (.ref p) H))
theorem call_tupX : CallR X (.type "tuple") (rTupX X.K) := by
  intro pins s σ H xs us Q I r h
  obtain ⟨p, ys, rfl, h⟩ := h
  obtain ⟨u, rfl, rx⟩ := vals1 r
  cases rx
  rcases h with ⟨hq, q⟩ | ⟨hq, q⟩
  · obtain ⟨its, r', pl, hz⟩ := I.list hq
    have hlen := r'.length
    refine call_tuple_list pl.isList (fun h' kp => ?_) (by simp only [List.size_toArray] <;> omega)
    have I1 : Inv X pins σ H { s with heap := h' } := I.kept (t' := s.toks) kp
    exact ⟨.ref h'.objs.size, _, I1.laid (t' := s.toks) (o := .frz _ (.tup ys)) (fun b o e => Heap.get?_push_of_some _ e) (Nat.le_refl _) ⟨Heap.get?_push_size _ rfl, hz, its, r', IsTup.new _ _⟩, rfl, q _ _ (I1.hok.fresh (Nat.le_refl _)) rfl⟩
  · obtain ⟨its, r', pl, hz⟩ := I.tuple hq
    exact call_tuple_same pl ⟨.ref p, H, I, rfl, q⟩
/-- tuple(range(..)) -/
def tTupRgX (te : L2.St → Hp → (Int → Int → Hp → Prop) → Prop) : TE := fun σ H Q => te σ H fun a b H1 => RgOk a b ∧ ∀ q o, H1 q = none → o.dict = none → Q (.ref q) (upd H1 q (.frz o (.tup (rgV a b))))
theorem pe_tupRgX {e : Expr} {te : L2.St → Hp → (Int → Int → Hp → Prop) → Prop} {p pos : Pos} (hc : X.calm = true) (hg : Gl X "tuple") (hm : X.mg "tuple" = none) (he : PRg X e te) (na : starEach [e] X.env = (false, eval e X.env) :: starEach [] X.env := by rfl) : PE X (.Call (.Name "tuple" p) [e] [] pos) (tTupRgX te) := by
  refine ⟨fun pins s σ H Q I h => ?_⟩
  refine Call_ (ld_blt I hg hm boot_tuple (PyProof.Rows.callWith_type1 (args_cons (thn (he pins s σ H _ I h) fun x s1 ⟨r, a, b, t, u, v, H1, ex, hr, I1, ok, q⟩ => args_nil ?_) na) na))
  subst ex
  obtain ⟨b1, b2, b3, b4, b5⟩ := ok
  refine call_tuple_range (n := (b - a).toNat) (I1.ok.hd hc) hr (small_one b1 b2 b3 b4) (rangeSize_nat a b) b5 fun h' tk acc hk hi => ?_
  have I2 : Inv X pins σ H1 { s1 with heap := h', toks := tk } := I1.kept hk
  refine ⟨.ref h'.objs.size, _, I2.laid (t' := tk) (o := .frz _ (.tup (rgV a b))) (fun c o e => Heap.get?_push_of_some _ e) (Nat.le_refl _) ⟨Heap.get?_push_size _ rfl, ?_, acc.toList, vals_rg hi, ?_⟩, rfl, q _ _ (I2.hok.fresh (Nat.le_refl _)) rfl⟩
  · rw [rgV_length, sizeLine_eq]; omega
  · rw [Array.toArray_toList]; exact IsTup.new _ _
/-- t * n, 2 ≤ n -/
def rRepX (K : PySem.W.Frag) : R2 := fun x y H Q => ∃ l k xs, x = .ref l ∧ y = .int k ∧ SqT K H l xs ∧ xs ≠ [] ∧ 2 ≤ k ∧ k ≤ 1000 ∧ xs.length ≤ 1000 ∧ ∀ p o, H p = none → o.dict = none → Q (.ref p) (upd H p (.frz o (.tup (List.replicate k.toNat xs).flatten)))
theorem op_repX : OpR X (binaryOp .Mult) (rRepX X.K) := by
  intro pins s σ H x y v u Q I rx ry h
  obtain ⟨l, k, xs, rfl, rfl, hT, hne, h1, h2, hz, q⟩ := h
  cases rx
  obtain ⟨t, rfl⟩ := ry
  obtain ⟨its, r, ⟨⟨cls, dd, data, sl⟩, ho, hc, n, hd⟩, hs⟩ := I.tuple hT
  simp only at hc hd
  subst hc hd
  have hle : its.length = xs.length := r.length.symm
  have hi : its.toArray.isEmpty = false := by
    cases its with
    | nil => exact absurd (List.eq_nil_of_length_eq_zero hle.symm) hne
    | cons a b => rfl
  have hm : ((its.toArray.size : Nat) : Int) * k ≤ 1000000 := by
    rw [List.size_toArray, hle]
    have a1 : ((xs.length : Nat) : Int) * k ≤ 1000 * k := Int.mul_le_mul_of_nonneg_right (by omega) (by omega)
    omega
  have fl : k.toNat * xs.length ≤ 1000 * 1000 := Nat.mul_le_mul (by omega) hz
  have c0 : (decide (k < -(2 ^ 63)) || decide (k ≥ 2 ^ 63)) = false := by rw [decide_eq_false (by omega), decide_eq_false (by omega)] <;> rfl
  have c1 : (its.toArray.isEmpty || k == 1) = false := by rw [hi, Bool.false_or]; exact beq_eq_false_iff_ne.mpr (by omega)
  have c2 : (decide (k ≤ 0) || its.toArray.isEmpty) = false := by rw [hi, Bool.or_false]; exact decide_eq_false (by omega)
  have c4 : Builtin.Tuple.tupleTooMany (((its.toArray.size : Nat) : Int) * k) = false := by
    unfold Builtin.Tuple.tupleTooMany
    rw [sizeLine_eq]
    exact decide_eq_false (by omega)
  refine wpAny_binaryOp_repeat_ref (T := "tuple") (U := "int") (by decide) ⟨_, ho, rfl⟩ (fun s' => PySem.typeIs_int s' k t) noFill_tuple_mul F.fills_int_mul F.slot_int_rmul repeat_tuple F.slot_int_index.lookup
    (call_meets F.slot_int_rmul (PySem.typeIs_int s k t) F.entry_int_rmul (F.args_int_rmul_2 _ _) (int_rmul_tuple k t l its.toArray n dd sl)
      ⟨ho, rfl, ⟨_, ho, rfl⟩, call_meets F.slot_tuple_mul ⟨_, ho, rfl⟩ F.entry_tuple_mul (F.args_tuple_mul_2 _ _) (tuple_mulW l its.toArray n dd sl k t c0 c1 c2 (by omega) c4 (by rw [size_rep, List.size_toArray, PyProof.Rows.lm_len_rep_flat, hle, sizeLine_eq]; omega)) ⟨ho, ?_⟩⟩)
  rw [size_rep]
  refine ⟨.ref s.heap.objs.size, _, I.laid (t' := s.toks) (o := .frz _ (.tup (List.replicate k.toNat xs).flatten)) (fun b ob q => Heap.get?_push_of_some _ q) (Nat.le_refl _) ⟨Heap.get?_push_size _ rfl, ?_⟩, rfl, q _ _ (I.hok.fresh (Nat.le_refl _)) rfl⟩
  exact ⟨by rw [PyProof.Rows.lm_len_rep_flat, sizeLine_eq]; omega, _, r.rep k.toNat, IsTup.new _ _⟩
end
end DL

/-! The D layer, 2: expressions. -/
namespace DL
open PySem L2

/-- a step that only lays new things -/
structure New (Hf H Hf' H' : Hp) : Prop where
  fz : Same Hf Hf'
  keep : Same H H'
  sub : Same Hf' H'
  out : ∀ b, H b ≠ none → Hf b = none → Hf' b = none
section
variable {K : PySem.W.Frag} {mg : Str → Option Value} {W : XK} {Hf H Hf' H' Hf1 H1 : Hp} {σ : L2.St} {ρ : Ro}
theorem New.refl (h : Same Hf H) : New Hf H Hf H := ⟨fun _ _ h => h, fun _ _ h => h, h, fun _ _ h => h⟩
theorem New.stp (n : New Hf H Hf' H') : Stp Hf σ ρ H Hf' σ ρ H' where
  fz := n.fz
  keep := fun b o h _ => n.keep b o h
  there := fun b h => by
    cases e : H b with
    | none => exact absurd e h
    | some o => rw [n.keep b o e]; simp
  out := fun b h h1 _ => n.out b h h1
  pin := fun i d h => ⟨⟨d, h⟩, rfl⟩
  pin' := fun i d h => ⟨d, h⟩
  oo := fun b h => .inr h
  len := rfl
theorem New.sr (n : New Hf H Hf' H') (S : SR K Hf σ ρ H) : SR K Hf' σ ρ H' where
  sub := n.sub
  len := S.len
  val := fun i d h => let ⟨v, h1, h2⟩ := S.val i d h; ⟨v, h1, Rep.mono n.fz h2⟩
  own := fun i d h => by
    obtain ⟨a, h1, h2, h3⟩ := S.own i d h
    have t := h3.there
    refine ⟨a, h1, n.out a t h2, RepO.mono n.fz ?_ h3⟩
    cases e : H a with
    | none => exact absurd e t
    | some o => exact n.keep a o e
  inj := S.inj
theorem same_upd {p : Addr} {o : HO} (h : H p = none) : Same H (upd H p o) := fun a u e => by
  rw [upd_ne (ne_of_none e h)]; exact e
/-- a new thing at p, known as data from then on -/
theorem New.lay {p : Addr} {o : HO} (s : Same Hf H) (h : H p = none) : New Hf H (upd Hf p o) (upd H p o) where
  fz := same_upd (by
    cases e : Hf p with
    | none => rfl
    | some u => rw [s p u e] at h; cases h)
  keep := same_upd h
  sub := fun a u e => by
    by_cases ha : a = p
    · subst ha; rw [upd_same] at e ⊢; exact e
    · rw [upd_ne ha] at e ⊢; exact s a u e
  out := fun b hb hf => by
    rw [upd_ne (fun e => hb (by rw [e]; exact h))]; exact hf
theorem New.trans (a : New Hf H Hf1 H1) (b : New Hf1 H1 Hf' H') : New Hf H Hf' H' where
  fz := Same.trans a.fz b.fz
  keep := Same.trans a.keep b.keep
  sub := b.sub
  out := fun c h h1 => b.out c (by
    cases e : H c with
    | none => exact absurd e h
    | some o => rw [a.keep c o e]; simp) (a.out c h h1)
theorem none_sub (s : Same Hf H) {p : Addr} (h : H p = none) : Hf p = none := by
  cases e : Hf p with
  | none => rfl
  | some u => rw [s p u e] at h; cases h

/-! ### values -/
/-- a two-place operation on data -/
def RD (K : PySem.W.Frag) (r : R2) (g : D → D → Option D) : Prop :=
  ∀ Hf H x y dx dy dz, Same Hf H → Rep K Hf dx x → Rep K Hf dy y → g dx dy = some dz → ∀ Q : VK, (∀ z H' Hf', New Hf H Hf' H' → Rep K Hf' dz z → Q z H') → r x y H Q
def RDU (K : PySem.W.Frag) (r : V → Hp → VK → Prop) (g : D → Option D) : Prop :=
  ∀ Hf H x dx dz, Same Hf H → Rep K Hf dx x → g dx = some dz → ∀ Q : VK, (∀ z H' Hf', New Hf H Hf' H' → Rep K Hf' dz z → Q z H') → r x H Q
/-- a call with data -/
def RDC (K : PySem.W.Frag) (r : List V → Hp → VK → Prop) (g : List D → Option D) : Prop :=
  ∀ Hf H xs ds dz, Same Hf H → Reps K Hf ds xs → g ds = some dz → ∀ Q : VK, (∀ z H' Hf', New Hf H Hf' H' → Rep K Hf' dz z → Q z H') → r xs H Q
/-- .. that gives a new list or dict -/
def RDCF (K : PySem.W.Frag) (r : List V → Hp → VK → Prop) (g : List D → Option D) : Prop :=
  ∀ Hf H xs ds dz, Same Hf H → Reps K Hf ds xs → g ds = some dz → ∀ Q : VK, (∀ a H' Hf', New Hf H Hf' H' → H a = none → Hf' a = none → RepO K Hf' H' dz a → Q (.ref a) H') → r xs H Q

/-! ### combinators -/
def liftO {α : Type} (o : Option α) : EM α := fun ρ => match o with
  | some a => .ok a ρ
  | none => .bad
def retE {α : Type} (a : α) : EM α := fun ρ => .ok a ρ
def varE (i : Nat) : EM D := fun ρ => match ρ[i]? with
  | some (.v d) => .ok d ρ
  | _ => .bad
def bin2 (g : D → D → Option D) (fa fb : EM D) : EM D := bindM fa fun x => bindM fb fun y => liftO (g x y)
def un1 (g : D → Option D) (fa : EM D) : EM D := bindM fa fun x => liftO (g x)
def toB (d : D) : Option Bool := match d with
  | .bl b => some b
  | _ => none
def testE (f : EM D) : EM Bool := bindM f fun d => liftO (toB d)


/-! ### readings -/
theorem TD.var {i : Nat} : TD K mg W (tVar i) (varE i) := by
  intro Hf σ ρ H S Q h
  unfold varE at h
  cases e : ρ[i]? with
  | none => rw [e] at h; exact h.elim
  | some x =>
    cases x with
    | v d =>
      rw [e] at h
      obtain ⟨v, h1, h2⟩ := S.val i d e
      exact ⟨v, h1, h v Hf H Stp.refl S h2⟩
    | _ => rw [e] at h; exact h.elim
theorem TD.con {d : D} {v : V} (r : ∀ Hf, Rep K Hf d v) : TD K mg W (tC v) (retE d) := fun Hf σ ρ H S Q h => h v Hf H Stp.refl S (r Hf)
theorem TD.op {r : R2} {g : D → D → Option D} {ta tb : TE} {fa fb : EM D} (hr : RD K r g) (ha : TD K mg W ta fa) (hb : TD K mg W tb fb) : TD K mg W (tOp r ta tb) (bin2 g fa fb) := by
  intro Hf σ ρ H S Q h
  refine ha Hf σ ρ H S _ ((Wp.bind h).mono fun dx ρ1 h1 v Hf1 H1 s1 S1 r1 => ?_)
  refine hb Hf1 σ ρ1 H1 S1 _ ((Wp.bind h1).mono fun dy ρ2 h2 u Hf2 H2 s2 S2 r2 => ?_)
  unfold liftO at h2
  cases e : g dx dy with
  | none => rw [e] at h2; exact h2.elim
  | some dz =>
    rw [e] at h2
    exact hr Hf2 H2 v u dx dy dz S2.sub (Rep.mono s2.fz r1) r2 e Q fun z H3 Hf3 n rz => h2 z Hf3 H3 ((s1.trans s2).trans n.stp) (n.sr S2) rz
theorem TD.un {r : V → Hp → VK → Prop} {g : D → Option D} {ta : TE} {fa : EM D} (hr : RDU K r g) (ha : TD K mg W ta fa) : TD K mg W (tUn r ta) (un1 g fa) := by
  intro Hf σ ρ H S Q h
  refine ha Hf σ ρ H S _ ((Wp.bind h).mono fun dx ρ1 h1 v Hf1 H1 s1 S1 r1 => ?_)
  unfold liftO at h1
  cases e : g dx with
  | none => rw [e] at h1; exact h1.elim
  | some dz =>
    rw [e] at h1
    exact hr Hf1 H1 v dx dz S1.sub r1 e Q fun z H3 Hf3 n rz => h1 z Hf3 H3 (s1.trans n.stp) (n.sr S1) rz
theorem rep_bl {Hf : Hp} {d : D} {b : Bool} {v : V} (h : toB d = some b) (r : Rep K Hf d v) : v = .bl b := by
  cases d <;> simp [toB] at h
  subst h
  exact r
theorem TB.test {t : TE} {f : EM D} (h : TD K mg W t f) : TB K mg W (tTest t) (testE f) := by
  intro Hf σ ρ H S Q q
  refine h Hf σ ρ H S _ ((Wp.bind q).mono fun d ρ1 h1 v Hf1 H1 s1 S1 r1 => ?_)
  unfold liftO at h1
  cases e : toB d with
  | none => rw [e] at h1; exact h1.elim
  | some b =>
    rw [e] at h1
    exact ⟨b, rep_bl e r1, h1 Hf1 H1 s1 S1⟩
theorem TB.tB {t : TE} {f : EM D} (h : TD K mg W t f) : TB K mg W (L2.tB t) (testE f) := TB.test h
/-- a op b op' c -/
def chainE (g g' : D → D → Option D) (fa fb fc : EM D) : EM D := bindM fa fun x => bindM fb fun y => bindM (liftO (g x y)) fun z => bindM (liftO (toB z)) fun k =>
  if k then bindM fc fun u => liftO (g' y u) else retE (.bl false)
theorem TD.chain {r r' : R2} {g g' : D → D → Option D} {ta tb tc : TE} {fa fb fc : EM D} (hr : RD K r g) (hr' : RD K r' g') (ha : TD K mg W ta fa) (hb : TD K mg W tb fb) (hc : TD K mg W tc fc) :
    TD K mg W (tChain r r' ta tb tc) (chainE g g' fa fb fc) := by
  intro Hf σ ρ H S Q h
  refine ha Hf σ ρ H S _ ((Wp.bind h).mono fun dx ρ1 h1 v Hf1 H1 s1 S1 r1 => ?_)
  refine hb Hf1 σ ρ1 H1 S1 _ ((Wp.bind h1).mono fun dy ρ2 h2 u Hf2 H2 s2 S2 r2 => ?_)
  have h2 := Wp.bind h2
  unfold liftO at h2
  cases e : g dx dy with
  | none => rw [e] at h2; exact h2.elim
  | some dz =>
    rw [e] at h2
    have h3 := Wp.bind (show Wp K mg W (bindM (liftO (toB dz)) _ ρ2) _ from h2)
    unfold liftO at h3
    cases e1 : toB dz with
    | none => rw [e1] at h3; exact h3.elim
    | some k =>
      rw [e1] at h3
      refine hr Hf2 H2 v u dx dy dz S2.sub (Rep.mono s2.fz r1) r2 e _ fun z H3 Hf3 n rz => ⟨k, rep_bl e1 rz, ?_⟩
      cases k with
      | false =>
        rw [if_neg (by decide)]
        exact h3 _ Hf3 H3 ((s1.trans s2).trans n.stp) (n.sr S2) rfl
      | true =>
        rw [if_pos rfl]
        have h3 : Wp K mg W (bindM fc (fun u => liftO (g' dy u)) ρ2) _ := h3
        refine hc Hf3 σ ρ2 H3 (n.sr S2) _ ((Wp.bind h3).mono fun dw ρ4 h4 w Hf4 H4 s4 S4 r4 => ?_)
        unfold liftO at h4
        cases e4 : g' dy dw with
        | none => rw [e4] at h4; exact h4.elim
        | some dq =>
          rw [e4] at h4
          exact hr' Hf4 H4 u w dy dw dq S4.sub (Rep.mono (Same.trans n.fz s4.fz) r2) r4 e4 Q fun q H5 Hf5 n5 rq =>
            h4 q Hf5 H5 ((((s1.trans s2).trans n.stp).trans s4).trans n5.stp) (n5.sr S4) rq
/-! ### and, or, not, if -/
def andE (fa fb : EM D) : EM D := bindM fa fun x => bindM (liftO (toB x)) fun k => if k then fb else retE (.bl false)
def orE (fa fb : EM D) : EM D := bindM fa fun x => bindM (liftO (toB x)) fun k => if k then retE (.bl true) else fb
def notE (fa : EM D) : EM D := bindM fa fun x => bindM (liftO (toB x)) fun k => retE (.bl (!k))
def andT (fa fb : EM Bool) : EM Bool := bindM fa fun k => if k then fb else retE false
def orT (fa fb : EM Bool) : EM Bool := bindM fa fun k => if k then retE true else fb
def notT (fa : EM Bool) : EM Bool := bindM fa fun k => retE (!k)
def ifE (c : EM Bool) (fa fb : EM D) : EM D := bindM c fun k => if k then fa else fb
theorem Wp.toB {d : D} {ρ : Ro} {α : Type} {f : Bool → EM α} {k : α → Ro → Prop} (h : Wp K mg W (bindM (liftO (toB d)) f ρ) k) : ∃ b, toB d = some b ∧ Wp K mg W (f b ρ) k := by
  have h := Wp.bind h
  unfold liftO at h
  cases e : DL.toB d with
  | none => rw [e] at h; exact h.elim
  | some b => rw [e] at h; exact ⟨b, rfl, h⟩
theorem TD.andV {ta tb : TE} {fa fb : EM D} (ha : TD K mg W ta fa) (hb : TD K mg W tb fb) : TD K mg W (tAndV ta tb) (andE fa fb) := by
  intro Hf σ ρ H S Q h
  refine ha Hf σ ρ H S _ ((Wp.bind h).mono fun dx ρ1 h1 v Hf1 H1 s1 S1 r1 => ?_)
  obtain ⟨k, e, h2⟩ := Wp.toB h1
  refine ⟨k, rep_bl e r1, ?_⟩
  cases k with
  | true =>
    rw [if_pos rfl]
    exact hb Hf1 σ ρ1 H1 S1 _ (h2.mono fun d ρ2 h3 w Hf2 H2 s2 S2 r2 => h3 w Hf2 H2 (s1.trans s2) S2 r2)
  | false => exact h2 _ Hf1 H1 s1 S1 rfl
theorem TD.orV {ta tb : TE} {fa fb : EM D} (ha : TD K mg W ta fa) (hb : TD K mg W tb fb) : TD K mg W (tOrV ta tb) (orE fa fb) := by
  intro Hf σ ρ H S Q h
  refine ha Hf σ ρ H S _ ((Wp.bind h).mono fun dx ρ1 h1 v Hf1 H1 s1 S1 r1 => ?_)
  obtain ⟨k, e, h2⟩ := Wp.toB h1
  refine ⟨k, rep_bl e r1, ?_⟩
  cases k with
  | false =>
    rw [if_neg (by decide)]
    exact hb Hf1 σ ρ1 H1 S1 _ (h2.mono fun d ρ2 h3 w Hf2 H2 s2 S2 r2 => h3 w Hf2 H2 (s1.trans s2) S2 r2)
  | true => exact h2 _ Hf1 H1 s1 S1 rfl
theorem TD.notV {ta : TE} {fa : EM D} (ha : TD K mg W ta fa) : TD K mg W (tNotV ta) (notE fa) := by
  intro Hf σ ρ H S Q h
  refine ha Hf σ ρ H S _ ((Wp.bind h).mono fun dx ρ1 h1 v Hf1 H1 s1 S1 r1 => ?_)
  obtain ⟨k, e, h2⟩ := Wp.toB h1
  exact ⟨k, rep_bl e r1, h2 _ Hf1 H1 s1 S1 rfl⟩
theorem TB.and {ta tb : TT} {fa fb : EM Bool} (ha : TB K mg W ta fa) (hb : TB K mg W tb fb) : TB K mg W (tAnd ta tb) (andT fa fb) := by
  intro Hf σ ρ H S Q h
  refine ha Hf σ ρ H S _ ((Wp.bind h).mono fun k ρ1 h1 Hf1 H1 s1 S1 => ?_)
  cases k with
  | true =>
    rw [if_pos rfl]
    exact hb Hf1 σ ρ1 H1 S1 _ (h1.mono fun d ρ2 h3 Hf2 H2 s2 S2 => h3 Hf2 H2 (s1.trans s2) S2)
  | false => exact h1 Hf1 H1 s1 S1
theorem TB.or {ta tb : TT} {fa fb : EM Bool} (ha : TB K mg W ta fa) (hb : TB K mg W tb fb) : TB K mg W (tOr ta tb) (orT fa fb) := by
  intro Hf σ ρ H S Q h
  refine ha Hf σ ρ H S _ ((Wp.bind h).mono fun k ρ1 h1 Hf1 H1 s1 S1 => ?_)
  cases k with
  | false =>
    rw [if_neg (by decide)]
    exact hb Hf1 σ ρ1 H1 S1 _ (h1.mono fun d ρ2 h3 Hf2 H2 s2 S2 => h3 Hf2 H2 (s1.trans s2) S2)
  | true => exact h1 Hf1 H1 s1 S1
theorem TB.not {ta : TT} {fa : EM Bool} (ha : TB K mg W ta fa) : TB K mg W (tNot ta) (notT fa) := by
  intro Hf σ ρ H S Q h
  refine ha Hf σ ρ H S _ ((Wp.bind h).mono fun k ρ1 h1 Hf1 H1 s1 S1 => h1 Hf1 H1 s1 S1)
theorem TD.ifE {c : TT} {ta tb : TE} {fc : EM Bool} {fa fb : EM D} (hc : TB K mg W c fc) (ha : TD K mg W ta fa) (hb : TD K mg W tb fb) : TD K mg W (tIf c ta tb) (DL.ifE fc fa fb) := by
  intro Hf σ ρ H S Q h
  refine hc Hf σ ρ H S _ ((Wp.bind h).mono fun k ρ1 h1 Hf1 H1 s1 S1 => ?_)
  cases k with
  | true =>
    rw [if_pos rfl]
    exact ha Hf1 σ ρ1 H1 S1 _ (h1.mono fun d ρ2 h3 w Hf2 H2 s2 S2 r2 => h3 w Hf2 H2 (s1.trans s2) S2 r2)
  | false =>
    rw [if_neg (by decide)]
    exact hb Hf1 σ ρ1 H1 S1 _ (h1.mono fun d ρ2 h3 w Hf2 H2 s2 S2 r2 => h3 w Hf2 H2 (s1.trans s2) S2 r2)
/-- a new dict is locked at once: it is data, and may be walked -/
def isDic (o : HO) : Prop := (∃ kvs, o = .dK kvs) ∨ ∃ a es, o = dnO a es
theorem isDic.mut {o : HO} (h : isDic o) : Mut (some o) := by
  rcases h with ⟨kvs, rfl⟩ | ⟨a, es, rfl⟩ <;> exact True.intro
theorem frz_ne (ob : Obj) (o : HO) : HO.frz ob o ≠ o := fun h => by
  have := congrArg sizeOf h
  simp at this
def tLk (t : TE) : TE := fun σ H Q => t σ H fun x H1 => (∃ a u, x = .ref a ∧ H1 a = some u ∧ isDic u ∧ ∀ o, Q x (upd H1 a (.frz o u))) ∨ Q x H1
theorem pe_lk {X : Cx} {e : Expr} {t : TE} (h : PE X e t) : PE X e (tLk t) := by
  refine ⟨fun pins s σ H Q I q => thn (h.run pins s σ H _ I q) fun v s1 ⟨x, H1, I1, r1, q1⟩ => ?_⟩
  rcases q1 with ⟨a, u, e, ha, hu, q1⟩ | q1
  · obtain ⟨od, I2⟩ := I1.lock ha hu.mut
    exact ⟨x, upd H1 a (.frz od u), I2, r1, q1 od⟩
  · exact ⟨x, H1, I1, r1, q1⟩
/-- what a new thing has become -/
def Froz (o o' : HO) : Prop := o' = o ∨ ∃ ob, isDic o ∧ o' = .frz ob o
theorem rep_froz {d : D} {a : Addr} {o o' : HO} {Hg : Hp} (e : H a = some o) (ro : RepO K Hf H d a) (f : Froz o o') (hd : isDic o → o' ≠ o) (sm : Same Hf Hg) (hg : Hg a = some o') : Rep K Hg d (.ref a) := by
  cases d with
  | lst ds =>
    obtain ⟨vs, g1, g2⟩ := ro
    rw [e] at g1; cases g1
    rcases f with rfl | ⟨_, h, _⟩
    · unfold Rep
      exact ⟨a, vs, rfl, hg, Reps.mono sm g2⟩
    · rcases h with ⟨_, h⟩ | ⟨_, _, h⟩ <;> cases h
  | dct ds =>
    obtain ⟨vs, g1, g2⟩ := ro
    rw [e] at g1; cases g1
    rcases f with rfl | ⟨ob, h, rfl⟩
    · exact absurd rfl (hd (.inl ⟨_, rfl⟩))
    · unfold Rep
      exact ⟨a, ob, vs, rfl, hg, Repk.mono sm g2⟩
  | dcn ds =>
    obtain ⟨vs, g1, g2⟩ := ro
    rw [e] at g1; cases g1
    rcases f with rfl | ⟨ob, h, rfl⟩
    · exact absurd rfl (hd (.inr ⟨_, _, rfl⟩))
    · unfold Rep
      exact ⟨a, ob, vs, rfl, hg, Repn.mono sm g2⟩
  | _ => exact ro.elim
theorem TF.key {Q : VK} {a : Addr} {o o' : HO} {d : D} {ρ1 : Ro} (s1 : Stp Hf σ ρ H Hf1 σ ρ1 H1) (S1 : SR K Hf1 σ ρ1 H1) (ha : H a = none) (hf : Hf1 a = none) (ro : RepO K Hf1 H1 d a) (no : ¬ OA σ ρ1 a) (e : H1 a = some o) (f : Froz o o') (hd : isDic o → o' ≠ o)
    (q1 : ∀ v Hf' H', Stp Hf σ ρ H Hf' σ ρ1 H' → SR K Hf' σ ρ1 H' → Rep K Hf' d v → Q v H') : Q (.ref a) (upd H1 a o') := by
  have sm : Same Hf1 (upd Hf1 a o') := same_upd hf
  refine q1 (.ref a) (upd Hf1 a o') (upd H1 a o') ⟨Same.trans s1.fz sm, fun b u h1 h2 => ?_, fun b h1 => ?_, fun b hb hb1 hb2 => ?_, s1.pin, s1.pin', s1.oo, s1.len⟩ ⟨fun b u e1 => ?_, S1.len, fun i d e1 => ?_, fun i d e1 => ?_, S1.inj⟩ (rep_froz e ro f hd sm upd_same)
  · rw [upd_ne (fun e => by rw [e, ha] at h1; cases h1)]
    exact s1.keep b u h1 h2
  · by_cases hb : b = a
    · subst hb; rw [upd_same]; simp
    · rw [upd_ne hb]; exact s1.there b h1
  · rw [upd_ne (fun e => hb (by rw [e]; exact ha))]
    exact s1.out b hb hb1 hb2
  · by_cases hb : b = a
    · subst hb; rw [upd_same] at e1 ⊢; exact e1
    · rw [upd_ne hb] at e1 ⊢; exact S1.sub b u e1
  · obtain ⟨v, g1, g2⟩ := S1.val i d e1
    exact ⟨v, g1, Rep.mono sm g2⟩
  · obtain ⟨b, g1, g2, g3⟩ := S1.own i d e1
    have nb : b ≠ a := fun e2 => no ⟨i, by rw [← e2]; exact g1, d, e1⟩
    exact ⟨b, g1, by rw [upd_ne nb]; exact g2, RepO.mono sm (upd_ne nb) g3⟩
theorem upd_self {a : Addr} {o : HO} (e : H a = some o) : upd H a o = H := by
  funext b
  by_cases h : b = a
  · subst h; rw [upd_same, e]
  · rw [upd_ne h]
/-- a new thing, known as data at once -/
theorem TF.td {t : TE} {f : EM D} (h : TF K mg W t f) : TD K mg W (tLk t) f := by
  intro Hf σ ρ H S Q q
  refine h Hf σ ρ H S _ (q.mono fun d ρ1 q1 a Hf1 H1 s1 S1 ha hf ro no => ?_)
  obtain ⟨o, e⟩ : ∃ o, H1 a = some o := by
    cases e : H1 a with
    | none => exact absurd e ro.there
    | some o => exact ⟨o, rfl⟩
  by_cases hk : isDic o
  · exact .inl ⟨a, o, rfl, e, hk, fun ob => TF.key s1 S1 ha hf ro no e (.inr ⟨ob, hk, rfl⟩) (fun _ => frz_ne ob o) q1⟩
  · refine .inr ?_
    have := TF.key (o' := o) s1 S1 ha hf ro no e (.inl rfl) (fun h => absurd h hk) q1
    rw [upd_self e] at this
    exact this
/-- .. that is a list -/
theorem TF.tdl {t : TE} {f : EM D} (h : TF K mg W t f) (hl : ∀ ρ d ρ', f ρ = .ok d ρ' → ∃ ds, d = .lst ds) : TD K mg W t f := by
  intro Hf σ ρ H S Q q
  refine h Hf σ ρ H S _ ?_
  cases ef : f ρ with
  | bad => rw [ef] at q; exact q
  | err x => rw [ef] at q; exact q
  | ok d ρ1 =>
    rw [ef] at q
    obtain ⟨ds, rfl⟩ := hl _ _ _ ef
    intro a Hf1 H1 s1 S1 ha hf ro no
    obtain ⟨vs, e, _⟩ := id ro
    have := TF.key (o' := .lst vs) s1 S1 ha hf ro no e (.inl rfl) (fun h => by rcases h with ⟨_, h⟩ | ⟨_, _, h⟩ <;> cases h) q
    rw [upd_self e] at this
    exact this
end

/-! ### rules -/
section
variable {X : Cx} {W : XK} {a b c : Expr} {fa fb fc : EM D} {ba bb : EM Bool} {pos : Pos} {es : List Expr}
theorem PF.pd {e : Expr} {f : EM D} (h : PF X W e f) : PD X W e f := let ⟨t, h1, h2⟩ := h.ex; ⟨_, pe_lk h1, TF.td h2⟩
theorem d_var (i : Nat) {x : Str} (hN : X.N[i]? = some x) (hv : Vis X.env.scope x) (hd : (x == ("__debug__" : Str)) = false := by decide) (hcd : (x == ("__classdict__" : Str)) = false := by decide) : PD X W (.Name x pos) (varE i) :=
  ⟨_, pe_var hN hv hd hcd, TD.var⟩
theorem d_int {i j} : PD X W (.Constant (.int i) j pos) (retE (.int i)) := ⟨_, pe_int, TD.con fun _ => rfl⟩
theorem d_bl {i j} : PD X W (.Constant (.bool i) j pos) (retE (.bl i)) := ⟨_, pe_bl, TD.con fun _ => rfl⟩
theorem d_non {j} : PD X W (.Constant .none j pos) (retE .non) := ⟨_, pe_non, TD.con fun _ => rfl⟩
theorem d_str {i j} : PD X W (.Constant (.str i) j pos) (retE (.str i)) := ⟨_, pe_str, TD.con fun _ => rfl⟩
theorem d_op {op : Operator} {r : R2} {g : D → D → Option D} (ho : OpR X (binaryOp op) r) (hr : RD X.K r g) (ha : PD X W a fa) (hb : PD X W b fb) : PD X W (.BinOp a op b pos) (bin2 g fa fb) :=
  let ⟨_, a1, a2⟩ := ha.ex; let ⟨_, b1, b2⟩ := hb.ex; ⟨_, pe_op ho a1 b1, TD.op hr a2 b2⟩
theorem d_un {op : UnaryOp} {r : V → Hp → VK → Prop} {g : D → Option D} (ho : UnR X (unaryOp op) r) (hr : RDU X.K r g) (ha : PD X W a fa) : PD X W (.UnaryOp op a pos) (un1 g fa) :=
  let ⟨_, a1, a2⟩ := ha.ex; ⟨_, pe_un ho a1, TD.un hr a2⟩
theorem d_cmp {op : CmpOp} {r : R2} {g : D → D → Option D} (ho : OpR X (compareOp op) r) (hr : RD X.K r g) (ha : PD X W a fa) (hb : PD X W b fb) (hm : behindInMarks op b = false) : PD X W (.Compare a [op] [b] pos) (bin2 g fa fb) :=
  let ⟨_, a1, a2⟩ := ha.ex; let ⟨_, b1, b2⟩ := hb.ex; ⟨_, pe_cmpR ho a1 b1 hm, TD.op hr a2 b2⟩
theorem d_chain {op op' : CmpOp} {r r' : R2} {g g' : D → D → Option D} (ho : OpR X (compareOp op) r) (hr : RD X.K r g) (ho' : OpR X (compareOp op') r') (hr' : RD X.K r' g') (ha : PD X W a fa) (hb : PD X W b fb) (hc : PD X W c fc)
    (hm : lastMarks [op, op'] [b, c] = false) : PD X W (.Compare a [op, op'] [b, c] pos) (chainE g g' fa fb fc) :=
  let ⟨_, a1, a2⟩ := ha.ex; let ⟨_, b1, b2⟩ := hb.ex; let ⟨_, c1, c2⟩ := hc.ex; ⟨_, pe_chain ho ho' a1 b1 c1 hm, TD.chain hr hr' a2 b2 c2⟩
theorem b_cmp {op : CmpOp} {r : R2} {g : D → D → Option D} (ho : OpR X (compareOp op) r) (hr : RD X.K r g) (ha : PD X W a fa) (hb : PD X W b fb) (hm : behindInMarks op b = false) : PB X W (.Compare a [op] [b] pos) (testE (bin2 g fa fb)) :=
  let ⟨_, a1, a2⟩ := ha.ex; let ⟨_, b1, b2⟩ := hb.ex; ⟨_, pt_cmpR ho a1 b1 hm, TB.test (TD.op hr a2 b2)⟩
theorem b_chain {op op' : CmpOp} {r r' : R2} {g g' : D → D → Option D} (ho : OpR X (compareOp op) r) (hr : RD X.K r g) (ho' : OpR X (compareOp op') r') (hr' : RD X.K r' g') (ha : PD X W a fa) (hb : PD X W b fb) (hc : PD X W c fc)
    (hm : lastMarks [op, op'] [b, c] = false) : PB X W (.Compare a [op, op'] [b, c] pos) (testE (chainE g g' fa fb fc)) :=
  let ⟨_, a1, a2⟩ := ha.ex; let ⟨_, b1, b2⟩ := hb.ex; let ⟨_, c1, c2⟩ := hc.ex; ⟨_, pt_chain ho ho' a1 b1 c1 hm, TB.test (TD.chain hr hr' a2 b2 c2)⟩
theorem d_one {op} (ha : PD X W a fa) : PD X W (.BoolOp op [a] pos) fa := let ⟨_, a1, a2⟩ := ha.ex; ⟨_, pe_one a1, a2⟩
theorem d_and (ha : PD X W a fa) (hb : PD X W (.BoolOp .And (b :: es) pos) fb) : PD X W (.BoolOp .And (a :: b :: es) pos) (andE fa fb) :=
  let ⟨_, a1, a2⟩ := ha.ex; let ⟨_, b1, b2⟩ := hb.ex; ⟨_, pe_and a1 b1, TD.andV a2 b2⟩
theorem d_or (ha : PD X W a fa) (hb : PD X W (.BoolOp .Or (b :: es) pos) fb) : PD X W (.BoolOp .Or (a :: b :: es) pos) (orE fa fb) :=
  let ⟨_, a1, a2⟩ := ha.ex; let ⟨_, b1, b2⟩ := hb.ex; ⟨_, pe_or a1 b1, TD.orV a2 b2⟩
theorem d_not (ha : PD X W a fa) : PD X W (.UnaryOp .Not a pos) (notE fa) := let ⟨_, a1, a2⟩ := ha.ex; ⟨_, pe_not a1, TD.notV a2⟩
/-- and, or as a test: the whole stands aside -/
structure PBW (X : Cx) (W : XK) (e : Expr) (f : EM Bool) : Prop where
  ex : ∃ t, PW X e t ∧ TB X.K X.mg W t f
theorem PBW.pb {e : Expr} {f : EM Bool} (h : PBW X W e f) : PB X W e f := let ⟨t, h1, h2⟩ := h.ex; ⟨t, h1.pt, h2⟩
theorem b_and1 (ha : PB X W a ba) : PBW X W (.BoolOp .And [a] pos) ba := let ⟨_, a1, a2⟩ := ha.ex; ⟨_, pw_and1 a1, a2⟩
theorem b_or1 (ha : PB X W a ba) : PBW X W (.BoolOp .Or [a] pos) ba := let ⟨_, a1, a2⟩ := ha.ex; ⟨_, pw_or1 a1, a2⟩
theorem b_and (ha : PB X W a ba) (hb : PBW X W (.BoolOp .And (b :: es) pos) bb) : PBW X W (.BoolOp .And (a :: b :: es) pos) (andT ba bb) :=
  let ⟨_, a1, a2⟩ := ha.ex; let ⟨_, b1, b2⟩ := hb.ex; ⟨_, pw_and a1 b1, TB.and a2 b2⟩
theorem b_or (ha : PB X W a ba) (hb : PBW X W (.BoolOp .Or (b :: es) pos) bb) : PBW X W (.BoolOp .Or (a :: b :: es) pos) (orT ba bb) :=
  let ⟨_, a1, a2⟩ := ha.ex; let ⟨_, b1, b2⟩ := hb.ex; ⟨_, pw_or a1 b1, TB.or a2 b2⟩
theorem b_not (ha : PB X W a ba) : PB X W (.UnaryOp .Not a pos) (notT ba) := let ⟨_, a1, a2⟩ := ha.ex; ⟨_, pt_not a1, TB.not a2⟩
/-- an expression that gives a truth value -/
theorem b_val (ha : PD X W a fa) (he : ∀ whole, isTrue a X.env whole = (do let v ← whole; standAt a.pos; holding [v] (truthy v))) : PB X W a (testE fa) := let ⟨_, a1, a2⟩ := ha.ex; ⟨_, pt_val a1 he, TB.tB a2⟩
theorem d_if (hc : PB X W c ba) (ha : PD X W a fa) (hb : PD X W b fb) : PD X W (.IfExp c a b pos) (ifE ba fa fb) :=
  let ⟨_, c1, c2⟩ := hc.ex; let ⟨_, a1, a2⟩ := ha.ex; let ⟨_, b1, b2⟩ := hb.ex; ⟨_, pe_ifExp c1 a1 b1, TD.ifE c2 a2 b2⟩
end
end DL

/-! The D layer, 3: arguments, targets, statements, loops, comprehensions, defs. -/
namespace DL
open PySem L2

section
variable {K : PySem.W.Frag} {mg : Str → Option Value} {W : XK} {Hf H Hf' H' Hf1 H1 : Hp} {σ σ' : L2.St} {ρ ρ' : Ro}

/-! ### arguments that are data -/
def TAD (K : PySem.W.Frag) (mg : Str → Option Value) (W : XK) (t : TA) (f : EM (List D)) : Prop :=
  ∀ Hf σ ρ H, SR K Hf σ ρ H → ∀ Q : List V → Hp → Prop, Wp K mg W (f ρ) (fun ds ρ' => ∀ vs Hf' H', Stp Hf σ ρ H Hf' σ ρ' H' → SR K Hf' σ ρ' H' → Reps K Hf' ds vs → Q vs H') → t σ H Q
def consE (fa : EM D) (fr : EM (List D)) : EM (List D) := bindM fa fun x => bindM fr fun xs => retE (x :: xs)
theorem TAD.nil : TAD K mg W tNil (retE []) := fun Hf σ ρ H S Q h => h [] Hf H Stp.refl S rfl
theorem reps_cons {d : D} {ds : List D} {v : V} {vs : List V} (h : Rep K Hf d v) (h2 : Reps K Hf ds vs) : Reps K Hf (d :: ds) (v :: vs) := by
  unfold Reps
  exact ⟨v, vs, rfl, h, h2⟩
theorem TAD.cons {ta : TE} {tr : TA} {fa : EM D} {fr : EM (List D)} (ha : TD K mg W ta fa) (hr : TAD K mg W tr fr) : TAD K mg W (tCons ta tr) (consE fa fr) := by
  intro Hf σ ρ H S Q h
  refine ha Hf σ ρ H S _ ((Wp.bind h).mono fun dx ρ1 h1 v Hf1 H1 s1 S1 r1 => ?_)
  refine hr Hf1 σ ρ1 H1 S1 _ ((Wp.bind h1).mono fun ds ρ2 h2 vs Hf2 H2 s2 S2 r2 => ?_)
  exact h2 (v :: vs) Hf2 H2 (s1.trans s2) S2 (reps_cons (Rep.mono s2.fz r1) r2)

/-! ### arguments of which some are owned things that are lent -/
inductive Arg where
  | v (d : D) | s (i : Nat)
def ArgsRep (K : PySem.W.Frag) (Hf : Hp) (σ : L2.St) : List Arg → List V → Prop
  | [], vs => vs = []
  | a :: as, vs => ∃ v r, vs = v :: r ∧ (match a with | .v d => Rep K Hf d v | .s i => σ[i]? = some (some v)) ∧ ArgsRep K Hf σ as r
theorem ArgsRep.mono (e : Same Hf Hf') : ∀ {as : List Arg} {vs : List V}, ArgsRep K Hf σ as vs → ArgsRep K Hf' σ as vs
  | [], _, h => h
  | a :: as, vs, h => by
    unfold ArgsRep at h ⊢
    obtain ⟨v, r, h1, h2, h3⟩ := h
    refine ⟨v, r, h1, ?_, ArgsRep.mono e h3⟩
    cases a with
    | v d => exact Rep.mono e h2
    | s i => exact h2
def TAR (K : PySem.W.Frag) (mg : Str → Option Value) (W : XK) (t : TA) (f : EM (List Arg)) : Prop :=
  ∀ Hf σ ρ H, SR K Hf σ ρ H → ∀ Q : List V → Hp → Prop, Wp K mg W (f ρ) (fun as ρ' => ∀ vs Hf' H', Stp Hf σ ρ H Hf' σ ρ' H' → SR K Hf' σ ρ' H' → ArgsRep K Hf' σ as vs → Q vs H') → t σ H Q
def argV (fa : EM D) (fr : EM (List Arg)) : EM (List Arg) := bindM fa fun x => bindM fr fun xs => retE (.v x :: xs)
def ownS (i : Nat) : EM Unit := fun ρ => match ρ[i]? with
  | some (.o _) => .ok () ρ
  | some (.p _) => .ok () ρ
  | _ => .bad
def argS (i : Nat) (fr : EM (List Arg)) : EM (List Arg) := bindM (ownS i) fun _ => bindM fr fun xs => retE (.s i :: xs)
theorem TAR.nil : TAR K mg W tNil (retE []) := fun Hf σ ρ H S Q h => h [] Hf H Stp.refl S rfl
theorem TAR.v {ta : TE} {tr : TA} {fa : EM D} {fr : EM (List Arg)} (ha : TD K mg W ta fa) (hr : TAR K mg W tr fr) : TAR K mg W (tCons ta tr) (argV fa fr) := by
  intro Hf σ ρ H S Q h
  refine ha Hf σ ρ H S _ ((Wp.bind h).mono fun dx ρ1 h1 v Hf1 H1 s1 S1 r1 => ?_)
  refine hr Hf1 σ ρ1 H1 S1 _ ((Wp.bind h1).mono fun ds ρ2 h2 vs Hf2 H2 s2 S2 r2 => ?_)
  refine h2 (v :: vs) Hf2 H2 (s1.trans s2) S2 ?_
  unfold ArgsRep
  exact ⟨v, vs, rfl, Rep.mono s2.fz r1, r2⟩
theorem ownS_inv {i : Nat} {α : Type} {f : Unit → EM α} {k : α → Ro → Prop} (S : SR K Hf σ ρ H) (h : Wp K mg W (bindM (ownS i) f ρ) k) : (∃ a d, σ[i]? = some (some (V.ref a)) ∧ (ρ[i]? = some (Sl.o d) ∨ ρ[i]? = some (Sl.p d)) ∧ Hf a = none ∧ RepO K Hf H d a) ∧ Wp K mg W (f () ρ) k := by
  have h := Wp.bind h
  unfold ownS at h
  cases e : ρ[i]? with
  | none => rw [e] at h; exact h.elim
  | some x =>
    cases x with
    | o d =>
      obtain ⟨a, h1, h2, h3⟩ := S.own i d (.inl e)
      rw [e] at h
      exact ⟨⟨a, d, h1, .inl rfl, h2, h3⟩, h⟩
    | p d =>
      obtain ⟨a, h1, h2, h3⟩ := S.own i d (.inr e)
      rw [e] at h
      exact ⟨⟨a, d, h1, .inr rfl, h2, h3⟩, h⟩
    | _ => rw [e] at h; exact h.elim
theorem TAR.s {i : Nat} {tr : TA} {fr : EM (List Arg)} (hr : TAR K mg W tr fr) : TAR K mg W (tCons (tVar i) tr) (argS i fr) := by
  intro Hf σ ρ H S Q h
  obtain ⟨⟨a, d, h1, _⟩, h2⟩ := ownS_inv S h
  refine ⟨.ref a, h1, ?_⟩
  refine hr Hf σ ρ H S _ ((Wp.bind h2).mono fun ds ρ2 h2 vs Hf2 H2 s2 S2 r2 => ?_)
  refine h2 (.ref a :: vs) Hf2 H2 s2 S2 ?_
  unfold ArgsRep
  exact ⟨_, vs, rfl, h1, r2⟩

/-! ### a def's promise -/
def spM (K : PySem.W.Frag) (mg : Str → Option Value) (n : Nat) (m : EM D) : Sp := fun vs H Q E => vs.length = n ∧ ∃ Hf ρ0, SR K Hf (vs.map some) ρ0 H ∧ (∀ (i : Nat) (d : D), ρ0[i]? ≠ some (Sl.o d)) ∧
  Wp K mg E (m ρ0) (fun d ρ' => ∀ v Hf' H', Stp Hf (vs.map some) ρ0 H Hf' (vs.map some) ρ' H' → SR K Hf' (vs.map some) ρ' H' → Rep K Hf' d v → Q v H')
/-- .. that gives a new list or dict -/
def spF (K : PySem.W.Frag) (mg : Str → Option Value) (n : Nat) (m : EM D) : Sp := fun vs H Q E => vs.length = n ∧ ∃ Hf ρ0, SR K Hf (vs.map some) ρ0 H ∧ (∀ (i : Nat) (d : D), ρ0[i]? ≠ some (Sl.o d)) ∧
  Wp K mg E (m ρ0) (fun d ρ' => ∀ a Hf' H', Stp Hf (vs.map some) ρ0 H Hf' (vs.map some) ρ' H' → SR K Hf' (vs.map some) ρ' H' → H a = none → Hf' a = none → RepO K Hf' H' d a → ¬ OA (vs.map some) ρ' a → Q (.ref a) H')

/-- the argument as the callee's slot -/
def slOf (ρ : Ro) : Arg → Sl
  | .v d => .v d
  | .s i => match ρ[i]? with
    | some (.o d) => .p d
    | some (.p d) => .p d
    | _ => .u
def isS (i : Nat) : Arg → Bool
  | .s j => i == j
  | .v _ => false
/-- no owned thing is lent twice -/
def apart : List Arg → Bool
  | [] => true
  | .v _ :: r => apart r
  | .s i :: r => !r.any (isS i) && apart r
/-- what a lent thing has become -/
def back1 (x y : Sl) : Sl := match x, y with
  | .o _, .p d => .o d
  | .p _, .p d => .p d
  | x, _ => x
def putBack : List Arg → Ro → Ro → Ro
  | .s i :: r, y :: ys, ρ => putBack r ys (match ρ[i]? with | some x => ρ.set i (back1 x y) | none => ρ)
  | .v _ :: r, _ :: ys, ρ => putBack r ys ρ
  | _, _, ρ => ρ
def callR (m : EM D) (as : List Arg) : EM D := fun ρ => if apart as then match m (as.map (slOf ρ)) with
  | .ok d ρ' => .ok d (putBack as ρ' ρ)
  | .bad => .bad
  | .err x => .err x
  else .bad
def callE (m : EM D) (fa : EM (List Arg)) : EM D := bindM fa fun as => callR m as

theorem any_isS {i : Nat} {r : List Arg} (h : r.any (isS i) = false) (j : Nat) : r[j]? ≠ some (.s i) := fun e => by
  have m : Arg.s i ∈ r := List.mem_of_getElem? e
  have := List.any_eq_false.mp h _ m
  simp [isS] at this
theorem putBack_out {i : Nat} : ∀ {as : List Arg} {ys ρ : Ro}, (∀ j : Nat, as[j]? ≠ some (.s i)) → (putBack as ys ρ)[i]? = ρ[i]?
  | [], _, _, _ => rfl
  | .v d :: r, [], _, _ => rfl
  | .s k :: r, [], _, _ => rfl
  | .v d :: r, y :: ys, ρ, h => putBack_out (as := r) (ys := ys) (ρ := ρ) fun j => by simpa using h (j + 1)
  | .s k :: r, y :: ys, ρ, h => by
    have ne : k ≠ i := fun e => h 0 (by simp [e])
    unfold putBack
    rw [putBack_out (as := r) (ys := ys) fun j => by simpa using h (j + 1)]
    cases e : ρ[k]? with
    | none => rfl
    | some x => exact List.getElem?_set_ne ne
theorem putBack_in {i : Nat} {y0 : Sl} : ∀ {as : List Arg} {ys ρ : Ro} {j : Nat}, apart as = true → as[j]? = some (.s i) → ys[j]? = some y0 → (putBack as ys ρ)[i]? = (ρ[i]?).map fun x => back1 x y0
  | [], _, _, _, _, h, _ => by simp at h
  | .v d :: r, [], _, _, _, _, h => by simp at h
  | .s k :: r, [], _, _, _, _, h => by simp at h
  | .v d :: r, y :: ys, ρ, 0, _, h, _ => by simp at h
  | .v d :: r, y :: ys, ρ, j + 1, ap, h, hy => by
    unfold putBack
    exact putBack_in (j := j) (by simpa [apart] using ap) (by simpa using h) (by simpa using hy)
  | .s k :: r, y :: ys, ρ, 0, ap, h, hy => by
    simp at h hy
    subst h; subst hy
    simp only [apart, Bool.and_eq_true, Bool.not_eq_true'] at ap
    unfold putBack
    rw [putBack_out (any_isS ap.1)]
    cases e : ρ[k]? with
    | none => rw [e]; rfl
    | some x => exact List.getElem?_set_self (List.getElem?_eq_some_iff.mp e).1
  | .s k :: r, y :: ys, ρ, j + 1, ap, h, hy => by
    simp only [apart, Bool.and_eq_true, Bool.not_eq_true'] at ap
    have h' : r[j]? = some (.s i) := by simpa using h
    have ne : k ≠ i := fun e => any_isS ap.1 j (by rw [e]; exact h')
    unfold putBack
    rw [putBack_in (j := j) ap.2 h' (by simpa using hy)]
    cases e : ρ[k]? with
    | none => rfl
    | some x => simp only; rw [List.getElem?_set_ne ne]
theorem apart_inj {i : Nat} : ∀ {as : List Arg} {j l : Nat}, apart as = true → as[j]? = some (.s i) → as[l]? = some (.s i) → j = l
  | [], _, _, _, h, _ => by simp at h
  | a :: r, 0, 0, _, _, _ => rfl
  | a :: r, j + 1, l + 1, ap, h, h' => by
    have ap' : apart r = true := by cases a <;> simp_all [apart]
    rw [apart_inj (j := j) (l := l) ap' (by simpa using h) (by simpa using h')]
  | a :: r, 0, l + 1, ap, h, h' => by
    simp at h; subst h
    simp only [apart, Bool.and_eq_true, Bool.not_eq_true'] at ap
    exact absurd (by simpa using h') (any_isS ap.1 l)
  | a :: r, j + 1, 0, ap, h, h' => by
    simp at h'; subst h'
    simp only [apart, Bool.and_eq_true, Bool.not_eq_true'] at ap
    exact absurd (by simpa using h) (any_isS ap.1 j)
theorem putBack_len : ∀ {as : List Arg} {ys ρ : Ro}, (putBack as ys ρ).length = ρ.length
  | [], _, _ => rfl
  | .v d :: r, [], _ => rfl
  | .s k :: r, [], _ => rfl
  | .v d :: r, y :: ys, ρ => by unfold putBack; exact putBack_len
  | .s k :: r, y :: ys, ρ => by
    unfold putBack
    rw [putBack_len]
    cases e : ρ[k]? <;> simp
theorem args_at : ∀ {as : List Arg} {vs : List V} {j : Nat} {a : Arg}, ArgsRep K Hf σ as vs → as[j]? = some a → ∃ v, vs[j]? = some v ∧ (match a with | .v d => Rep K Hf d v | .s i => σ[i]? = some (some v))
  | [], _, _, _, _, h => by simp at h
  | b :: r, vs, 0, a, h, e => by
    unfold ArgsRep at h
    obtain ⟨v, r', rfl, h2, _⟩ := h
    simp at e; subst e
    exact ⟨v, rfl, h2⟩
  | b :: r, vs, j + 1, a, h, e => by
    unfold ArgsRep at h
    obtain ⟨v, r', rfl, _, h3⟩ := h
    obtain ⟨w, h4, h5⟩ := args_at (j := j) (a := a) h3 (by simpa using e)
    exact ⟨w, by simpa using h4, h5⟩
theorem args_len : ∀ {as : List Arg} {vs : List V}, ArgsRep K Hf σ as vs → as.length = vs.length
  | [], _, h => by unfold ArgsRep at h; rw [h]; rfl
  | b :: r, vs, h => by
    unfold ArgsRep at h
    obtain ⟨v, r', rfl, _, h3⟩ := h
    simp [args_len h3]
/-- a lent slot of the callee is an owned one of ours -/
theorem lent_own {as : List Arg} {vs : List V} (S : SR K Hf σ ρ H) (A : ArgsRep K Hf σ as vs) {j : Nat} {d : D} (h : (as.map (slOf ρ))[j]? = some (Sl.o d) ∨ (as.map (slOf ρ))[j]? = some (Sl.p d)) :
    ∃ i a, as[j]? = some (.s i) ∧ (ρ[i]? = some (Sl.o d) ∨ ρ[i]? = some (Sl.p d)) ∧ σ[i]? = some (some (V.ref a)) ∧ (vs.map some)[j]? = some (some (V.ref a)) ∧ Hf a = none ∧ RepO K Hf H d a := by
  rw [List.getElem?_map] at h
  cases e : as[j]? with
  | none => rw [e] at h; simp at h
  | some a =>
    rw [e] at h
    cases a with
    | v d' => simp [slOf] at h
    | s i =>
      simp only [Option.map_some, Option.some.injEq, slOf] at h
      have ho : ρ[i]? = some (Sl.o d) ∨ ρ[i]? = some (Sl.p d) := by
        cases er : ρ[i]? with
        | none => rw [er] at h; simp at h
        | some x =>
          rw [er] at h
          cases x <;> simp at h
          · subst h; exact .inl rfl
          · subst h; exact .inr rfl
      obtain ⟨b, g1, g2, g3⟩ := S.own i d ho
      obtain ⟨v, k1, k2⟩ := args_at A e
      have k3 : σ[i]? = some (some v) := k2
      rw [g1] at k3
      injection k3 with k3
      injection k3 with k3
      subst k3
      exact ⟨i, b, rfl, ho, g1, by rw [List.getElem?_map, k1]; rfl, g2, g3⟩
theorem call_sr {as : List Arg} {vs : List V} (S : SR K Hf σ ρ H) (A : ArgsRep K Hf σ as vs) (ap : apart as = true) : SR K Hf (vs.map some) (as.map (slOf ρ)) H where
  sub := S.sub
  len := by rw [List.length_map, List.length_map, args_len A]
  val := fun j d h => by
    rw [List.getElem?_map] at h
    cases e : as[j]? with
    | none => rw [e] at h; simp at h
    | some a =>
      rw [e] at h
      cases a with
      | v d' =>
        simp [slOf] at h
        subst h
        obtain ⟨v, k1, k2⟩ := args_at A e
        exact ⟨v, by rw [List.getElem?_map, k1]; rfl, k2⟩
      | s i =>
        simp only [Option.map_some, Option.some.injEq, slOf] at h
        cases er : ρ[i]? with
        | none => rw [er] at h; simp at h
        | some x => rw [er] at h; cases x <;> simp at h
  own := fun j d h => by
    obtain ⟨i, a, _, _, _, k4, k5, k6⟩ := lent_own S A h
    exact ⟨a, k4, k5, k6⟩
  inj := fun j l a h h' => by
    obtain ⟨h1, d, h2⟩ := h
    obtain ⟨h3, d', h4⟩ := h'
    obtain ⟨i, b, k1, k2, k3, k4, _, _⟩ := lent_own S A h2
    obtain ⟨i', b', k1', k2', k3', k4', _, _⟩ := lent_own S A h4
    rw [k4] at h1; cases h1
    rw [k4'] at h3; cases h3
    have ei : i = i' := S.inj i i' a ⟨k3, d, k2⟩ ⟨k3', d', k2'⟩
    subst ei
    exact apart_inj ap k1 k1'
/-- behind the call: our own state -/
theorem call_after {as : List Arg} {vs : List V} {ys : Ro} (S : SR K Hf σ ρ H) (A : ArgsRep K Hf σ as vs) (ap : apart as = true)
    (s1 : Stp Hf (vs.map some) (as.map (slOf ρ)) H Hf' (vs.map some) ys H') (S1 : SR K Hf' (vs.map some) ys H') : Stp Hf σ ρ H Hf' σ (putBack as ys ρ) H' ∧ SR K Hf' σ (putBack as ys ρ) H' := by
  have noo : ∀ b, ¬ OO (vs.map some) (as.map (slOf ρ)) b := fun b ⟨j, d, _, h⟩ => by
    rw [List.getElem?_map] at h
    cases e : as[j]? with
    | none => rw [e] at h; simp at h
    | some a =>
      rw [e] at h
      cases a with
      | v d' => simp [slOf] at h
      | s i =>
        simp only [Option.map_some, Option.some.injEq, slOf] at h
        cases er : ρ[i]? with
        | none => rw [er] at h; simp at h
        | some x => rw [er] at h; cases x <;> simp at h
  have loa : ∀ b, OA (vs.map some) (as.map (slOf ρ)) b → OA σ ρ b := fun b ⟨j, h1, d, h2⟩ => by
    obtain ⟨i, a, k1, k2, k3, k4, _, _⟩ := lent_own S A h2
    rw [k4] at h1; cases h1
    exact ⟨i, k3, d, k2⟩
  -- what stands at a slot
  have at_ : ∀ i : Nat, ((putBack as ys ρ)[i]? = ρ[i]? ∧ ∀ j : Nat, as[j]? ≠ some (.s i)) ∨ ∃ (j : Nat) (y : Sl), as[j]? = some (.s i) ∧ ys[j]? = some y ∧ (putBack as ys ρ)[i]? = (ρ[i]?).map fun x => back1 x y := fun i => by
    by_cases h : ∃ j : Nat, as[j]? = some (.s i)
    · obtain ⟨j, h⟩ := h
      have hj : j < ys.length := by
        have e1 : ys.length = vs.length := by have := S1.len; simpa using this.symm
        rw [e1, ← args_len A]
        exact (List.getElem?_eq_some_iff.mp h).1
      exact .inr ⟨j, ys[j], h, List.getElem?_eq_getElem hj, putBack_in ap h (List.getElem?_eq_getElem hj)⟩
    · exact .inl ⟨putBack_out fun j e => h ⟨j, e⟩, fun j e => h ⟨j, e⟩⟩
  -- an owned slot of ours, before and behind
  have own_ : ∀ (i : Nat) (d : D), ((putBack as ys ρ)[i]? = some (Sl.o d) → ∃ d0, ρ[i]? = some (Sl.o d0)) ∧ ((putBack as ys ρ)[i]? = some (Sl.p d) → ∃ d0, ρ[i]? = some (Sl.p d0)) := fun i d => by
    rcases at_ i with ⟨h, _⟩ | ⟨j, y, _, _, h⟩
    · exact ⟨fun e => ⟨d, h ▸ e⟩, fun e => ⟨d, h ▸ e⟩⟩
    · rw [h]
      cases e : ρ[i]? with
      | none => simp
      | some x => cases x <;> cases y <;> simp [back1]
  have own' : ∀ (i : Nat) (d : D), (ρ[i]? = some (Sl.o d) → ∃ d', (putBack as ys ρ)[i]? = some (Sl.o d')) ∧ (ρ[i]? = some (Sl.p d) → ∃ d', (putBack as ys ρ)[i]? = some (Sl.p d')) := fun i d => by
    rcases at_ i with ⟨h, _⟩ | ⟨j, y, _, _, h⟩
    · exact ⟨fun e => ⟨d, h.trans e⟩, fun e => ⟨d, h.trans e⟩⟩
    · constructor
      · intro e; rw [h, e]; cases y <;> simp [back1]
      · intro e; rw [h, e]; cases y <;> simp [back1]
  refine ⟨⟨s1.fz, fun b o h n => s1.keep b o h fun q => n (loa b q), s1.there, fun b h h1 _ => s1.out b h h1 (noo b), fun i d h => ⟨(own' i d).2 h, rfl⟩, fun i d h => (own_ i d).2 h, fun b ⟨i, d, h1, h2⟩ => ?_, putBack_len⟩, ⟨S1.sub, by rw [putBack_len]; exact S.len, fun i d h => ?_, fun i d h => ?_, fun i j a h h' => ?_⟩⟩
  · obtain ⟨d0, h3⟩ := (own_ i d).1 h2
    exact .inr ⟨i, d0, h1, h3⟩
  · have e : ρ[i]? = some (Sl.v d) := by
      rcases at_ i with ⟨g, _⟩ | ⟨j, y, _, _, g⟩
      · exact g ▸ h
      · rw [g] at h
        cases e : ρ[i]? with
        | none => rw [e] at h; simp at h
        | some x => rw [e] at h; cases x <;> cases y <;> simp [back1] at h <;> rw [h]
    obtain ⟨v, g1, g2⟩ := S.val i d e
    exact ⟨v, g1, Rep.mono s1.fz g2⟩
  · -- the owned slot's content
    have h0 : ∃ d0, ρ[i]? = some (Sl.o d0) ∨ ρ[i]? = some (Sl.p d0) := by
      rcases h with h | h
      · obtain ⟨d0, e⟩ := (own_ i d).1 h; exact ⟨d0, .inl e⟩
      · obtain ⟨d0, e⟩ := (own_ i d).2 h; exact ⟨d0, .inr e⟩
    obtain ⟨d0, h0⟩ := h0
    obtain ⟨a, g1, g2, g3⟩ := S.own i d0 h0
    rcases at_ i with ⟨e, hn⟩ | ⟨j, y, k1, k2, e⟩
    · -- not lent
      have hd : d0 = d := by
        rw [e] at h
        rcases h with h | h <;> rcases h0 with h0 | h0 <;> rw [h] at h0 <;> cases h0 <;> rfl
      subst hd
      refine ⟨a, g1, s1.out a g3.there g2 (noo a), RepO.mono s1.fz ?_ g3⟩
      cases q : H a with
      | none => exact absurd q g3.there
      | some o =>
        refine s1.keep a o q fun ⟨j, z1, d1, z2⟩ => ?_
        obtain ⟨i', a', w1, w2, w3, w4, _, _⟩ := lent_own S A z2
        rw [w4] at z1; cases z1
        exact hn j (by rw [S.inj i i' a ⟨g1, d0, h0⟩ ⟨w3, d1, w2⟩]; exact w1)
    · -- lent
      have hl : (as.map (slOf ρ))[j]? = some (Sl.p d0) := by
        rw [List.getElem?_map, k1]
        rcases h0 with h0 | h0 <;> simp [slOf, h0]
      obtain ⟨⟨d2, p1⟩, _⟩ := s1.pin j d0 hl
      rw [k2] at p1; cases p1
      have hd : d2 = d := by
        rw [e] at h
        rcases h0 with h0 | h0 <;> rw [h0] at h <;> rcases h with h | h <;> simp [back1] at h <;> exact h
      subst hd
      obtain ⟨a', q1, q2, q3⟩ := S1.own j d2 (.inr k2)
      obtain ⟨i', a2, w1, w2, w3, w4, _, _⟩ := lent_own S A (.inr hl)
      rw [w4] at q1; cases q1
      have ei : i = i' := by rw [k1] at w1; cases w1; rfl
      subst ei
      rw [g1] at w3; cases w3
      exact ⟨a, g1, q2, q3⟩
  · obtain ⟨h1, d, h2⟩ := h
    obtain ⟨h3, d', h4⟩ := h'
    have z1 : ∃ d0, ρ[i]? = some (Sl.o d0) ∨ ρ[i]? = some (Sl.p d0) := by
      rcases h2 with h | h
      · obtain ⟨d0, e⟩ := (own_ i d).1 h; exact ⟨d0, .inl e⟩
      · obtain ⟨d0, e⟩ := (own_ i d).2 h; exact ⟨d0, .inr e⟩
    have z2 : ∃ d0, ρ[j]? = some (Sl.o d0) ∨ ρ[j]? = some (Sl.p d0) := by
      rcases h4 with h | h
      · obtain ⟨d0, e⟩ := (own_ j d').1 h; exact ⟨d0, .inl e⟩
      · obtain ⟨d0, e⟩ := (own_ j d').2 h; exact ⟨d0, .inr e⟩
    exact S.inj i j a ⟨h1, z1⟩ ⟨h3, z2⟩

theorem callR_inv {m : EM D} {as : List Arg} {k : D → Ro → Prop} (h : Wp K mg W (callR m as ρ) k) : apart as = true ∧ Wp K mg W (m (as.map (slOf ρ))) fun d ys => k d (putBack as ys ρ) := by
  unfold callR at h
  by_cases ap : apart as = true
  · rw [if_pos ap] at h
    refine ⟨ap, ?_⟩
    cases e : m (as.map (slOf ρ)) with
    | bad => rw [e] at h; exact h
    | ok d ys => rw [e] at h; exact h
    | err x => rw [e] at h; exact h
  · rw [if_neg ap] at h; exact h.elim
theorem slOf_no {as : List Arg} (j : Nat) (d : D) : (as.map (slOf ρ))[j]? ≠ some (Sl.o d) := fun h => by
  rw [List.getElem?_map] at h
  cases e : as[j]? with
  | none => rw [e] at h; simp at h
  | some a =>
    rw [e] at h
    cases a with
    | v d' => simp [slOf] at h
    | s i =>
      simp only [Option.map_some, Option.some.injEq, slOf] at h
      cases er : ρ[i]? with
      | none => rw [er] at h; simp at h
      | some x => rw [er] at h; cases x <;> simp at h
theorem putBack_own {i : Nat} : ∀ {as : List Arg} {ys ρ : Ro}, (∃ d, (putBack as ys ρ)[i]? = some (Sl.o d) ∨ (putBack as ys ρ)[i]? = some (Sl.p d)) → ∃ d, ρ[i]? = some (Sl.o d) ∨ ρ[i]? = some (Sl.p d)
  | [], _, _, h => h
  | .v d :: r, [], _, h => h
  | .s k :: r, [], _, h => h
  | .v d :: r, y :: ys, ρ, h => putBack_own (as := r) (ys := ys) h
  | .s k :: r, y :: ys, ρ, h => by
    unfold putBack at h
    have h := putBack_own (as := r) (ys := ys) h
    cases e : ρ[k]? with
    | none => rw [e] at h; exact h
    | some x =>
      rw [e] at h
      simp only at h
      by_cases hk : k = i
      · subst hk
        rw [List.getElem?_set_self (List.getElem?_eq_some_iff.mp e).1] at h
        rw [e]
        obtain ⟨d, h | h⟩ := h <;> cases x <;> cases y <;> simp [back1] at h <;> simp
      · rw [List.getElem?_set_ne hk] at h
        exact h
theorem putBack_oa {as : List Arg} {ys : Ro} {a : Addr} (h : OA σ (putBack as ys ρ) a) : OA σ ρ a := let ⟨i, h1, h2⟩ := h; ⟨i, h1, putBack_own h2⟩
theorem TD.call {t : TA} {n : Nat} {m : EM D} {fa : EM (List Arg)} (ha : TAR K mg W t fa) (hn : ∀ ρ as ρ', fa ρ = .ok as ρ' → as.length = n) : TD K mg W (tCall (spM K mg n m) [] W t) (callE m fa) := by
  intro Hf σ ρ H S Q h
  have h := Wp.bind h
  refine ha Hf σ ρ H S _ ?_
  cases e : fa ρ with
  | bad => rw [e] at h; exact h
  | err x => rw [e] at h; exact h
  | ok as ρ1 =>
    rw [e] at h
    intro vs Hf1 H1 s1 S1 A
    obtain ⟨ap, h1⟩ := callR_inv (show Wp K mg W (callR m as ρ1) _ from h)
    rw [List.append_nil]
    refine ⟨by rw [← args_len A]; exact hn _ _ _ e, Hf1, as.map (slOf ρ1), call_sr S1 A ap, slOf_no, h1.mono fun d ys h2 v Hf2 H2 s2 S2 r2 => ?_⟩
    obtain ⟨s3, S3⟩ := call_after S1 A ap s2 S2
    exact h2 v Hf2 H2 (s1.trans s3) S3 r2
theorem TF.call {t : TA} {n : Nat} {m : EM D} {fa : EM (List Arg)} (ha : TAR K mg W t fa) (hn : ∀ ρ as ρ', fa ρ = .ok as ρ' → as.length = n) : TF K mg W (tCall (spF K mg n m) [] W t) (callE m fa) := by
  intro Hf σ ρ H S Q h
  have h := Wp.bind h
  refine ha Hf σ ρ H S _ ?_
  cases e : fa ρ with
  | bad => rw [e] at h; exact h
  | err x => rw [e] at h; exact h
  | ok as ρ1 =>
    rw [e] at h
    intro vs Hf1 H1 s1 S1 A
    obtain ⟨ap, h1⟩ := callR_inv (show Wp K mg W (callR m as ρ1) _ from h)
    rw [List.append_nil]
    refine ⟨by rw [← args_len A]; exact hn _ _ _ e, Hf1, as.map (slOf ρ1), call_sr S1 A ap, slOf_no, h1.mono fun d ys h2 a Hf2 H2 s2 S2 n1 n2 r2 no => ?_⟩
    obtain ⟨s3, S3⟩ := call_after S1 A ap s2 S2
    refine h2 a Hf2 H2 (s1.trans s3) S3 ?_ n2 r2 fun q => ?_
    · cases q : H a with
      | none => rfl
      | some o => exact absurd n1 (s1.there a (by rw [q]; simp))
    · exact (S1.oa (putBack_oa q)).2 n1
end
end DL

/-! The D layer, 4: targets, statements, loops, defs. -/
namespace DL
open PySem L2

section
variable {K : PySem.W.Frag} {mg : Str → Option Value} {W : XK} {Hf H Hf' H' Hf1 H1 : Hp} {σ σ' : L2.St} {ρ ρ' : Ro}

/-! ### storing data into a slot -/
def setT (i : Nat) (d : D) (ρ : Ro) : Option Ro := match ρ[i]? with
  | none => none
  | some (.p _) => none
  | some _ => some (ρ.set i (.v d))
theorem get_set {α : Type} {l : List α} {i j : Nat} {x : α} : (l.set i x)[j]? = if i = j then (if i < l.length then some x else none) else l[j]? := by
  by_cases h : i = j
  · subst h
    rw [if_pos rfl]
    by_cases hl : i < l.length
    · rw [if_pos hl, List.getElem?_set_self hl]
    · rw [if_neg hl, List.getElem?_eq_none (by simpa using hl)]
  · rw [if_neg h, List.getElem?_set_ne h]
/-- slot i gets data -/
theorem set_v {i : Nat} {d : D} {v : V} (S : SR K Hf σ ρ H) (r : Rep K Hf d v) (hl : i < ρ.length) (np : ∀ d : D, ρ[i]? ≠ some (Sl.p d)) : Stp Hf σ ρ H Hf (σ.set i (some v)) (ρ.set i (.v d)) H ∧ SR K Hf (σ.set i (some v)) (ρ.set i (.v d)) H := by
  have hls : i < σ.length := by rw [S.len]; exact hl
  have old : ∀ (j : Nat) (d' : D), ((ρ.set i (.v d))[j]? = some (Sl.o d') → i ≠ j ∧ ρ[j]? = some (Sl.o d')) ∧ ((ρ.set i (.v d))[j]? = some (Sl.p d') → i ≠ j ∧ ρ[j]? = some (Sl.p d')) := fun j d' => by
    rw [get_set]
    by_cases h : i = j
    · rw [if_pos h, if_pos hl]; simp
    · rw [if_neg h]; exact ⟨fun e => ⟨h, e⟩, fun e => ⟨h, e⟩⟩
  refine ⟨⟨fun _ _ h => h, fun _ _ h _ => h, fun _ h => h, fun _ _ h _ => h, fun j d' h => ?_, fun j d' h => ⟨d', ((old j d').2 h).2⟩, fun b ⟨j, d', h1, h2⟩ => ?_, by simp⟩, ⟨S.sub, by simp [S.len], fun j d' h => ?_, fun j d' h => ?_, fun j l a ⟨h1, d1, h2⟩ ⟨h3, d2, h4⟩ => ?_⟩⟩
  · have ne : i ≠ j := fun e => np d' (e ▸ h)
    exact ⟨⟨d', by rw [get_set, if_neg ne]; exact h⟩, by rw [get_set, if_neg ne]⟩
  · obtain ⟨ne, h3⟩ := (old j d').1 h2
    rw [get_set, if_neg ne] at h1
    exact .inr ⟨j, d', h1, h3⟩
  · rw [get_set] at h
    by_cases e : i = j
    · subst e
      rw [if_pos rfl, if_pos hl] at h
      cases h
      exact ⟨v, by rw [get_set, if_pos rfl, if_pos hls], r⟩
    · rw [if_neg e] at h
      obtain ⟨w, g1, g2⟩ := S.val j d' h
      exact ⟨w, by rw [get_set, if_neg e]; exact g1, g2⟩
  · have h' : i ≠ j ∧ (ρ[j]? = some (Sl.o d') ∨ ρ[j]? = some (Sl.p d')) := by
      rcases h with h | h
      · exact ⟨((old j d').1 h).1, .inl ((old j d').1 h).2⟩
      · exact ⟨((old j d').2 h).1, .inr ((old j d').2 h).2⟩
    obtain ⟨b, g1, g2, g3⟩ := S.own j d' h'.2
    exact ⟨b, by rw [get_set, if_neg h'.1]; exact g1, g2, g3⟩
  · have n1 : i ≠ j ∧ (ρ[j]? = some (Sl.o d1) ∨ ρ[j]? = some (Sl.p d1)) := by
      rcases h2 with h | h
      · exact ⟨((old j d1).1 h).1, .inl ((old j d1).1 h).2⟩
      · exact ⟨((old j d1).2 h).1, .inr ((old j d1).2 h).2⟩
    have n2 : i ≠ l ∧ (ρ[l]? = some (Sl.o d2) ∨ ρ[l]? = some (Sl.p d2)) := by
      rcases h4 with h | h
      · exact ⟨((old l d2).1 h).1, .inl ((old l d2).1 h).2⟩
      · exact ⟨((old l d2).2 h).1, .inr ((old l d2).2 h).2⟩
    rw [get_set, if_neg n1.1] at h1
    rw [get_set, if_neg n2.1] at h3
    exact S.inj j l a ⟨h1, d1, n1.2⟩ ⟨h3, d2, n2.2⟩
/-- slot i gets a thing of its own -/
theorem set_o {i : Nat} {d : D} {a : Addr} (S : SR K Hf σ ρ H) (hf : Hf a = none) (r : RepO K Hf H d a) (no : ¬ OA σ ρ a) (hl : i < ρ.length) (np : ∀ d : D, ρ[i]? ≠ some (Sl.p d)) {H0 Hf0 : Hp} {ρ0 : Ro} (s : Stp Hf0 σ ρ0 H0 Hf σ ρ H) (ha : H0 a = none) :
    Stp Hf0 σ ρ0 H0 Hf (σ.set i (some (.ref a))) (ρ.set i (.o d)) H ∧ SR K Hf (σ.set i (some (.ref a))) (ρ.set i (.o d)) H := by
  have hls : i < σ.length := by rw [S.len]; exact hl
  have old : ∀ (j : Nat) (d' : D), ((ρ.set i (.o d))[j]? = some (Sl.o d') → (i = j ∧ d' = d) ∨ (i ≠ j ∧ ρ[j]? = some (Sl.o d'))) ∧ ((ρ.set i (.o d))[j]? = some (Sl.p d') → i ≠ j ∧ ρ[j]? = some (Sl.p d')) := fun j d' => by
    rw [get_set]
    by_cases h : i = j
    · rw [if_pos h, if_pos hl]; simp [h, eq_comm]
    · rw [if_neg h]; exact ⟨fun e => .inr ⟨h, e⟩, fun e => ⟨h, e⟩⟩
  have own2 : ∀ (j : Nat) (b : Addr), OwnAt (σ.set i (some (.ref a))) (ρ.set i (.o d)) j b → (i = j ∧ b = a) ∨ (i ≠ j ∧ OwnAt σ ρ j b) := fun j b ⟨h1, d1, h2⟩ => by
    by_cases e : i = j
    · subst e
      rw [get_set, if_pos rfl, if_pos hls] at h1
      cases h1
      exact .inl ⟨rfl, rfl⟩
    · rw [get_set, if_neg e] at h1
      rw [get_set, if_neg e] at h2
      exact .inr ⟨e, h1, d1, h2⟩
  refine ⟨⟨s.fz, s.keep, s.there, s.out, fun j d' h => ?_, fun j d' h => s.pin' j d' ((old j d').2 h).2, fun b ⟨j, d', h1, h2⟩ => ?_, by simp [s.len]⟩, ⟨S.sub, by simp [S.len], fun j d' h => ?_, fun j d' h => ?_, fun j l b h1 h2 => ?_⟩⟩
  · obtain ⟨⟨d2, p1⟩, p2⟩ := s.pin j d' h
    have ne : i ≠ j := fun e => np d2 (e ▸ p1)
    exact ⟨⟨d2, by rw [get_set, if_neg ne]; exact p1⟩, by rw [get_set, if_neg ne]⟩
  · by_cases e : i = j
    · subst e
      rw [get_set, if_pos rfl, if_pos hls] at h1
      cases h1
      exact .inl ha
    · rw [get_set, if_neg e] at h1
      rw [get_set, if_neg e] at h2
      exact s.oo b ⟨j, d', h1, h2⟩
  · rw [get_set] at h
    by_cases e : i = j
    · rw [if_pos e, if_pos hl] at h; cases h
    · rw [if_neg e] at h
      obtain ⟨w, g1, g2⟩ := S.val j d' h
      exact ⟨w, by rw [get_set, if_neg e]; exact g1, g2⟩
  · by_cases e : i = j
    · subst e
      have : d' = d := by
        rw [get_set, if_pos rfl, if_pos hl] at h
        rcases h with h | h <;> cases h <;> rfl
      subst this
      exact ⟨a, by rw [get_set, if_pos rfl, if_pos hls], hf, r⟩
    · rw [get_set, if_neg e] at h
      obtain ⟨b, g1, g2, g3⟩ := S.own j d' h
      exact ⟨b, by rw [get_set, if_neg e]; exact g1, g2, g3⟩
  · rcases own2 j b h1 with ⟨e1, e2⟩ | ⟨e1, k1⟩ <;> rcases own2 l b h2 with ⟨f1, f2⟩ | ⟨f1, k2⟩
    · rw [← e1, ← f1]
    · subst e2; exact absurd ⟨l, k2⟩ no
    · subst f2; exact absurd ⟨j, k1⟩ no
    · exact S.inj j l b k1 k2
/-- an owned thing is data from now on; a dict is locked -/
theorem freezeG {i : Nat} {d : D} {a : Addr} {o o' : HO} (S : SR K Hf σ ρ H) (h : ρ[i]? = some (Sl.o d)) (h1 : σ[i]? = some (some (V.ref a))) (h2 : Hf a = none) (h3 : RepO K Hf H d a) (e : H a = some o) (f : Froz o o') (hd : isDic o → o' ≠ o) :
    Stp Hf σ ρ H (upd Hf a o') σ (ρ.set i (.v d)) (upd H a o') ∧ SR K (upd Hf a o') σ (ρ.set i (.v d)) (upd H a o') := by
  have hl : i < ρ.length := (List.getElem?_eq_some_iff.mp h).1
  have sm : Same Hf (upd Hf a o') := same_upd h2
  have rp : Rep K (upd Hf a o') d (.ref a) := rep_froz e h3 f hd sm upd_same
  have own : OA σ ρ a := ⟨i, h1, d, .inl h⟩
  have old : ∀ (j : Nat) (d' : D), ((ρ.set i (.v d))[j]? = some (Sl.o d') → i ≠ j ∧ ρ[j]? = some (Sl.o d')) ∧ ((ρ.set i (.v d))[j]? = some (Sl.p d') → i ≠ j ∧ ρ[j]? = some (Sl.p d')) := fun j d' => by
    rw [get_set]
    by_cases h : i = j
    · rw [if_pos h, if_pos hl]; simp
    · rw [if_neg h]; exact ⟨fun e => ⟨h, e⟩, fun e => ⟨h, e⟩⟩
  refine ⟨⟨sm, fun b u hb n => ?_, fun b hb => ?_, fun b hb hf n => ?_, fun j d' hp => ?_, fun j d' hp => ⟨d', ((old j d').2 hp).2⟩, fun b ⟨j, d', g1, g2⟩ => .inr ⟨j, d', g1, ((old j d').1 g2).2⟩, by simp⟩, ⟨fun b u e1 => ?_, by simp [S.len], fun j d' hv => ?_, fun j d' ho => ?_, fun j l b ⟨g1, d1, g2⟩ ⟨g3, d2, g4⟩ => ?_⟩⟩
  · rw [upd_ne (fun eb => n (by rw [eb]; exact own))]; exact hb
  · by_cases eb : b = a
    · subst eb; rw [upd_same]; simp
    · rw [upd_ne eb]; exact hb
  · by_cases eb : b = a
    · subst eb; exact absurd ⟨i, d, h1, h⟩ n
    · rw [upd_ne eb]; exact hf
  · have ne : i ≠ j := fun e => by rw [e, hp] at h; cases h
    exact ⟨⟨d', by rw [get_set, if_neg ne]; exact hp⟩, rfl⟩
  · by_cases hb : b = a
    · subst hb; rw [upd_same] at e1 ⊢; exact e1
    · rw [upd_ne hb] at e1 ⊢; exact S.sub b u e1
  · rw [get_set] at hv
    by_cases ej : i = j
    · subst ej
      rw [if_pos rfl, if_pos hl] at hv
      cases hv
      exact ⟨.ref a, h1, rp⟩
    · rw [if_neg ej] at hv
      obtain ⟨w, k1, k2⟩ := S.val j d' hv
      exact ⟨w, k1, Rep.mono sm k2⟩
  · have ho' : i ≠ j ∧ (ρ[j]? = some (Sl.o d') ∨ ρ[j]? = some (Sl.p d')) := by
      rcases ho with g | g
      · exact ⟨((old j d').1 g).1, .inl ((old j d').1 g).2⟩
      · exact ⟨((old j d').2 g).1, .inr ((old j d').2 g).2⟩
    obtain ⟨b, k1, k2, k3⟩ := S.own j d' ho'.2
    have nb : b ≠ a := fun eb => by
      subst eb
      exact ho'.1 (S.inj i j b ⟨h1, d, .inl h⟩ ⟨k1, d', ho'.2⟩)
    exact ⟨b, k1, by rw [upd_ne nb]; exact k2, RepO.mono sm (upd_ne nb) k3⟩
  · have n1 : ρ[j]? = some (Sl.o d1) ∨ ρ[j]? = some (Sl.p d1) := by
      rcases g2 with g | g
      · exact .inl ((old j d1).1 g).2
      · exact .inr ((old j d1).2 g).2
    have n2 : ρ[l]? = some (Sl.o d2) ∨ ρ[l]? = some (Sl.p d2) := by
      rcases g4 with g | g
      · exact .inl ((old l d2).1 g).2
      · exact .inr ((old l d2).2 g).2
    exact S.inj j l b ⟨g1, d1, n1⟩ ⟨g3, d2, n2⟩

/-! ### targets -/
/-- is: the slots that it stores to -/
def TGD (K : PySem.W.Frag) (g : TG) (is : List Nat) (f : D → Ro → Option Ro) : Prop :=
  ∀ Hf σ ρ H d v ρ', SR K Hf σ ρ H → Rep K Hf d v → f d ρ = some ρ' → ∀ Q : L2.St → Hp → Prop, (∀ σ', Stp Hf σ ρ H Hf σ' ρ' H → SR K Hf σ' ρ' H → (∀ j : Nat, j ∉ is → σ'[j]? = σ[j]?) → Q σ' H) → g v σ H Q
def TGDs (K : PySem.W.Frag) (g : TGs) (is : List Nat) (f : List D → Ro → Option Ro) : Prop :=
  ∀ Hf σ ρ H ds vs ρ', SR K Hf σ ρ H → Reps K Hf ds vs → f ds ρ = some ρ' → ∀ Q : L2.St → Hp → Prop, (∀ σ', Stp Hf σ ρ H Hf σ' ρ' H → SR K Hf σ' ρ' H → (∀ j : Nat, j ∉ is → σ'[j]? = σ[j]?) → Q σ' H) → g vs σ H Q
theorem setT_inv {i : Nat} {d : D} (h : setT i d ρ = some ρ') : i < ρ.length ∧ (∀ d : D, ρ[i]? ≠ some (Sl.p d)) ∧ ρ' = ρ.set i (.v d) := by
  unfold setT at h
  cases e : ρ[i]? with
  | none => rw [e] at h; cases h
  | some x =>
    have hl := (List.getElem?_eq_some_iff.mp e).1
    cases x <;> rw [e] at h <;> simp at h <;> exact ⟨hl, (fun d h2 => by simp at h2), h.symm⟩
theorem TGD.name {i : Nat} : TGD K (gName i) [i] (setT i) := by
  intro Hf σ ρ H d v ρ' S r e Q h
  obtain ⟨hl, np, rfl⟩ := setT_inv e
  obtain ⟨s1, S1⟩ := set_v S r hl np
  exact h _ s1 S1 fun j hj => List.getElem?_set_ne (fun e => hj (by simp [e]))
def nilT : List D → Ro → Option Ro
  | [], ρ => some ρ
  | _, _ => none
def consT (f : D → Ro → Option Ro) (g : List D → Ro → Option Ro) : List D → Ro → Option Ro
  | d :: ds, ρ => (f d ρ).bind (g ds)
  | [], _ => none
def tupT (n : Nat) (g : List D → Ro → Option Ro) (d : D) (ρ : Ro) : Option Ro := match d with
  | .tup ds => if ds.length = n then g ds ρ else none
  | .prt ds => if ds.length = n then g ds ρ else none
  | _ => none
theorem TGDs.nil : TGDs K gNil [] nilT := by
  intro Hf σ ρ H ds vs ρ' S r e Q h
  cases ds with
  | nil =>
    unfold nilT at e; cases e
    unfold Reps at r
    exact ⟨r, h σ Stp.refl S fun _ _ => rfl⟩
  | cons => cases e
theorem TGDs.cons {g : TG} {gs : TGs} {is js : List Nat} {f : D → Ro → Option Ro} {fs : List D → Ro → Option Ro} (h1 : TGD K g is f) (h2 : TGDs K gs js fs) : TGDs K (gCons g gs) (is ++ js) (consT f fs) := by
  intro Hf σ ρ H ds vs ρ' S r e Q h
  cases ds with
  | nil => cases e
  | cons d ds =>
    have e : (f d ρ).bind (fs ds) = some ρ' := e
    cases e1 : f d ρ with
    | none => rw [e1] at e; cases e
    | some ρ1 =>
      rw [e1] at e
      unfold Reps at r
      obtain ⟨v, r', rfl, r1, r2⟩ := r
      refine ⟨v, r', rfl, h1 Hf σ ρ H d v ρ1 S r1 e1 _ fun σ1 s1 S1 k1 => ?_⟩
      exact h2 Hf σ1 ρ1 H ds r' ρ' S1 r2 e Q fun σ2 s2 S2 k2 => h σ2 (s1.trans s2) S2 fun j hj => (k2 j fun q => hj (List.mem_append_right _ q)).trans (k1 j fun q => hj (List.mem_append_left _ q))
theorem reps_len : ∀ {ds : List D} {vs : List V}, Reps K Hf ds vs → ds.length = vs.length
  | [], _, h => by unfold Reps at h; rw [h]; rfl
  | d :: ds, _, h => by
    unfold Reps at h
    obtain ⟨v, r, rfl, _, h3⟩ := h
    simp [reps_len h3]
theorem TGD.tup {n : Nat} {gs : TGs} {is : List Nat} {fs : List D → Ro → Option Ro} (h : TGDs K gs is fs) : TGD K (gTup K n gs) is (tupT n fs) := by
  intro Hf σ ρ H d v ρ' S r e Q k
  cases d with
  | tup ds =>
    unfold tupT at e
    simp only at e
    by_cases hn : ds.length = n
    · rw [if_pos hn] at e
      unfold Rep at r
      obtain ⟨a, vs, rfl, r1, r2⟩ := r
      exact ⟨a, vs, rfl, Same.sqT S.sub r1.sqT, by rw [← reps_len r2]; exact hn, h Hf σ ρ H ds vs ρ' S r2 e Q k⟩
    · rw [if_neg hn] at e; cases e
  | prt ds =>
    unfold tupT at e
    simp only at e
    by_cases hn : ds.length = n
    · rw [if_pos hn] at e
      unfold Rep at r
      obtain ⟨a, vs, rfl, r1, r2⟩ := r
      exact ⟨a, vs, rfl, Same.sqT S.sub r1, by rw [← reps_len r2]; exact hn, h Hf σ ρ H ds vs ρ' S r2 e Q k⟩
    · rw [if_neg hn] at e; cases e
  | _ => cases e

/-! ### statements -/
inductive Fl where
  | nx | ret (d : D) | brk | cnt
abbrev SM := Ro → Res Fl
def EndOk (K : PySem.W.Frag) (E : Ends) (fl : Fl) (Hf : Hp) (σ : L2.St) (H : Hp) : Prop := match fl with
  | .nx => E.nx σ H
  | .ret d => ∀ v, Rep K Hf d v → E.rt v H
  | .brk => E.bk σ H
  | .cnt => E.ct σ H
/-- what follows, from a state -/
def Cont (K : PySem.W.Frag) (E : Ends) (Hf : Hp) (σ : L2.St) (ρ : Ro) (H : Hp) (fl : Fl) (ρ' : Ro) : Prop := ∀ Hf' σ' H', Stp Hf σ ρ H Hf' σ' ρ' H' → SR K Hf' σ' ρ' H' → EndOk K E fl Hf' σ' H'
theorem Cont.step {E : Ends} {fl : Fl} {ρ2 : Ro} (c : Cont K E Hf σ ρ H fl ρ2) (s : Stp Hf σ ρ H Hf' σ' ρ' H') : Cont K E Hf' σ' ρ' H' fl ρ2 := fun Hf2 σ2 H2 s2 S2 => c Hf2 σ2 H2 (s.trans s2) S2
def TSD (K : PySem.W.Frag) (mg : Str → Option Value) (W : XK) (t : TS) (f : SM) : Prop :=
  ∀ Hf σ ρ H, SR K Hf σ ρ H → ∀ E : Ends, Wp K mg W (f ρ) (Cont K E Hf σ ρ H) → t E σ H
def seqS (f g : SM) : SM := fun ρ => match f ρ with
  | .ok .nx ρ1 => g ρ1
  | r => r
def nextS : SM := fun ρ => .ok .nx ρ
theorem TSD.next : TSD K mg W tNext nextS := fun Hf σ ρ H S E h => h Hf σ H Stp.refl S
theorem TSD.seq {t u : TS} {f g : SM} (h1 : TSD K mg W t f) (h2 : TSD K mg W u g) : TSD K mg W (tSeq t u) (seqS f g) := by
  intro Hf σ ρ H S E h
  refine h1 Hf σ ρ H S _ ?_
  unfold seqS at h
  cases e : f ρ with
  | bad => rw [e] at h; exact h
  | err x => rw [e] at h; exact h
  | ok fl ρ1 =>
    rw [e] at h
    cases fl with
    | nx =>
      intro Hf1 σ1 H1 s1 S1
      exact h2 Hf1 σ1 ρ1 H1 S1 E (Wp.mono h fun a ρ2 c => c.step s1)
    | ret d => exact fun Hf1 σ1 H1 s1 S1 => h Hf1 σ1 H1 s1 S1
    | brk => exact fun Hf1 σ1 H1 s1 S1 => h Hf1 σ1 H1 s1 S1
    | cnt => exact fun Hf1 σ1 H1 s1 S1 => h Hf1 σ1 H1 s1 S1
def asgS (fe : EM D) (g : D → Ro → Option Ro) : SM := fun ρ => (fe ρ).bind fun d ρ1 => match g d ρ1 with
  | some ρ2 => .ok .nx ρ2
  | none => .bad
theorem Wp.rbind {α β : Type} {r : Res α} {f : α → Ro → Res β} {k : β → Ro → Prop} (h : Wp K mg W (r.bind f) k) : Wp K mg W r fun a ρ1 => Wp K mg W (f a ρ1) k := by
  cases r with
  | bad => exact h
  | ok a ρ' => exact h
  | err x => exact h
theorem TSD.asg {te : TE} {g : TG} {is : List Nat} {fe : EM D} {f : D → Ro → Option Ro} (he : TD K mg W te fe) (hg : TGD K g is f) : TSD K mg W (tAsg te g) (asgS fe f) := by
  intro Hf σ ρ H S E h
  refine he Hf σ ρ H S _ ((Wp.rbind h).mono fun d ρ1 h1 v Hf1 H1 s1 S1 r1 => ?_)
  cases e : f d ρ1 with
  | none => rw [e] at h1; exact h1.elim
  | some ρ2 =>
    rw [e] at h1
    exact hg Hf1 σ ρ1 H1 d v ρ2 S1 r1 e _ fun σ2 s2 S2 _ => h1 Hf1 σ2 H1 (s1.trans s2) S2
/-- name = a new list or dict, the name's own -/
def newS (i : Nat) (fe : EM D) : SM := fun ρ => (fe ρ).bind fun d ρ1 => match ρ1[i]? with
  | none => .bad
  | some (.p _) => .bad
  | some _ => .ok .nx (ρ1.set i (.o d))
theorem TSD.new {te : TE} {i : Nat} {fe : EM D} (he : TF K mg W te fe) : TSD K mg W (tAsg te (gName i)) (newS i fe) := by
  intro Hf σ ρ H S E h
  refine he Hf σ ρ H S _ ((Wp.rbind h).mono fun d ρ1 h1 a Hf1 H1 s1 S1 ha hf ro no => ?_)
  cases e : ρ1[i]? with
  | none => rw [e] at h1; exact h1.elim
  | some x =>
    have hl := (List.getElem?_eq_some_iff.mp e).1
    have fin : (∀ d, ρ1[i]? ≠ some (Sl.p d)) → Wp K mg W (.ok .nx (ρ1.set i (.o d)) : Res Fl) (Cont K E Hf σ ρ H) → (tAsg te (gName i) = tAsg te (gName i)) ∧ E.nx (σ.set i (some (.ref a))) H1 := fun np q => by
      obtain ⟨s2, S2⟩ := set_o S1 hf ro no hl np s1 ha
      exact ⟨rfl, q Hf1 _ H1 s2 S2⟩
    rw [e] at h1
    cases x with
    | p d => exact h1.elim
    | u => exact (fin (fun d q => by rw [e] at q; cases q) h1).2
    | v d => exact (fin (fun d q => by rw [e] at q; cases q) h1).2
    | o d => exact (fin (fun d q => by rw [e] at q; cases q) h1).2
/-- .. only if it is owned still -/
def thawS (i : Nat) : SM := fun ρ => match ρ[i]? with
  | some (.o d) => .ok .nx (ρ.set i (.v d))
  | _ => .ok .nx ρ
/-- the dict in slot i is locked ahead of the statements -/
def tLkS (i : Nat) (t : TS) : TS := fun D σ H => (∃ a u, σ[i]? = some (some (V.ref a)) ∧ H a = some u ∧ isDic u ∧ ∀ o, t D σ (upd H a (.frz o u))) ∨ t D σ H
theorem pss_lk {X : Cx} {sts : List Stmt} {t : TS} (i : Nat) (h : PSs X sts t) : PSs X sts (tLkS i t) := by
  refine ⟨fun pins s σ H D I q => ?_⟩
  rcases q with ⟨a, u, _, ha, hu, q⟩ | q
  · obtain ⟨od, I2⟩ := I.lock ha hu.mut
    exact h.run pins s σ _ D I2 (q od)
  · exact h.run pins s σ H D I q
theorem TSD.thaw {t : TS} {f : SM} (i : Nat) (h : TSD K mg W t f) : TSD K mg W (tLkS i t) (seqS (thawS i) f) := by
  intro Hf σ ρ H S E q
  unfold seqS thawS at q
  cases e : ρ[i]? with
  | none => rw [e] at q; exact .inr (h Hf σ ρ H S E q)
  | some x =>
    rw [e] at q
    cases x with
    | o d =>
      obtain ⟨a, h1, h2, h3⟩ := S.own i d (.inl e)
      obtain ⟨o, ea⟩ : ∃ o, H a = some o := by
        cases e : H a with
        | none => exact absurd e h3.there
        | some o => exact ⟨o, rfl⟩
      by_cases hk : isDic o
      · refine .inl ⟨a, o, h1, ea, hk, fun ob => ?_⟩
        obtain ⟨s1, S1⟩ := freezeG (o' := .frz ob o) S e h1 h2 h3 ea (.inr ⟨ob, hk, rfl⟩) (fun _ => frz_ne ob o)
        exact h _ σ _ _ S1 E (Wp.mono q fun a ρ2 c => c.step s1)
      · obtain ⟨s1, S1⟩ := freezeG (o' := o) S e h1 h2 h3 ea (.inl rfl) (fun h => absurd h hk)
        rw [upd_self ea] at s1 S1
        exact .inr (h _ σ _ H S1 E (Wp.mono q fun a ρ2 c => c.step s1))
    | _ => exact .inr (h Hf σ ρ H S E q)
def retS (fe : EM D) : SM := fun ρ => (fe ρ).bind fun d ρ1 => .ok (.ret d) ρ1
theorem TSD.ret {te : TE} {fe : EM D} (he : TD K mg W te fe) : TSD K mg W (tRet te) (retS fe) := by
  intro Hf σ ρ H S E h
  refine he Hf σ ρ H S _ ((Wp.rbind h).mono fun d ρ1 h1 v Hf1 H1 s1 S1 r1 => ?_)
  exact h1 Hf1 σ H1 s1 S1 v r1
def retNS : SM := fun ρ => .ok (.ret .non) ρ
theorem TSD.retN : TSD K mg W tRetN retNS := fun Hf σ ρ H S E h => h Hf σ H Stp.refl S .non (by unfold Rep; rfl)
def dropS (fe : EM D) : SM := fun ρ => (fe ρ).bind fun _ ρ1 => .ok .nx ρ1
theorem TSD.drop {te : TE} {fe : EM D} (he : TD K mg W te fe) : TSD K mg W (tDrop te) (dropS fe) := by
  intro Hf σ ρ H S E h
  refine he Hf σ ρ H S _ ((Wp.rbind h).mono fun d ρ1 h1 v Hf1 H1 s1 S1 r1 => ?_)
  exact h1 Hf1 σ H1 s1 S1
def ifS (c : EM Bool) (f g : SM) : SM := fun ρ => (c ρ).bind fun b ρ1 => if b then f ρ1 else g ρ1
theorem TSD.ifS {c : TT} {t u : TS} {fc : EM Bool} {f g : SM} (hc : TB K mg W c fc) (h1 : TSD K mg W t f) (h2 : TSD K mg W u g) : TSD K mg W (tIfS c t u) (DL.ifS fc f g) := by
  intro Hf σ ρ H S E h
  refine hc Hf σ ρ H S _ ((Wp.rbind h).mono fun b ρ1 q Hf1 H1 s1 S1 => ?_)
  cases b with
  | true =>
    rw [if_pos rfl]
    exact h1 Hf1 σ ρ1 H1 S1 E (Wp.mono q fun a ρ2 c => c.step s1)
  | false =>
    rw [if_neg (by decide)]
    exact h2 Hf1 σ ρ1 H1 S1 E (Wp.mono q fun a ρ2 c => c.step s1)
def brkS : SM := fun ρ => .ok .brk ρ
def cntS : SM := fun ρ => .ok .cnt ρ
theorem TSD.brk : TSD K mg W tBreak brkS := fun Hf σ ρ H S E h => h Hf σ H Stp.refl S
theorem TSD.cnt : TSD K mg W tCont cntS := fun Hf σ ρ H S E h => h Hf σ H Stp.refl S

/-! ### for -/
/-- an iterator over the data ds, told at Hf -/
structure Itd (K : PySem.W.Frag) (J : It) (Hf : Hp) (ds : List D) : Prop where
  go : ∀ (i : Nat) (d : D) Hf1 H1, Same Hf Hf1 → Same Hf1 H1 → ds[i]? = some d → J.go i H1 ∧ ∀ x H2, J.yld i H1 x H2 → ∃ Hf2, New Hf1 H1 Hf2 H2 ∧ Rep K Hf2 d x
  stop : ∀ Hf1 H1, Same Hf Hf1 → Same Hf1 H1 → J.stop ds.length H1
def TID (K : PySem.W.Frag) (mg : Str → Option Value) (W : XK) (t : TI) (f : EM (List D)) : Prop :=
  ∀ Hf σ ρ H, SR K Hf σ ρ H → ∀ R : It → Hp → Prop, Wp K mg W (f ρ) (fun ds ρ' => ∀ J Hf' H', Stp Hf σ ρ H Hf' σ ρ' H' → SR K Hf' σ ρ' H' → Itd K J Hf' ds → R J H') → t σ H R
def loopS (g : D → Ro → Option Ro) (f : SM) : List D → SM
  | [], ρ => .ok .nx ρ
  | d :: ds, ρ => match g d ρ with
    | none => .bad
    | some ρ1 => match f ρ1 with
      | .ok .nx ρ2 => loopS g f ds ρ2
      | .ok .cnt ρ2 => loopS g f ds ρ2
      | .ok .brk ρ2 => .ok .nx ρ2
      | r => r
def forS (fi : EM (List D)) (g : D → Ro → Option Ro) (f : SM) : SM := fun ρ => (fi ρ).bind fun ds ρ1 => loopS g f ds ρ1
theorem TSD.forS {wi : TI} {g : TG} {tb : TS} {is : List Nat} {fi : EM (List D)} {fg : D → Ro → Option Ro} {fb : SM} (hi : TID K mg W wi fi) (hg : TGD K g is fg) (hb : TSD K mg W tb fb) : TSD K mg W (tFor wi g tb) (DL.forS fi fg fb) := by
  intro Hf σ ρ H S E h
  refine hi Hf σ ρ H S _ ((Wp.rbind h).mono fun ds ρ1 h1 J Hf1 H1 s1 S1 it => ?_)
  refine ⟨fun i m σ' H' => ∃ Hf' ρ', SR K Hf' σ' ρ' H' ∧ i ≤ ds.length ∧ m = ds.length - i ∧ Same Hf1 Hf' ∧ Wp K mg W (loopS fg fb (ds.drop i) ρ') (Cont K E Hf' σ' ρ' H'), ⟨ds.length, Hf1, ρ1, S1, Nat.zero_le _, rfl, fun _ _ h => h, ?_⟩, fun i m σ' H' ⟨Hf', ρ', S', hi', hm, sm, q⟩ => ?_⟩
  · exact Wp.mono h1 fun a ρ2 c => Cont.step c s1
  · by_cases e : i = ds.length
    · subst e
      left
      rw [List.drop_length] at q
      exact ⟨it.stop Hf' H' sm S'.sub, q Hf' σ' H' Stp.refl S'⟩
    · right
      have lt : i < ds.length := by omega
      have ei : ds[i]? = some ds[i] := List.getElem?_eq_getElem lt
      obtain ⟨g1, g2⟩ := it.go i ds[i] Hf' H' sm S'.sub ei
      refine ⟨g1, _, fun σ2 H2 (z : ∃ m', m' < m ∧ _) => z, fun x H2 y => ?_⟩
      obtain ⟨Hf2, n, r⟩ := g2 x H2 y
      rw [List.drop_eq_getElem_cons lt] at q
      unfold loopS at q
      cases e1 : fg ds[i] ρ' with
      | none => rw [e1] at q; exact q.elim
      | some ρ2 =>
        rw [e1] at q
        have q : Wp K mg W (match fb ρ2 with
          | .ok .nx ρ2 => loopS fg fb (ds.drop (i + 1)) ρ2
          | .ok .cnt ρ2 => loopS fg fb (ds.drop (i + 1)) ρ2
          | .ok .brk ρ2 => .ok .nx ρ2
          | r => r) (Cont K E Hf' σ' ρ' H') := q
        refine hg Hf2 σ' ρ' H2 ds[i] x ρ2 (n.sr S') r e1 _ fun σ3 s3 S3 _ => ?_
        have st : Stp Hf' σ' ρ' H' Hf2 σ3 ρ2 H2 := (n.stp).trans s3
        refine hb Hf2 σ3 ρ2 H2 S3 _ ?_
        have next : ∀ ρ4, Wp K mg W (loopS fg fb (ds.drop (i + 1)) ρ4) (Cont K E Hf' σ' ρ' H') → ∀ Hf4 σ4 H4, Stp Hf2 σ3 ρ2 H2 Hf4 σ4 ρ4 H4 → SR K Hf4 σ4 ρ4 H4 → ∃ m', m' < m ∧ ∃ Hf' ρ', SR K Hf' σ4 ρ' H4 ∧ i + 1 ≤ ds.length ∧ m' = ds.length - (i + 1) ∧ Same Hf1 Hf' ∧ Wp K mg W (loopS fg fb (ds.drop (i + 1)) ρ') (Cont K E Hf' σ4 ρ' H4) :=
          fun ρ4 w Hf4 σ4 H4 s4 S4 => ⟨ds.length - (i + 1), by omega, Hf4, ρ4, S4, lt, rfl, Same.trans sm (Same.trans st.fz s4.fz), Wp.mono w fun a ρ5 c => Cont.step c (st.trans s4)⟩
        cases e2 : fb ρ2 with
        | bad => rw [e2] at q; exact q
        | err x => rw [e2] at q; exact q
        | ok fl ρ4 =>
          rw [e2] at q
          cases fl with
          | nx => exact fun Hf4 σ4 H4 s4 S4 => next ρ4 q Hf4 σ4 H4 s4 S4
          | cnt => exact fun Hf4 σ4 H4 s4 S4 => next ρ4 q Hf4 σ4 H4 s4 S4
          | brk => exact fun Hf4 σ4 H4 s4 S4 => q Hf4 σ4 H4 (st.trans s4) S4
          | ret d => exact fun Hf4 σ4 H4 s4 S4 => q Hf4 σ4 H4 (st.trans s4) S4
/-! ### while -/
def iterS (c : EM Bool) (f : SM) : Nat → SM
  | 0, _ => .bad
  | n + 1, ρ => match c ρ with
    | .bad => .bad
    | .err x => .err x
    | .ok false ρ1 => .ok .nx ρ1
    | .ok true ρ1 => match f ρ1 with
      | .ok .nx ρ2 => iterS c f n ρ2
      | .ok .cnt ρ2 => iterS c f n ρ2
      | .ok .brk ρ2 => .ok .nx ρ2
      | r => r
theorem TSD.whileS {c : TT} {tb : TS} {fc : EM Bool} {fb : SM} (n : Nat) (hc : TB K mg W c fc) (hb : TSD K mg W tb fb) : TSD K mg W (tWhile c tb) (iterS fc fb n) := by
  intro Hf σ ρ H S E h
  refine ⟨fun m σ' H' => ∃ Hf' ρ', SR K Hf' σ' ρ' H' ∧ Wp K mg W (iterS fc fb m ρ') (Cont K E Hf' σ' ρ' H'), ⟨n, Hf, ρ, S, h⟩, fun m σ' H' ⟨Hf', ρ', S', q⟩ => ?_⟩
  refine hc Hf' σ' ρ' H' S' _ ?_
  cases m with
  | zero => exact q.elim
  | succ m =>
    unfold iterS at q
    cases e : fc ρ' with
    | bad => rw [e] at q; exact q
    | err x => rw [e] at q; exact q
    | ok b ρ1 =>
      rw [e] at q
      intro Hf1 H1 s1 S1
      cases b with
      | false =>
        rw [if_neg (by decide)]
        exact q Hf1 σ' H1 s1 S1
      | true =>
        rw [if_pos rfl]
        refine ⟨_, fun σ2 H2 (z : ∃ m', m' < m + 1 ∧ _) => z, ?_⟩
        refine hb Hf1 σ' ρ1 H1 S1 _ ?_
        have q : Wp K mg W (match fb ρ1 with
          | .ok .nx ρ2 => iterS fc fb m ρ2
          | .ok .cnt ρ2 => iterS fc fb m ρ2
          | .ok .brk ρ2 => .ok .nx ρ2
          | r => r) (Cont K E Hf' σ' ρ' H') := q
        have next : ∀ ρ4, Wp K mg W (iterS fc fb m ρ4) (Cont K E Hf' σ' ρ' H') → ∀ Hf4 σ4 H4, Stp Hf1 σ' ρ1 H1 Hf4 σ4 ρ4 H4 → SR K Hf4 σ4 ρ4 H4 → ∃ m', m' < m + 1 ∧ ∃ Hf' ρ', SR K Hf' σ4 ρ' H4 ∧ Wp K mg W (iterS fc fb m' ρ') (Cont K E Hf' σ4 ρ' H4) :=
          fun ρ4 w Hf4 σ4 H4 s4 S4 => ⟨m, Nat.lt_succ_self _, Hf4, ρ4, S4, Wp.mono w fun a ρ5 c => Cont.step c (s1.trans s4)⟩
        cases e2 : fb ρ1 with
        | bad => rw [e2] at q; exact q
        | err x => rw [e2] at q; exact q
        | ok fl ρ4 =>
          rw [e2] at q
          cases fl with
          | nx => exact fun Hf4 σ4 H4 s4 S4 => next ρ4 q Hf4 σ4 H4 s4 S4
          | cnt => exact fun Hf4 σ4 H4 s4 S4 => next ρ4 q Hf4 σ4 H4 s4 S4
          | brk => exact fun Hf4 σ4 H4 s4 S4 => q Hf4 σ4 H4 (s1.trans s4) S4
          | ret d => exact fun Hf4 σ4 H4 s4 S4 => q Hf4 σ4 H4 (s1.trans s4) S4
end
end DL

/-! The D layer, 5: comprehensions, defs. -/
namespace DL
open PySem L2

section
variable {K : PySem.W.Frag} {mg : Str → Option Value} {W : XK} {Hf H Hf' H' Hf1 H1 : Hp} {σ σ' : L2.St} {ρ ρ' : Ro}

/-! ### comprehensions -/
def wipeR (ρ : Ro) : List Nat → Ro
  | [] => ρ
  | v :: vs => (wipeR ρ vs).set v .u
/-- the block's own slots as they stood ahead of it -/
def unwipe (ρ ρ' : Ro) : List Nat → Ro
  | [] => ρ'
  | v :: vs => match ρ[v]? with
    | some x => (unwipe ρ ρ' vs).set v x
    | none => unwipe ρ ρ' vs
def plainAt (ρ : Ro) (i : Nat) : Bool := match ρ[i]? with
  | some (.o _) => false
  | some (.p _) => false
  | _ => true
def noErr {α : Type} (r : Res α) : Res α := match r with
  | .err _ => .bad
  | r => r
def lcLoop (vs : List Nat) (g : D → Ro → Option Ro) (ft : EM Bool) (fe : EM D) : List D → List D → Ro → Res D
  | [], acc, ρ => .ok (.lst acc) ρ
  | d :: ds, acc, ρ => match g d (wipeR ρ vs) with
    | none => .bad
    | some ρ1 => match ft ρ1 with
      | .ok false ρ2 => lcLoop vs g ft fe ds acc (unwipe ρ ρ2 vs)
      | .ok true ρ2 => match fe ρ2 with
        | .ok y ρ3 => lcLoop vs g ft fe ds (acc ++ [y]) (unwipe ρ ρ3 vs)
        | _ => .bad
      | _ => .bad
def lcE (vs : List Nat) (fi : EM (List D)) (g : D → Ro → Option Ro) (ft : EM Bool) (fe : EM D) : EM D := fun ρ => (fi ρ).bind fun ds ρ1 =>
  if vs.all (plainAt ρ1) && decide (ds.length ≤ 1000000) then lcLoop vs g ft fe ds [] ρ1 else .bad

theorem wipeR_len : ∀ {vs : List Nat}, (wipeR ρ vs).length = ρ.length
  | [] => rfl
  | v :: vs => by unfold wipeR; rw [List.length_set, wipeR_len]
theorem unwipe_len : ∀ {vs : List Nat}, (unwipe ρ ρ' vs).length = ρ'.length
  | [] => rfl
  | v :: vs => by
    unfold unwipe
    cases ρ[v]? <;> simp [unwipe_len (vs := vs)]
theorem wipeR_out {i : Nat} : ∀ {vs : List Nat}, i ∉ vs → (wipeR ρ vs)[i]? = ρ[i]?
  | [], _ => rfl
  | v :: vs, h => by
    unfold wipeR
    rw [List.getElem?_set_ne (fun e => h (by simp [e])), wipeR_out fun q => h (List.mem_cons_of_mem _ q)]
theorem wipeR_in {i : Nat} : ∀ {vs : List Nat}, i ∈ vs → (wipeR ρ vs)[i]? = none ∨ (wipeR ρ vs)[i]? = some Sl.u
  | v :: vs, h => by
    unfold wipeR
    rw [get_set]
    by_cases e : v = i
    · rw [if_pos e]
      by_cases l : v < (wipeR ρ vs).length
      · rw [if_pos l]; exact .inr rfl
      · rw [if_neg l]; exact .inl rfl
    · rw [if_neg e]
      rcases List.mem_cons.mp h with q | q
      · exact absurd q.symm e
      · exact wipeR_in q
theorem unwipe_out {i : Nat} : ∀ {vs : List Nat}, i ∉ vs → (unwipe ρ ρ' vs)[i]? = ρ'[i]?
  | [], _ => rfl
  | v :: vs, h => by
    unfold unwipe
    have ih := unwipe_out (vs := vs) fun q => h (List.mem_cons_of_mem _ q)
    cases e : ρ[v]? with
    | none => exact ih
    | some x =>
      simp only
      rw [List.getElem?_set_ne (fun e => h (by simp [e]))]; exact ih
theorem unwipe_in {i : Nat} (hl : ρ'.length = ρ.length) : ∀ {vs : List Nat}, i ∈ vs → (unwipe ρ ρ' vs)[i]? = ρ[i]?
  | v :: vs, h => by
    unfold unwipe
    by_cases e : v = i
    · subst e
      cases er : ρ[v]? with
      | none =>
        simp only
        rw [List.getElem?_eq_none]
        rw [unwipe_len, hl]
        exact List.getElem?_eq_none_iff.mp er
      | some x =>
        simp only
        rw [List.getElem?_set_self]
        rw [unwipe_len, hl]
        exact (List.getElem?_eq_some_iff.mp er).1
    · have ih : (unwipe ρ ρ' vs)[i]? = ρ[i]? := by
        rcases List.mem_cons.mp h with q | q
        · exact absurd q.symm e
        · exact unwipe_in hl q
      cases er : ρ[v]? with
      | none => exact ih
      | some x => simp only; rw [List.getElem?_set_ne e]; exact ih
theorem wipe_in {i : Nat} : ∀ {vs : List Nat}, i ∈ vs → (wipe σ vs)[i]? = none ∨ (wipe σ vs)[i]? = some none
  | v :: vs, h => by
    unfold wipe
    rw [get_set]
    by_cases e : v = i
    · rw [if_pos e]
      by_cases l : v < (wipe σ vs).length
      · rw [if_pos l]; exact .inr rfl
      · rw [if_neg l]; exact .inl rfl
    · rw [if_neg e]
      rcases List.mem_cons.mp h with q | q
      · exact absurd q.symm e
      · exact wipe_in q
theorem wipe_eq {σ2 : L2.St} {vs : List Nat} (hl : σ2.length = σ.length) (h : ∀ j : Nat, j ∉ vs → σ2[j]? = (wipe σ vs)[j]?) : wipe σ2 vs = wipe σ vs := by
  apply List.ext_getElem?
  intro j
  by_cases hj : j ∈ vs
  · have l1 : (wipe σ2 vs).length = (wipe σ vs).length := by rw [wipe_length, wipe_length, hl]
    rcases wipe_in (σ := σ2) hj with a | a <;> rcases wipe_in (σ := σ) hj with b | b
    · rw [a, b]
    · have := List.getElem?_eq_none_iff.mp a
      have := (List.getElem?_eq_some_iff.mp b).1
      omega
    · have := List.getElem?_eq_none_iff.mp b
      have := (List.getElem?_eq_some_iff.mp a).1
      omega
    · rw [a, b]
  · rw [wipe_out hj]; exact h j hj

/-- into the block -/
theorem wipe_step {vs : List Nat} (S : SR K Hf σ ρ H) (hp : vs.all (plainAt ρ) = true) : Stp Hf σ ρ H Hf (wipe σ vs) (wipeR ρ vs) H ∧ SR K Hf (wipe σ vs) (wipeR ρ vs) H := by
  have own : ∀ (i : Nat) (d : D), ((wipeR ρ vs)[i]? = some (Sl.o d) ∨ (wipeR ρ vs)[i]? = some (Sl.p d) ∨ (wipeR ρ vs)[i]? = some (Sl.v d)) → i ∉ vs := fun i d h hi => by
    rcases wipeR_in (ρ := ρ) hi with q | q <;> rw [q] at h <;> simp at h
  have np : ∀ (i : Nat) (d : D), (ρ[i]? = some (Sl.p d) ∨ ρ[i]? = some (Sl.o d)) → i ∉ vs := fun i d h hi => by
    have := List.all_eq_true.mp hp i hi
    unfold plainAt at this
    rcases h with h | h <;> rw [h] at this <;> simp at this
  refine ⟨⟨fun _ _ h => h, fun _ _ h _ => h, fun _ h => h, fun _ _ h _ => h, fun i d h => ?_, fun i d h => ?_, fun b ⟨i, d, h1, h2⟩ => ?_, wipeR_len⟩, ⟨S.sub, by rw [wipe_length, wipeR_len]; exact S.len, fun i d h => ?_, fun i d h => ?_, fun i j a ⟨h1, d1, h2⟩ ⟨h3, d2, h4⟩ => ?_⟩⟩
  · have ni := np i d (.inl h)
    exact ⟨⟨d, by rw [wipeR_out ni]; exact h⟩, wipe_out ni⟩
  · have ni := own i d (.inr (.inl h))
    rw [wipeR_out ni] at h
    exact ⟨d, h⟩
  · have ni := own i d (.inl h2)
    rw [wipeR_out ni] at h2
    rw [wipe_out ni] at h1
    exact .inr ⟨i, d, h1, h2⟩
  · have ni := own i d (.inr (.inr h))
    rw [wipeR_out ni] at h
    rw [wipe_out ni]
    exact S.val i d h
  · have ni : i ∉ vs := by
      rcases h with h | h
      · exact own i d (.inl h)
      · exact own i d (.inr (.inl h))
    rw [wipeR_out ni] at h
    rw [wipe_out ni]
    exact S.own i d h
  · have ni : i ∉ vs := by
      rcases h2 with h | h
      · exact own i d1 (.inl h)
      · exact own i d1 (.inr (.inl h))
    have nj : j ∉ vs := by
      rcases h4 with h | h
      · exact own j d2 (.inl h)
      · exact own j d2 (.inr (.inl h))
    rw [wipeR_out ni] at h2
    rw [wipeR_out nj] at h4
    rw [wipe_out ni] at h1
    rw [wipe_out nj] at h3
    exact S.inj i j a ⟨h1, d1, h2⟩ ⟨h3, d2, h4⟩
/-- out of the block -/
theorem unwipe_step {vs : List Nat} {σ2 : L2.St} (S : SR K Hf σ ρ H) (hp : vs.all (plainAt ρ) = true) (h2 : ∀ j : Nat, j ∉ vs → σ2[j]? = σ[j]?) (s : Stp Hf σ ρ H Hf' σ2 ρ' H') (S' : SR K Hf' σ2 ρ' H') :
    Stp Hf σ ρ H Hf' σ (unwipe ρ ρ' vs) H' ∧ SR K Hf' σ (unwipe ρ ρ' vs) H' := by
  have np : ∀ (i : Nat) (d : D), (ρ[i]? = some (Sl.p d) ∨ ρ[i]? = some (Sl.o d)) → i ∉ vs := fun i d h hi => by
    have := List.all_eq_true.mp hp i hi
    unfold plainAt at this
    rcases h with h | h <;> rw [h] at this <;> simp at this
  have own : ∀ (i : Nat) (d : D), ((unwipe ρ ρ' vs)[i]? = some (Sl.o d) ∨ (unwipe ρ ρ' vs)[i]? = some (Sl.p d)) → i ∉ vs := fun i d h hi => by
    rw [unwipe_in s.len hi] at h
    exact np i d (h.symm) hi
  refine ⟨⟨s.fz, s.keep, s.there, s.out, fun i d h => ?_, fun i d h => ?_, fun b ⟨i, d, h1, h3⟩ => ?_, by rw [unwipe_len]; exact s.len⟩, ⟨S'.sub, by rw [unwipe_len, s.len]; exact S.len, fun i d h => ?_, fun i d h => ?_, fun i j a ⟨h1, d1, h3⟩ ⟨h4, d2, h5⟩ => ?_⟩⟩
  · have ni := np i d (.inl h)
    rw [unwipe_out ni]
    exact ⟨(s.pin i d h).1, rfl⟩
  · have ni := own i d (.inr h)
    rw [unwipe_out ni] at h
    exact s.pin' i d h
  · have ni := own i d (.inl h3)
    rw [unwipe_out ni] at h3
    exact s.oo b ⟨i, d, by rw [h2 i ni]; exact h1, h3⟩
  · by_cases hi : i ∈ vs
    · rw [unwipe_in s.len hi] at h
      obtain ⟨v, g1, g2⟩ := S.val i d h
      exact ⟨v, g1, Rep.mono s.fz g2⟩
    · rw [unwipe_out hi] at h
      rw [← h2 i hi]
      exact S'.val i d h
  · have ni := own i d h
    rw [unwipe_out ni] at h
    rw [← h2 i ni]
    exact S'.own i d h
  · have ni := own i d1 h3
    have nj := own j d2 h5
    rw [unwipe_out ni] at h3
    rw [unwipe_out nj] at h5
    rw [← h2 i ni] at h1
    rw [← h2 j nj] at h4
    exact S'.inj i j a ⟨h1, d1, h3⟩ ⟨h4, d2, h5⟩
theorem reps_snoc : ∀ {ds : List D} {vs : List V} {d : D} {v : V}, Reps K Hf ds vs → Rep K Hf d v → Reps K Hf (ds ++ [d]) (vs ++ [v])
  | [], _, _, _, h, r => by
    unfold Reps at h
    subst h
    exact reps_cons r (by unfold Reps; rfl)
  | d :: ds, _, _, _, h, r => by
    unfold Reps at h
    obtain ⟨v, r', rfl, h1, h2⟩ := h
    exact reps_cons h1 (reps_snoc h2 r)
abbrev E00 : XK := fun _ _ _ => False
theorem big_line {n : Nat} (h : n ≤ 1000000) : n < sizeLine := Nat.lt_of_le_of_lt h (by decide)

theorem TF.lc {wi : TI} {g : TG} {tt : TT} {te : TE} {vs : List Nat} {is : List Nat} {fi : EM (List D)} {fg : D → Ro → Option Ro} {ft : EM Bool} {fe : EM D} (hi : TID K mg W wi fi) (hg : TGD K g is fg) (hs : ∀ i ∈ is, i ∈ vs)
    (ht : TB K mg E00 tt ft) (he : TD K mg E00 te fe) : TF K mg W (tLc wi g tt te vs) (lcE vs fi fg ft fe) := by
  intro Hf σ ρ H S Q h
  refine hi Hf σ ρ H S _ ((Wp.rbind h).mono fun ds ρ1 h1 J Hf1 H1 s1 S1 it => ?_)
  by_cases hc : (vs.all (plainAt ρ1) && decide (ds.length ≤ 1000000)) = true
  rotate_left
  · rw [if_neg hc] at h1; exact h1.elim
  rw [if_pos hc] at h1
  rw [Bool.and_eq_true] at hc
  have hlen : ds.length ≤ 1000000 := of_decide_eq_true hc.2
  intro Da hD
  have hfD : Hf1 Da = none := none_sub S1.sub hD
  have sm0 : Same H1 (upd H1 Da (.lst [])) := same_upd hD
  -- the state with the new list, which is nobody's
  have S1' : SR K Hf1 σ ρ1 (upd H1 Da (.lst [])) := ⟨Same.trans S1.sub sm0, S1.len, S1.val, fun i d q => by
    obtain ⟨a, g1, g2, g3⟩ := S1.own i d q
    have ne : a ≠ Da := fun e => g3.there (by rw [e]; exact hD)
    exact ⟨a, g1, g2, RepO.mono (fun _ _ h => h) (upd_ne ne) g3⟩, S1.inj⟩
  have s1' : Stp Hf σ ρ H Hf1 σ ρ1 (upd H1 Da (.lst [])) := s1.trans ⟨fun _ _ h => h, fun b o q _ => sm0 b o q, fun b q => by
    cases e : H1 b with
    | none => exact absurd e q
    | some o => rw [sm0 b o e]; simp, fun _ _ q _ => q, fun i d q => ⟨⟨d, q⟩, rfl⟩, fun i d q => ⟨d, q⟩, fun _ q => .inr q, rfl⟩
  refine ⟨fun i m H' => ∃ Hf' ρ' acc av, SR K Hf' σ ρ' H' ∧ i ≤ ds.length ∧ m = ds.length - i ∧ acc.length ≤ i ∧ Same Hf1 Hf' ∧ H' Da = some (.lst av) ∧ Hf' Da = none ∧ Reps K Hf' acc av ∧ ¬ OA σ ρ' Da ∧ Stp Hf σ ρ H Hf' σ ρ' H' ∧ vs.all (plainAt ρ') = true ∧
      Wp K mg W (lcLoop vs fg ft fe (ds.drop i) acc ρ') (fun d ρ' => ∀ a Hf' H', Stp Hf σ ρ H Hf' σ ρ' H' → SR K Hf' σ ρ' H' → H a = none → Hf' a = none → RepO K Hf' H' d a → ¬ OA σ ρ' a → Q (.ref a) H'),
    ⟨ds.length, Hf1, ρ1, [], [], S1', Nat.zero_le _, rfl, Nat.le_refl _, fun _ _ h => h, upd_same, hfD, by unfold Reps; rfl, fun q => (S1.oa q).2 hD, s1', hc.1, h1⟩, fun i m H' ⟨Hf', ρ', acc, av, S', hi', hm, hacc, sm, hDl, hDf, rA, hDo, st, hpl, q⟩ => ?_⟩
  by_cases e : i = ds.length
  · subst e
    left
    rw [List.drop_length] at q
    refine ⟨it.stop Hf' H' sm S'.sub, q Da Hf' H' st S' ?_ hDf ⟨av, hDl, rA⟩ hDo⟩
    cases z : H Da with
    | none => rfl
    | some o => exact absurd hD (s1.there Da (by rw [z]; simp))
  · right
    have lt : i < ds.length := by omega
    have ei : ds[i]? = some ds[i] := List.getElem?_eq_getElem lt
    obtain ⟨g1, g2⟩ := it.go i ds[i] Hf' H' sm S'.sub ei
    refine ⟨g1, _, fun H2 (z : ∃ m', m' < m ∧ _) => z, fun x H2 y => ?_⟩
    obtain ⟨Hf2, n, r⟩ := g2 x H2 y
    rw [List.drop_eq_getElem_cons lt] at q
    unfold lcLoop at q
    obtain ⟨w1, W1⟩ := wipe_step (n.sr S') hpl
    cases e1 : fg ds[i] (wipeR ρ' vs) with
    | none => rw [e1] at q; exact q.elim
    | some ρ2 =>
      rw [e1] at q
      simp only at q
      refine hg Hf2 (wipe σ vs) (wipeR ρ' vs) H2 ds[i] x ρ2 W1 r e1 _ fun σ3 s3 S3 k3 => ?_
      have l3 : σ3.length = σ.length := by rw [S3.len, s3.len, wipeR_len]; exact S'.len.symm
      have out3 : ∀ j : Nat, j ∉ vs → σ3[j]? = (wipe σ vs)[j]? := fun j hj => k3 j fun hz => hj (hs j hz)
      have out4 : ∀ j : Nat, j ∉ vs → σ3[j]? = σ[j]? := fun j hj => by rw [out3 j hj, wipe_out hj]
      refine ⟨wipe_eq l3 out3, ?_⟩
      have st3 : Stp Hf' σ ρ' H' Hf2 σ3 ρ2 H2 := (n.stp.trans w1).trans s3
      -- the new list through the block
      have keepD : ∀ {Hf4 : Hp} {ρ4 : Ro} {H4 : Hp}, Stp Hf' σ ρ' H' Hf4 σ3 ρ4 H4 → H4 Da = some (.lst av) ∧ Hf4 Da = none := fun s4 =>
        ⟨s4.keep Da _ hDl hDo, s4.out Da (by rw [hDl]; simp) hDf fun z => hDo z.oa⟩
      have next : ∀ {Hf4 : Hp} {ρ4 : Ro} {H4 : Hp} (acc' : List D) (av' : List V), Stp Hf' σ ρ' H' Hf4 σ3 ρ4 H4 → SR K Hf4 σ3 ρ4 H4 → acc'.length ≤ i + 1 → Reps K Hf4 acc' av' →
          Wp K mg W (lcLoop vs fg ft fe (ds.drop (i + 1)) acc' (unwipe ρ' ρ4 vs)) (fun d ρ' => ∀ a Hf' H', Stp Hf σ ρ H Hf' σ ρ' H' → SR K Hf' σ ρ' H' → H a = none → Hf' a = none → RepO K Hf' H' d a → ¬ OA σ ρ' a → Q (.ref a) H') →
          ∃ m', m' < m ∧ ∃ Hf' ρ' acc av, SR K Hf' σ ρ' (upd H4 Da (.lst av')) ∧ i + 1 ≤ ds.length ∧ m' = ds.length - (i + 1) ∧ acc.length ≤ i + 1 ∧ Same Hf1 Hf' ∧ upd H4 Da (.lst av') Da = some (.lst av) ∧ Hf' Da = none ∧ Reps K Hf' acc av ∧ ¬ OA σ ρ' Da ∧ Stp Hf σ ρ H Hf' σ ρ' (upd H4 Da (.lst av')) ∧ vs.all (plainAt ρ') = true ∧
            Wp K mg W (lcLoop vs fg ft fe (ds.drop (i + 1)) acc ρ') (fun d ρ' => ∀ a Hf' H', Stp Hf σ ρ H Hf' σ ρ' H' → SR K Hf' σ ρ' H' → H a = none → Hf' a = none → RepO K Hf' H' d a → ¬ OA σ ρ' a → Q (.ref a) H') := by
        intro Hf4 ρ4 H4 acc' av' s4 S4 hl ra w
        obtain ⟨u1, U1⟩ := unwipe_step S' hpl out4 s4 S4
        obtain ⟨k1, k2⟩ := keepD s4
        have no4 : ¬ OA σ (unwipe ρ' ρ4 vs) Da := fun z => by
          rcases u1.oa z with z | z
          · rw [hDl] at z; cases z
          · exact hDo z
        have nH : H Da = none := by
          cases z : H Da with
          | none => rfl
          | some o => exact absurd hD (s1.there Da (by rw [z]; simp))
        have st4 := st.trans u1
        refine ⟨ds.length - (i + 1), by omega, Hf4, unwipe ρ' ρ4 vs, acc', av', ⟨fun b o z => ?_, U1.len, U1.val, fun j d z => ?_, U1.inj⟩, lt, rfl, hl, Same.trans sm s4.fz, upd_same, k2, ra, no4, ⟨st4.fz, fun b o z1 z2 => ?_, fun b z => ?_, st4.out, st4.pin, st4.pin', st4.oo, st4.len⟩, ?_, w⟩
        · have nb : b ≠ Da := fun eb => by rw [eb, k2] at z; cases z
          rw [upd_ne nb]; exact U1.sub b o z
        · obtain ⟨a, g1, g2, g3⟩ := U1.own j d z
          have na : a ≠ Da := fun ea => no4 ⟨j, by rw [← ea]; exact g1, d, z⟩
          exact ⟨a, g1, g2, RepO.mono (fun _ _ h => h) (upd_ne na) g3⟩
        · have nb : b ≠ Da := fun eb => by rw [eb, nH] at z1; cases z1
          rw [upd_ne nb]; exact st4.keep b o z1 z2
        · by_cases eb : b = Da
          · rw [eb, upd_same]; simp
          · rw [upd_ne eb]; exact st4.there b z
        · refine List.all_eq_true.mpr fun j hj => ?_
          have z := List.all_eq_true.mp hpl j hj
          unfold plainAt at z ⊢
          rw [unwipe_in (by have := st3.len; have := s4.len; omega) hj]
          exact z
      refine ht Hf2 σ3 ρ2 H2 S3 _ ?_
      cases e2 : ft ρ2 with
      | bad => rw [e2] at q; exact q
      | err x => rw [e2] at q; exact q.elim
      | ok b ρ3 =>
        rw [e2] at q
        intro Hf3 H3 s4 S4
        have st4 := st3.trans s4
        cases b with
        | false =>
          rw [if_neg (by decide)]
          have k := keepD st4
          obtain ⟨m', q1, Hf5, ρ5, acc5, av5, q2, q3, q4, q5, q6, q7, q8, q9, q10, q11, q12, q13⟩ := next acc av st4 S4 (by omega) (Reps.mono st4.fz rA) q
          have eH : upd H3 Da (.lst av) = H3 := by
            funext b
            by_cases eb : b = Da
            · rw [eb, upd_same]; exact k.1.symm
            · rw [upd_ne eb]
          rw [eH] at q2 q7 q11
          exact ⟨m', q1, Hf5, ρ5, acc5, av5, q2, q3, q4, q5, q6, q7, q8, q9, q10, q11, q12, q13⟩
        | true =>
          rw [if_pos rfl]
          simp only at q
          refine he Hf3 σ3 ρ3 H3 S4 _ ?_
          cases e3 : fe ρ3 with
          | bad => rw [e3] at q; exact q
          | err x => rw [e3] at q; exact q.elim
          | ok y ρ5 =>
            rw [e3] at q
            intro v Hf5 H5 s5 S5 r5
            have st5 := st4.trans s5
            have k := keepD st5
            refine ⟨av, k.1, big_line ?_, ?_⟩
            · rw [← reps_len rA]; omega
            · refine next (acc ++ [y]) (av ++ [v]) st5 S5 (by rw [List.length_append, List.length_singleton]; omega) (reps_snoc (Reps.mono st5.fz rA) r5) q
theorem lcLoop_lst {vs : List Nat} {g : D → Ro → Option Ro} {ft : EM Bool} {fe : EM D} : ∀ (ds acc : List D) (ρ : Ro) (d : D) (ρ' : Ro), lcLoop vs g ft fe ds acc ρ = .ok d ρ' → ∃ es, d = .lst es
  | [], acc, ρ, d, ρ', h => by unfold lcLoop at h; cases h; exact ⟨_, rfl⟩
  | x :: ds, acc, ρ, d, ρ', h => by
    unfold lcLoop at h
    cases e1 : g x (wipeR ρ vs) with
    | none => rw [e1] at h; cases h
    | some ρ1 =>
      rw [e1] at h
      simp only at h
      cases e2 : ft ρ1 with
      | bad => rw [e2] at h; cases h
      | err x => rw [e2] at h; cases h
      | ok b ρ2 =>
        rw [e2] at h
        cases b with
        | false => exact lcLoop_lst ds acc _ d ρ' h
        | true =>
          simp only at h
          cases e3 : fe ρ2 with
          | bad => rw [e3] at h; cases h
          | err x => rw [e3] at h; cases h
          | ok y ρ3 =>
            rw [e3] at h
            exact lcLoop_lst ds _ _ d ρ' h
theorem lcE_lst {vs : List Nat} {fi : EM (List D)} {g : D → Ro → Option Ro} {ft : EM Bool} {fe : EM D} (ρ : Ro) (d : D) (ρ' : Ro) (h : lcE vs fi g ft fe ρ = .ok d ρ') : ∃ es, d = .lst es := by
  unfold lcE at h
  cases e : fi ρ with
  | bad => rw [e] at h; cases h
  | err x => rw [e] at h; cases h
  | ok ds ρ1 =>
    rw [e] at h
    simp only [Res.bind] at h
    split at h
    · exact lcLoop_lst _ _ _ _ _ h
    · cases h
end
end DL

/-! The D layer, 6: rules of statements, the rule of a def. -/
namespace DL
open PySem L2

structure PSD (X : Cx) (W : XK) (st : Stmt) (f : SM) : Prop where
  ex : ∃ t, PS X st t ∧ TSD X.K X.mg W t f
structure PSsD (X : Cx) (W : XK) (sts : List Stmt) (f : SM) : Prop where
  ex : ∃ t, PSs X sts t ∧ TSD X.K X.mg W t f
structure PGD (X : Cx) (tg : Expr) (is : List Nat) (f : D → Ro → Option Ro) : Prop where
  ex : ∃ g, PG X tg g ∧ TGD X.K g is f
structure PGsD (X : Cx) (tgs : List Expr) (is : List Nat) (f : List D → Ro → Option Ro) : Prop where
  ex : ∃ g, PGs X tgs g ∧ TGDs X.K g is f
structure PID (X : Cx) (W : XK) (tg it : Expr) (f : EM (List D)) : Prop where
  ex : ∃ t, PI X tg it t ∧ TID X.K X.mg W t f
structure PAD (X : Cx) (W : XK) (es : List Expr) (f : EM (List D)) : Prop where
  ex : ∃ t, PA X es t ∧ TAD X.K X.mg W t f
structure PAR (X : Cx) (W : XK) (es : List Expr) (f : EM (List Arg)) : Prop where
  ex : ∃ t, PA X es t ∧ TAR X.K X.mg W t f
  len : ∀ ρ as ρ', f ρ = .ok as ρ' → as.length = es.length

section
variable {X : Cx} {W : XK} {a b c e : Expr} {fa fb fc fe : EM D} {ba bb : EM Bool} {pos pos' : Pos} {es : List Expr} {st : Stmt} {sts : List Stmt} {f g : SM} {i j : Nat} {x y : Str}

/-! ### arguments -/
theorem ad_nil : PAD X W [] (retE []) := ⟨_, pa_nil, TAD.nil⟩
theorem ad_cons {fr : EM (List D)} (ha : PD X W e fe) (hr : PAD X W es fr) (hs : starEach (e :: es) X.env = (false, eval e X.env) :: starEach es X.env) : PAD X W (e :: es) (consE fe fr) :=
  let ⟨_, a1, a2⟩ := ha.ex; let ⟨_, r1, r2⟩ := hr.ex; ⟨_, pa_cons a1 r1 hs, TAD.cons a2 r2⟩
theorem ar_nil : PAR X W [] (retE []) := ⟨⟨_, pa_nil, TAR.nil⟩, fun ρ as ρ' h => by cases h; rfl⟩
theorem bindM_ok {α β : Type} {m : EM α} {f : α → EM β} {ρ ρ' : Ro} {b : β} (h : bindM m f ρ = .ok b ρ') : ∃ a ρ1, m ρ = .ok a ρ1 ∧ f a ρ1 = .ok b ρ' := by
  unfold bindM Res.bind at h
  cases e : m ρ with
  | bad => rw [e] at h; cases h
  | ok a ρ1 => rw [e] at h; exact ⟨a, ρ1, rfl, h⟩
  | err x => rw [e] at h; cases h
theorem ar_v {fr : EM (List Arg)} (ha : PD X W e fe) (hr : PAR X W es fr) (hs : starEach (e :: es) X.env = (false, eval e X.env) :: starEach es X.env) : PAR X W (e :: es) (argV fe fr) :=
  ⟨let ⟨_, a1, a2⟩ := ha.ex; let ⟨_, r1, r2⟩ := hr.ex; ⟨_, pa_cons a1 r1 hs, TAR.v a2 r2⟩, fun ρ as ρ' h => by
    obtain ⟨d, ρ1, _, h2⟩ := bindM_ok h
    obtain ⟨xs, ρ2, h3, h4⟩ := bindM_ok h2
    cases h4
    simp [hr.len _ _ _ h3]⟩
theorem ar_s (i : Nat) {fr : EM (List Arg)} (hN : X.N[i]? = some x) (hv : Vis X.env.scope x) (hr : PAR X W es fr) (hs : starEach (.Name x pos :: es) X.env = (false, eval (.Name x pos) X.env) :: starEach es X.env)
    (hd : (x == ("__debug__" : Str)) = false := by decide) (hcd : (x == ("__classdict__" : Str)) = false := by decide) : PAR X W (.Name x pos :: es) (argS i fr) :=
  ⟨let ⟨_, r1, r2⟩ := hr.ex; ⟨_, pa_cons (pe_var hN hv hd hcd) r1 hs, TAR.s r2⟩, fun ρ as ρ' h => by
    obtain ⟨d, ρ1, _, h2⟩ := bindM_ok h
    obtain ⟨xs, ρ2, h3, h4⟩ := bindM_ok h2
    cases h4
    simp [hr.len _ _ _ h3]⟩

/-! ### a def of the text, as it may be called -/
structure FnD (P : Program) (w : World) (K : PySem.W.Frag) (mg : Str → Option Value) (base : Heap) (k : Nat) (x : Str) (n : Nat) (m : EM D) : Prop where
  ex : ∃ f fd ps, FnOk P w K mg base (L2.CX P w) k f fd ps (spM K mg n m) ∧ mg x = some (.ref f) ∧ PySem.W.keepIn K (.ref f) = true ∧ Binds K fd ps []
theorem d_call {p : Pos} {k n : Nat} {m : EM D} {fr : EM (List Arg)} (F : FnD X.prog X.w X.K X.mg X.base k x n m) (hr : Room k X.A) (hg : Gl X x) (hx : Passes (L2.CX X.prog X.w) X W) (ha : PAR X W (e :: es) fr) (hn : (e :: es).length = n)
    (he : starEach (e :: es) X.env = (false, eval e X.env) :: starEach es X.env) (hpl : (backTo pos (starEach es X.env)).any (·.1) = false) (hdb : (x == ("__debug__" : Str)) = false := by decide) :
    PD X W (.Call (.Name x p) (e :: es) [] pos) (callE m fr) := by
  obtain ⟨f, fd, ps, F1, F2, F3, F4⟩ := F.ex
  obtain ⟨t, t1, t2⟩ := ha.ex
  exact ⟨_, pe_call F1 hr hg F2 F3 F4 .nil hx t1 hdb he hpl, TD.call t2 fun ρ as ρ' h => (ha.len ρ as ρ' h).trans hn⟩

/-! ### targets -/
theorem g_name (i : Nat) (hN : X.N.Nodup) (hi : X.N[i]? = some x) (hx : Loc X.env.scope x) (hf : X.fn x = true ∨ X.env.scope.names.lookup x = some .local) : PGD X (.Name x pos) [i] (setT i) := ⟨_, pg_name hN hi hx hf, TGD.name⟩
theorem gs_nil : PGsD X [] [] nilT := ⟨_, pgs_nil, TGDs.nil⟩
theorem gs_cons {is js : List Nat} {fg : D → Ro → Option Ro} {fgs : List D → Ro → Option Ro} (h1 : PGD X e is fg) (h2 : PGsD X es js fgs) (hs : (assignEach (e :: es) X.env).map (·.2) = assign e X.env :: (assignEach es X.env).map (·.2)) :
    PGsD X (e :: es) (is ++ js) (consT fg fgs) := let ⟨_, a1, a2⟩ := h1.ex; let ⟨_, b1, b2⟩ := h2.ex; ⟨_, pgs_cons a1 b1 hs, TGDs.cons a2 b2⟩
theorem g_tup {is : List Nat} {fgs : List D → Ro → Option Ro} {k n : Nat} (hc : X.calm = true) (h : PGsD X es is fgs) (hn : (assignEach es X.env).length = n) (hst : (assignEach es X.env).findIdx? (·.1) = none) : PGD X (.Tuple es k pos) is (tupT n fgs) :=
  let ⟨_, a1, a2⟩ := h.ex; ⟨_, pg_tup hc a1 hn hst, TGD.tup a2⟩

/-! ### blocks -/
theorem ss_nil : PSsD X W [] nextS := ⟨_, pss_nil, TSD.next⟩
theorem ss_cons (h1 : PSD X W st f) (h2 : PSsD X W sts g) : PSsD X W (st :: sts) (seqS f g) := let ⟨_, a1, a2⟩ := h1.ex; let ⟨_, b1, b2⟩ := h2.ex; ⟨_, pss_cons a1 b1, TSD.seq a2 b2⟩
theorem ss_one (h1 : PSD X W st f) : PSsD X W [st] f := let ⟨_, a1, a2⟩ := h1.ex; ⟨_, pss_one a1, a2⟩
theorem ss_thaw (i : Nat) (h : PSsD X W sts f) : PSsD X W sts (seqS (thawS i) f) := let ⟨_, a1, a2⟩ := h.ex; ⟨_, pss_lk i a1, TSD.thaw i a2⟩
theorem s_set (i : Nat) (hN : X.N.Nodup) (hi : X.N[i]? = some x) (hx : Loc X.env.scope x) (hf : X.fn x = true ∨ X.env.scope.names.lookup x = some .local) (he : PD X W e fe) (hs : swapsWith e (some (.Name x pos')) pos.line X.env = pure false) :
    PSD X W (.Assign [.Name x pos'] e pos) (asgS fe (setT i)) := let ⟨_, a1, a2⟩ := he.ex; ⟨_, ps_set hN hi hx a1 hs hf, TSD.asg a2 TGD.name⟩
theorem s_new (i : Nat) (hN : X.N.Nodup) (hi : X.N[i]? = some x) (hx : Loc X.env.scope x) (hf : X.fn x = true ∨ X.env.scope.names.lookup x = some .local) (he : PF X W e fe) (hs : swapsWith e (some (.Name x pos')) pos.line X.env = pure false) :
    PSD X W (.Assign [.Name x pos'] e pos) (newS i fe) := let ⟨_, a1, a2⟩ := he.ex; ⟨_, ps_set hN hi hx a1 hs hf, TSD.new a2⟩
theorem s_asg {tg : Expr} {is : List Nat} {fg : D → Ro → Option Ro} (he : PD X W e fe) (hg : PGD X tg is fg) (hs : swapsWithSole [tg] e pos.line X.env = pure false) (hw : swappedStores [tg] e X.env = pure none) (h1 : (assignEach [tg] X.env).map (·.2) = [assign tg X.env]) :
    PSD X W (.Assign [tg] e pos) (asgS fe fg) := let ⟨_, a1, a2⟩ := he.ex; let ⟨_, b1, b2⟩ := hg.ex; ⟨_, ps_asg a1 b1 hs hw h1, TSD.asg a2 b2⟩
theorem s_expr (he : PD X W e fe) (hs : swapsWith e none pos.line X.env = pure false) : PSD X W (.Expr e pos) (dropS fe) := let ⟨_, a1, a2⟩ := he.ex; ⟨_, ps_expr a1 hs, TSD.drop a2⟩
theorem s_ret (he : PD X W e fe) : PSD X W (.Return (some e) pos) (retS fe) := let ⟨_, a1, a2⟩ := he.ex; ⟨_, ps_ret a1, TSD.ret a2⟩
theorem s_if {aa bb' : List Stmt} (hc : PB X W c ba) (ha : PSsD X W aa f) (hb : PSsD X W bb' g) : PSD X W (.If c aa bb' pos) (ifS ba f g) :=
  let ⟨_, c1, c2⟩ := hc.ex; let ⟨_, a1, a2⟩ := ha.ex; let ⟨_, b1, b2⟩ := hb.ex; ⟨_, ps_if c1 a1 b1, TSD.ifS c2 a2 b2⟩
theorem s_for {tg it : Expr} {body : List Stmt} {is : List Nat} {fi : EM (List D)} {fg : D → Ro → Option Ro} (hp : PassesOwn (model X.prog X.w) X.A X.env X.xe) (hc : X.calm = true) (hi : PID X W tg it fi) (hg : PGD X tg is fg) (hb : PSsD X W body f)
    (hs : ∀ x, foldedSetIterable it X.env x = pure x) : PSD X W (.For tg it body [] pos) (forS fi fg f) :=
  let ⟨_, a1, a2⟩ := hi.ex; let ⟨_, b1, b2⟩ := hg.ex; let ⟨_, c1, c2⟩ := hb.ex; ⟨_, ps_for hp hc a1 b1 c1 hs, TSD.forS a2 b2 c2⟩
theorem s_while {body : List Stmt} (n : Nat) (hp : PassesOwn (model X.prog X.w) X.A X.env X.xe) (hc : PB X W c ba) (hb : PSsD X W body f) : PSD X W (.While c body [] pos) (iterS ba f n) :=
  let ⟨_, a1, a2⟩ := hc.ex; let ⟨_, b1, b2⟩ := hb.ex; ⟨_, ps_while hp a1 b1, TSD.whileS n a2 b2⟩
/-- a, b = x, y with plain local names -/
def parS (i j : Nat) (fr : EM (List D)) : SM := fun ρ => (fr ρ).bind fun ds ρ1 => match ds with
  | [d, e] => match (setT i d ρ1).bind (setT j e) with
    | some ρ2 => .ok .nx ρ2
    | none => .bad
  | _ => .bad
theorem TSD.par {K : PySem.W.Frag} {mg : Str → Option Value} {ta : TA} {fr : EM (List D)} (ha : TAD K mg W ta fr) : TSD K mg W (tPar i j ta) (parS i j fr) := by
  intro Hf σ ρ H S E h
  refine ha Hf σ ρ H S _ ((Wp.rbind h).mono fun ds ρ1 h1 vs Hf1 H1 s1 S1 r1 => ?_)
  match ds, h1, r1 with
  | [d, e], h1, r1 =>
    unfold Reps at r1
    obtain ⟨v, r', rfl, r2, r3⟩ := r1
    unfold Reps at r3
    obtain ⟨u, r'', rfl, r4, r5⟩ := r3
    unfold Reps at r5
    subst r5
    refine ⟨v, u, rfl, ?_⟩
    simp only at h1
    cases e1 : setT i d ρ1 with
    | none => rw [e1] at h1; exact h1.elim
    | some ρ2 =>
      rw [e1] at h1
      simp only [Option.bind_some] at h1
      cases e2 : setT j e ρ2 with
      | none => rw [e2] at h1; exact h1.elim
      | some ρ3 =>
        rw [e2] at h1
        obtain ⟨a1, a2, rfl⟩ := setT_inv e1
        obtain ⟨b1, b2, rfl⟩ := setT_inv e2
        obtain ⟨s2, S2⟩ := set_v S1 r2 a1 a2
        obtain ⟨s3, S3⟩ := set_v S2 r4 b1 b2
        exact h1 Hf1 _ H1 ((s1.trans s2).trans s3) S3
  | [], h1, _ => exact h1.elim
  | [_], h1, _ => exact h1.elim
  | _ :: _ :: _ :: _, h1, _ => exact h1.elim
theorem s_par (i j : Nat) {x y : Str} {px py pt : Pos} {kt k2 pt2} {fr : EM (List D)} (hc : X.calm = true) (hN : X.N.Nodup) (hi : X.N[i]? = some x) (hj : X.N[j]? = some y) (hij : i ≠ j)
    (hx : X.env.scope.names.lookup x = some .local) (hy : X.env.scope.names.lookup y = some .local) (ha : PAD X W [a, b] fr)
    (hw : swappedStores [.Tuple [.Name x px, .Name y py] kt pt] (.Tuple [a, b] k2 pt2) X.env = pure (some [x, y]))
    (hs : swapsWithSole [.Tuple [.Name x px, .Name y py] kt pt] (.Tuple [a, b] k2 pt2) pos.line X.env = pure false) :
    PSD X W (.Assign [.Tuple [.Name x px, .Name y py] kt pt] (.Tuple [a, b] k2 pt2) pos) (parS i j fr) := let ⟨_, a1, a2⟩ := ha.ex; ⟨_, ps_par hc hN hi hj hij hx hy a1 hw hs, TSD.par a2⟩

/-! ### raise -/
def raiseS (x : Str) : SM := fun _ => .err ⟨x, none⟩
theorem s_raise {m : Str} {k : Nat} {p p2 p3 : Pos} {C : Addr} {bmB : List Value} {B newId initId : String} (hc : X.calm = true) (tk : Takes X fun cls d _ H => W cls d H) (F : ExcBaseFacts B newId initId bmB)
    (q : PySem.W.excIn X.K C bmB newId = true) (gC : X.mg x = some (.ref C)) (kC : PySem.W.keepIn X.K (.ref C) = true) (r : Raises X (.ref C)) (hg : Gl X x) (hdb : (x == ("__debug__" : Str)) = false := by decide) :
    PSD X W (.Raise (some (.Call (.Name x p) [.Constant (.str m) k p2] [] p3)) none pos) (raiseS x) :=
  ⟨_, ps_raise hc tk (pmk_own F q gC kC r hg hdb), fun Hf σ ρ H S E h => h (.ref C) none H ⟨C, gC, rfl, rfl⟩⟩

/-! ### comprehensions -/
def rdE (K : PySem.W.Frag) (mg : Str → Option Value) (W : XK) (f : EM D) : TE := fun σ H Q => ∃ Hf ρ, SR K Hf σ ρ H ∧ Wp K mg W (f ρ) (fun d ρ' => ∀ v Hf' H', Stp Hf σ ρ H Hf' σ ρ' H' → SR K Hf' σ ρ' H' → Rep K Hf' d v → Q v H')
def rdB (K : PySem.W.Frag) (mg : Str → Option Value) (W : XK) (f : EM Bool) : TT := fun σ H Q => ∃ Hf ρ, SR K Hf σ ρ H ∧ Wp K mg W (f ρ) (fun b ρ' => ∀ Hf' H', Stp Hf σ ρ H Hf' σ ρ' H' → SR K Hf' σ ρ' H' → Q b H')
def rdG (K : PySem.W.Frag) (is : List Nat) (f : D → Ro → Option Ro) : TG := fun v σ H Q => ∃ Hf ρ d ρ', SR K Hf σ ρ H ∧ Rep K Hf d v ∧ f d ρ = some ρ' ∧ ∀ σ', Stp Hf σ ρ H Hf σ' ρ' H → SR K Hf σ' ρ' H → (∀ j : Nat, j ∉ is → σ'[j]? = σ[j]?) → Q σ' H
theorem PD.pe (h : PD X W e fe) : PE X e (rdE X.K X.mg W fe) := by
  obtain ⟨t, h1, h2⟩ := h.ex
  refine ⟨fun pins s σ H Q I ⟨Hf, ρ, S, w⟩ => h1.run pins s σ H Q I (h2 Hf σ ρ H S Q w)⟩
theorem TD.rd {K : PySem.W.Frag} {mg : Str → Option Value} {f : EM D} : TD K mg W (rdE K mg W f) f := fun Hf σ ρ H S Q w => ⟨Hf, ρ, S, w⟩
theorem PGD.pg {is : List Nat} {fg : D → Ro → Option Ro} (h : PGD X e is fg) : PG X e (rdG X.K is fg) := by
  obtain ⟨t, h1, h2⟩ := h.ex
  refine ⟨fun pins s σ H v u Q I r ⟨Hf, ρ, d, ρ', S, r1, e1, k⟩ => h1.run pins s σ H v u Q I r (h2 Hf σ ρ H d v ρ' S r1 e1 Q k)⟩
theorem TGD.rd {K : PySem.W.Frag} {is : List Nat} {fg : D → Ro → Option Ro} : TGD K (rdG K is fg) is fg := fun Hf σ ρ H d v ρ' S r e Q k => ⟨Hf, ρ, d, ρ', S, r, e, k⟩
/-- a clause's tests -/
structure PTsD (X : Cx) (W : XK) (ifs : List Expr) (f : EM Bool) : Prop where
  ex : ∃ t, PTs X ifs t ∧ TB X.K X.mg W t f
def yesT : EM Bool := retE true
theorem ts_nil : PTsD X W [] yesT := ⟨_, pts_nil, fun Hf σ ρ H S Q h => h Hf H Stp.refl S⟩
theorem ts_one (h : PB X W c ba) : PTsD X W [c] ba := let ⟨_, c1, c2⟩ := h.ex; ⟨_, pts_one c1, c2⟩
theorem PTsD.pt {ifs : List Expr} (h : PTsD X W ifs ba) : PTs X ifs (rdB X.K X.mg W ba) := by
  obtain ⟨t, h1, h2⟩ := h.ex
  refine ⟨fun pins s σ H Q I ⟨Hf, ρ, S, w⟩ => h1.run pins s σ H Q I (h2 Hf σ ρ H S Q w)⟩
theorem TB.rd {K : PySem.W.Frag} {mg : Str → Option Value} {f : EM Bool} : TB K mg W (rdB K mg W f) f := fun Hf σ ρ H S Q w => ⟨Hf, ρ, S, w⟩
section
variable {elt tg iter : Expr} {ifs : List Expr} {scope : Scope} {own : List (Str × Nat)} {is : List Nat} {fi : EM (List D)} {fg : D → Ro → Option Ro} {ft : EM Bool} {spos : Pos}
theorem f_lc (own : List (Str × Nat)) (hc : X.calm = true) (hN : X.N.Nodup) (hi : PID X W tg iter fi) (ok : blkC X.N X.env.scope scope own = true)
    (hg : ∀ (s : Shared) (H : Hp) (C : Addr) (cl : List (Str × Addr)) (fp : List Addr), PGD (X.blk s H scope (compEnvC scope cl C X.env) fp) tg is fg) (hs : ∀ i ∈ is, i ∈ own.map (·.2))
    (ht : ∀ (s : Shared) (H : Hp) (C : Addr) (cl : List (Str × Addr)) (fp : List Addr), PTsD (X.blk s H scope (compEnvC scope cl C X.env) fp) E00 ifs ft)
    (he : ∀ (s : Shared) (H : Hp) (C : Addr) (cl : List (Str × Addr)) (fp : List Addr), PD (X.blk s H scope (compEnvC scope cl C X.env) fp) E00 e fe) (hsi : ∀ x, foldedSetIterable iter X.env x = pure x) :
    PF X W (.ListComp e [⟨tg, iter, ifs, 0⟩] scope pos) (lcE (own.map (·.2)) fi fg ft fe) :=
  let ⟨_, a1, a2⟩ := hi.ex; ⟨_, pe_lc hc hN a1 (blkOk_by ok) (fun s H C cl fp => (hg s H C cl fp).pg) (fun s H C cl fp => (ht s H C cl fp).pt) (fun s H C cl fp => (he s H C cl fp).pe) hsi, TF.lc a2 TGD.rd hs TB.rd TD.rd⟩
/-- name = [..] on one line, the name a local: rd says whether the name owns it -/
theorem s_lcNew (i : Nat) {y : Str} {py : Pos} (own : List (Str × Nat)) (hc : X.calm = true) (hN : X.N.Nodup) (hy : X.N[i]? = some y) (hyl : X.env.scope.names.lookup y = some .local)
    (hsw : swapsWith (.ListComp e [⟨tg, iter, ifs, 0⟩] scope pos) (some (.Name y py)) spos.line X.env = pure true) (hi : PID X W tg iter fi) (ok : blkC X.N X.env.scope scope own = true)
    (hg : ∀ (s : Shared) (H : Hp) (C : Addr) (cl : List (Str × Addr)) (fp : List Addr), PGD (X.blk s H scope (compEnvC scope cl C X.env) fp) tg is fg) (hs : ∀ i ∈ is, i ∈ own.map (·.2))
    (ht : ∀ (s : Shared) (H : Hp) (C : Addr) (cl : List (Str × Addr)) (fp : List Addr), PTsD (X.blk s H scope (compEnvC scope cl C X.env) fp) E00 ifs ft)
    (he : ∀ (s : Shared) (H : Hp) (C : Addr) (cl : List (Str × Addr)) (fp : List Addr), PD (X.blk s H scope (compEnvC scope cl C X.env) fp) E00 e fe) (hsi : ∀ x, foldedSetIterable iter X.env x = pure x) :
    PSD X W (.Assign [.Name y py] (.ListComp e [⟨tg, iter, ifs, 0⟩] scope pos) spos) (newS i (lcE (own.map (·.2)) fi fg ft fe)) :=
  let ⟨_, a1, a2⟩ := hi.ex; ⟨_, ps_setLc hc hN hy hyl hsw a1 (blkOk_by ok) (fun s H C cl fp => (hg s H C cl fp).pg) (fun s H C cl fp => (ht s H C cl fp).pt) (fun s H C cl fp => (he s H C cl fp).pe) hsi, TSD.new (TF.lc a2 TGD.rd hs TB.rd TD.rd)⟩
theorem s_lcSet (i : Nat) {y : Str} {py : Pos} (own : List (Str × Nat)) (hc : X.calm = true) (hN : X.N.Nodup) (hy : X.N[i]? = some y) (hyl : X.env.scope.names.lookup y = some .local)
    (hsw : swapsWith (.ListComp e [⟨tg, iter, ifs, 0⟩] scope pos) (some (.Name y py)) spos.line X.env = pure true) (hi : PID X W tg iter fi) (ok : blkC X.N X.env.scope scope own = true)
    (hg : ∀ (s : Shared) (H : Hp) (C : Addr) (cl : List (Str × Addr)) (fp : List Addr), PGD (X.blk s H scope (compEnvC scope cl C X.env) fp) tg is fg) (hs : ∀ i ∈ is, i ∈ own.map (·.2))
    (ht : ∀ (s : Shared) (H : Hp) (C : Addr) (cl : List (Str × Addr)) (fp : List Addr), PTsD (X.blk s H scope (compEnvC scope cl C X.env) fp) E00 ifs ft)
    (he : ∀ (s : Shared) (H : Hp) (C : Addr) (cl : List (Str × Addr)) (fp : List Addr), PD (X.blk s H scope (compEnvC scope cl C X.env) fp) E00 e fe) (hsi : ∀ x, foldedSetIterable iter X.env x = pure x) :
    PSD X W (.Assign [.Name y py] (.ListComp e [⟨tg, iter, ifs, 0⟩] scope pos) spos) (asgS (lcE (own.map (·.2)) fi fg ft fe) (setT i)) :=
  let ⟨_, a1, a2⟩ := hi.ex; ⟨_, ps_setLc hc hN hy hyl hsw a1 (blkOk_by ok) (fun s H C cl fp => (hg s H C cl fp).pg) (fun s H C cl fp => (ht s H C cl fp).pt) (fun s H C cl fp => (he s H C cl fp).pe) hsi, TSD.asg (TF.tdl (TF.lc a2 TGD.rd hs TB.rd TD.rd) lcE_lst) TGD.name⟩
end
end

/-! ### the rule of a def -/
def backP : Ro → Ro → Ro
  | x :: xs, y :: ys => (match x with | .p _ => y | x => x) :: backP xs ys
  | xs, _ => xs
def runB (n l : Nat) (b : SM) : EM D := fun ρ0 => match b (ρ0 ++ List.replicate (l - n) .u) with
  | .ok fl ρ' => (match fl with
    | .ret d => .ok d (backP ρ0 ρ')
    | .nx => .ok .non (backP ρ0 ρ')
    | _ => .bad)
  | .bad => .bad
  | .err x => .err x
theorem backP_get : ∀ {ρ0 ρ' : Ro} {i : Nat}, ρ0.length ≤ ρ'.length → (backP ρ0 ρ')[i]? = match ρ0[i]? with
    | none => none
    | some (.p _) => ρ'[i]?
    | some x => some x
  | [], _, i, _ => by simp [backP]
  | x :: xs, [], _, h => by simp at h
  | x :: xs, y :: ys, 0, h => by cases x <;> simp [backP]
  | x :: xs, y :: ys, i + 1, h => by
    simp only [backP, List.getElem?_cons_succ]
    exact backP_get (by simpa using h)
theorem backP_len : ∀ {ρ0 ρ' : Ro}, (backP ρ0 ρ').length = ρ0.length
  | [], _ => rfl
  | x :: xs, [] => rfl
  | x :: xs, y :: ys => by simp [backP, backP_len]
section
variable {K : PySem.W.Frag} {Hf H Hf' H' : Hp} {σ' : L2.St} {ρ0 ρ' : Ro}
theorem start_sr {N : List Str} {vs : List V} {n : Nat} (S : SR K Hf (vs.map some) ρ0 H) (hn : vs.length = n) : SR K Hf (L2.start N vs) (ρ0 ++ List.replicate (N.length - n) .u) H := by
  have hl : ρ0.length = vs.length := by have := S.len; simpa using this.symm
  have out : ∀ (i : Nat) (x : Sl), (ρ0 ++ List.replicate (N.length - n) Sl.u)[i]? = some x → x ≠ .u → ρ0[i]? = some x ∧ ∀ y, (vs.map some)[i]? = some y → (L2.start N vs)[i]? = some y := fun i x h hx => by
    by_cases hi : i < ρ0.length
    · rw [List.getElem?_append_left hi] at h
      refine ⟨h, fun y hy => ?_⟩
      unfold L2.start
      rw [List.getElem?_append_left (by simp; omega)]; exact hy
    · rw [List.getElem?_append_right (by omega)] at h
      exact absurd (List.eq_of_mem_replicate (List.mem_of_getElem? h)) hx
  refine ⟨S.sub, ?_, fun i d h => ?_, fun i d h => ?_, fun i j a ⟨h1, d1, h2⟩ ⟨h3, d2, h4⟩ => ?_⟩
  · unfold L2.start
    simp [hl, hn]
  · obtain ⟨h1, h2⟩ := out i _ h (by simp)
    obtain ⟨v, g1, g2⟩ := S.val i d h1
    exact ⟨v, h2 _ g1, g2⟩
  · have h' : ρ0[i]? = some (Sl.o d) ∨ ρ0[i]? = some (Sl.p d) := by
      rcases h with h | h
      · exact .inl (out i _ h (by simp)).1
      · exact .inr (out i _ h (by simp)).1
    obtain ⟨a, g1, g2⟩ := S.own i d h'
    refine ⟨a, ?_, g2⟩
    rcases h with h | h
    · exact (out i _ h (by simp)).2 _ g1
    · exact (out i _ h (by simp)).2 _ g1
  · have e1 : ∃ a', (vs.map some)[i]? = some (some (V.ref a')) ∧ (L2.start N vs)[i]? = some (some (V.ref a')) ∧ (ρ0[i]? = some (Sl.o d1) ∨ ρ0[i]? = some (Sl.p d1)) := by
      rcases h2 with h | h
      · obtain ⟨q1, q2⟩ := out i _ h (by simp)
        obtain ⟨a', g1, _⟩ := S.own i d1 (.inl q1)
        exact ⟨a', g1, q2 _ g1, .inl q1⟩
      · obtain ⟨q1, q2⟩ := out i _ h (by simp)
        obtain ⟨a', g1, _⟩ := S.own i d1 (.inr q1)
        exact ⟨a', g1, q2 _ g1, .inr q1⟩
    have e2 : ∃ a', (vs.map some)[j]? = some (some (V.ref a')) ∧ (L2.start N vs)[j]? = some (some (V.ref a')) ∧ (ρ0[j]? = some (Sl.o d2) ∨ ρ0[j]? = some (Sl.p d2)) := by
      rcases h4 with h | h
      · obtain ⟨q1, q2⟩ := out j _ h (by simp)
        obtain ⟨a', g1, _⟩ := S.own j d2 (.inl q1)
        exact ⟨a', g1, q2 _ g1, .inl q1⟩
      · obtain ⟨q1, q2⟩ := out j _ h (by simp)
        obtain ⟨a', g1, _⟩ := S.own j d2 (.inr q1)
        exact ⟨a', g1, q2 _ g1, .inr q1⟩
    obtain ⟨a1, k1, k2, k3⟩ := e1
    obtain ⟨a2, m1, m2, m3⟩ := e2
    rw [k2] at h1; cases h1
    rw [m2] at h3; cases h3
    exact S.inj i j _ ⟨k1, d1, k3⟩ ⟨m1, d2, m3⟩
/-- behind the body: the lent things -/
theorem end_sr {N : List Str} {vs : List V} {n : Nat} (S : SR K Hf (vs.map some) ρ0 H) (hn : vs.length = n) (no : ∀ (i : Nat) (d : D), ρ0[i]? ≠ some (Sl.o d))
    (s : Stp Hf (L2.start N vs) (ρ0 ++ List.replicate (N.length - n) .u) H Hf' σ' ρ' H') (S' : SR K Hf' σ' ρ' H') : Stp Hf (vs.map some) ρ0 H Hf' (vs.map some) (backP ρ0 ρ') H' ∧ SR K Hf' (vs.map some) (backP ρ0 ρ') H' := by
  have hl : ρ0.length = vs.length := by have := S.len; simpa using this.symm
  have hle : ρ0.length ≤ ρ'.length := by rw [s.len]; simp
  have S0 := start_sr (N := N) S hn
  have lift : ∀ (i : Nat) (x : Sl), ρ0[i]? = some x → (ρ0 ++ List.replicate (N.length - n) Sl.u)[i]? = some x := fun i x h => by
    rw [List.getElem?_append_left (List.getElem?_eq_some_iff.mp h).1]; exact h
  have oaN : ∀ b, OA (L2.start N vs) (ρ0 ++ List.replicate (N.length - n) Sl.u) b → OA (vs.map some) ρ0 b := fun b ⟨i, h1, d, h2⟩ => by
    have hi : i < ρ0.length := by
      by_cases hi : i < ρ0.length
      · exact hi
      · rw [List.getElem?_append_right (by omega)] at h2
        rcases h2 with h2 | h2 <;> exact absurd (List.eq_of_mem_replicate (List.mem_of_getElem? h2)) (by simp)
    rw [List.getElem?_append_left hi] at h2
    obtain ⟨a, g1, _⟩ := S.own i d h2
    have : (L2.start N vs)[i]? = some (some (V.ref a)) := by
      unfold L2.start
      rw [List.getElem?_append_left (by simp; omega)]; exact g1
    rw [this] at h1; cases h1
    exact ⟨i, g1, d, h2⟩
  have ooN : ∀ b, ¬ OO (L2.start N vs) (ρ0 ++ List.replicate (N.length - n) Sl.u) b := fun b ⟨i, d, h1, h2⟩ => by
    by_cases hi : i < ρ0.length
    · rw [List.getElem?_append_left hi] at h2; exact no i d h2
    · rw [List.getElem?_append_right (by omega)] at h2
      exact absurd (List.eq_of_mem_replicate (List.mem_of_getElem? h2)) (by simp)
  have st : ∀ (i : Nat) (d : D), ρ0[i]? = some (Sl.p d) → ∃ d' a, ρ'[i]? = some (Sl.p d') ∧ (vs.map some)[i]? = some (some (V.ref a)) ∧ σ'[i]? = some (some (V.ref a)) := fun i d h => by
    obtain ⟨⟨d', p1⟩, p2⟩ := s.pin i d (lift i _ h)
    obtain ⟨a, g1, _⟩ := S.own i d (.inr h)
    refine ⟨d', a, p1, g1, ?_⟩
    rw [p2]
    unfold L2.start
    rw [List.getElem?_append_left (by have := (List.getElem?_eq_some_iff.mp h).1; simp; omega)]; exact g1
  have bk : ∀ (i : Nat) (d : D), ((backP ρ0 ρ')[i]? = some (Sl.o d) → False) ∧ ((backP ρ0 ρ')[i]? = some (Sl.p d) → ∃ d0, ρ0[i]? = some (Sl.p d0) ∧ ρ'[i]? = some (Sl.p d)) ∧ ((backP ρ0 ρ')[i]? = some (Sl.v d) → ρ0[i]? = some (Sl.v d)) := fun i d => by
    rw [backP_get hle]
    cases e : ρ0[i]? with
    | none => simp
    | some x =>
      cases x with
      | u => simp
      | v d1 => simp
      | o d1 => exact absurd e (no i d1)
      | p d1 =>
        obtain ⟨d', a, q1, _⟩ := st i d1 e
        simp [q1]
  refine ⟨⟨s.fz, fun b o h n' => s.keep b o h fun q => n' (oaN b q), s.there, fun b h h1 _ => s.out b h h1 (ooN b), fun i d h => ?_, fun i d h => ?_, fun b ⟨i, d, h1, h2⟩ => ((bk i d).1 h2).elim, backP_len⟩, ⟨S'.sub, by rw [backP_len]; simp [hl], fun i d h => ?_, fun i d h => ?_, fun i j a ⟨h1, d1, h2⟩ ⟨h3, d2, h4⟩ => ?_⟩⟩
  · obtain ⟨d', a, q1, _⟩ := st i d h
    exact ⟨⟨d', by rw [backP_get hle, h]; exact q1⟩, rfl⟩
  · obtain ⟨d0, q1, _⟩ := (bk i d).2.1 h
    exact ⟨d0, q1⟩
  · obtain ⟨v, g1, g2⟩ := S.val i d ((bk i d).2.2 h)
    exact ⟨v, g1, Rep.mono s.fz g2⟩
  · rcases h with h | h
    · exact ((bk i d).1 h).elim
    · obtain ⟨d0, q1, q2⟩ := (bk i d).2.1 h
      obtain ⟨d', a, r1, r2, r3⟩ := st i d0 q1
      obtain ⟨b, g1, g2, g3⟩ := S'.own i d (.inr q2)
      rw [r3] at g1; cases g1
      exact ⟨a, r2, g2, g3⟩
  · have o1 : ∃ d0, ρ0[i]? = some (Sl.p d0) := by
      rcases h2 with h | h
      · exact ((bk i d1).1 h).elim
      · obtain ⟨d0, q1, _⟩ := (bk i d1).2.1 h; exact ⟨d0, q1⟩
    have o2 : ∃ d0, ρ0[j]? = some (Sl.p d0) := by
      rcases h4 with h | h
      · exact ((bk j d2).1 h).elim
      · obtain ⟨d0, q1, _⟩ := (bk j d2).2.1 h; exact ⟨d0, q1⟩
    obtain ⟨e1, o1⟩ := o1
    obtain ⟨e2, o2⟩ := o2
    exact S.inj i j a ⟨h1, e1, .inr o1⟩ ⟨h3, e2, .inr o2⟩
end
section
variable {P : Program} {w : World} {K : PySem.W.Frag} {mg : Str → Option Value} {base : Heap}
theorem fn_d {x qual : Str} {st : Stmt} {f : Addr} {fd : FuncData} {N ps : List Str} {k n : Nat} {b : SM} (F : Fun K x qual st f fd) (S : FnScope N ps (defScope st)) (hn : ps.length = n)
    (hb : ∀ (cdv : Value) (A : Around) (outer : List Env) (s : Shared) (H : Hp) (E : XK), Room k (A.deeper (PyProof.Rows.envOfC qual (defScope st) s.heap.objs.size f cdv)) →
      PSsD (cxOf (L2.CX P w) P w K mg base N qual (defScope st) f cdv A outer s H E) E (defBody st) b) : FnOk P w K mg base (L2.CX P w) (k + 1) f fd ps (spM K mg n (runB n N.length b)) := by
  refine F.okX S (fun vs H Q E h => h.1.trans hn.symm) (fun cdv A outer s H vs Q E hr h => ?_)
  obtain ⟨h1, Hf, ρ0, S0, no, w⟩ := h
  obtain ⟨t, t1, t2⟩ := (hb cdv A outer s H E hr).ex
  refine ⟨t, t1, t2 Hf (L2.start N vs) (ρ0 ++ List.replicate (N.length - n) Sl.u) H (start_sr S0 h1) _ ?_⟩
  unfold runB at w
  cases e : b (ρ0 ++ List.replicate (N.length - n) .u) with
  | bad => rw [e] at w; exact w
  | err y => rw [e] at w; exact w
  | ok fl ρ' =>
    rw [e] at w
    intro Hf' σ' H' s' S'
    obtain ⟨z1, z2⟩ := end_sr S0 h1 no s' S'
    cases fl with
    | ret d => exact fun v r => w v Hf' H' z1 z2 r
    | nx => exact w .non Hf' H' z1 z2 (by unfold Rep; rfl)
    | brk => exact w.elim
    | cnt => exact w.elim
end
end DL

/-! The D layer, 7: operations on data. -/
namespace DL
open PySem L2

section
variable {K : PySem.W.Frag} {mg : Str → Option Value} {W : XK} {Hf H Hf' H' Hf1 H1 : Hp} {σ : L2.St} {ρ : Ro} {X : Cx}
theorem fits_line {n : Nat} (h : n ≤ 1000000) : n ≤ sizeLine := Nat.le_trans h (by decide)
theorem rep_int {i : Int} {v : V} (h : Rep K Hf (.int i) v) : v = .int i := by unfold Rep at h; exact h
theorem rep_str {i : Str} {v : V} (h : Rep K Hf (.str i) v) : v = .str i := by unfold Rep at h; exact h
theorem rep_tupX {ds : List D} {v : V} (h : Rep K Hf (.tup ds) v) : ∃ a vs, v = .ref a ∧ ExT K Hf a vs ∧ Reps K Hf ds vs := by unfold Rep at h; exact h
theorem rep_tup {ds : List D} {v : V} (h : Rep K Hf (.tup ds) v) : ∃ a vs, v = .ref a ∧ SqT K Hf a vs ∧ Reps K Hf ds vs := let ⟨a, vs, h1, h2, h3⟩ := rep_tupX h; ⟨a, vs, h1, h2.sqT, h3⟩
theorem rep_prt {ds : List D} {v : V} (h : Rep K Hf (.prt ds) v) : ∃ a vs, v = .ref a ∧ SqT K Hf a vs ∧ Reps K Hf ds vs := by unfold Rep at h; exact h
theorem rep_lst {ds : List D} {v : V} (h : Rep K Hf (.lst ds) v) : ∃ a vs, v = .ref a ∧ Rd Hf a (.lst vs) ∧ Reps K Hf ds vs := by unfold Rep at h; exact let ⟨a, vs, h1, h2, h3⟩ := h; ⟨a, vs, h1, .inl h2, h3⟩
theorem reps_append : ∀ {ds es : List D} {vs us : List V}, Reps K Hf ds vs → Reps K Hf es us → Reps K Hf (ds ++ es) (vs ++ us)
  | [], _, _, _, h, r => by
    unfold Reps at h
    subst h
    exact r
  | d :: ds, _, _, _, h, r => by
    unfold Reps at h
    obtain ⟨v, r', rfl, h1, h2⟩ := h
    exact reps_cons h1 (reps_append h2 r)
theorem reps_take : ∀ {ds : List D} {vs : List V} (n : Nat), Reps K Hf ds vs → Reps K Hf (ds.take n) (vs.take n)
  | _, _, 0, _ => by simp [Reps]
  | [], _, n + 1, h => by unfold Reps at h; subst h; simp [Reps]
  | d :: ds, _, n + 1, h => by
    unfold Reps at h
    obtain ⟨v, r', rfl, h1, h2⟩ := h
    exact reps_cons h1 (reps_take n h2)
theorem reps_drop : ∀ {ds : List D} {vs : List V} (n : Nat), Reps K Hf ds vs → Reps K Hf (ds.drop n) (vs.drop n)
  | _, _, 0, h => h
  | [], _, n + 1, h => by unfold Reps at h; subst h; simp [Reps]
  | d :: ds, _, n + 1, h => by
    unfold Reps at h
    obtain ⟨v, r', rfl, h1, h2⟩ := h
    exact reps_drop n h2
theorem reps_get : ∀ {ds : List D} {vs : List V} {j : Nat} {d : D}, Reps K Hf ds vs → ds[j]? = some d → ∃ v, vs[j]? = some v ∧ Rep K Hf d v
  | [], _, _, _, _, h => by simp at h
  | d :: ds, _, 0, d', h, e => by
    unfold Reps at h
    obtain ⟨v, r', rfl, h1, h2⟩ := h
    simp at e; subst e
    exact ⟨v, rfl, h1⟩
  | d :: ds, _, j + 1, d', h, e => by
    unfold Reps at h
    obtain ⟨v, r', rfl, h1, h2⟩ := h
    obtain ⟨u, h3, h4⟩ := reps_get (j := j) h2 (by simpa using e)
    exact ⟨u, by simpa using h3, h4⟩
/-- a new tuple, a new list -/
theorem lay_tup {ds : List D} {vs : List V} (s : Same Hf H) {p : Addr} {o : Obj} (hp : H p = none) (ho : o.dict = none) (r : Reps K Hf ds vs) : New Hf H (upd Hf p (.frz o (.tup vs))) (upd H p (.frz o (.tup vs))) ∧ Rep K (upd Hf p (.frz o (.tup vs))) (.tup ds) (.ref p) := by
  refine ⟨New.lay s hp, ?_⟩
  unfold Rep
  exact ⟨p, vs, rfl, .inl ⟨o, upd_same, ho⟩, Reps.mono (same_upd (none_sub s hp)) r⟩
theorem lay_prt {ds : List D} {vs : List V} (s : Same Hf H) {p : Addr} (hp : H p = none) (r : Reps K Hf ds vs) : New Hf H (upd Hf p (.tup vs)) (upd H p (.tup vs)) ∧ Rep K (upd Hf p (.tup vs)) (.prt ds) (.ref p) := by
  refine ⟨New.lay s hp, ?_⟩
  unfold Rep
  exact ⟨p, vs, rfl, SqT.of upd_same, Reps.mono (same_upd (none_sub s hp)) r⟩
theorem lay_lst {ds : List D} {vs : List V} (s : Same Hf H) {p : Addr} (hp : H p = none) (r : Reps K Hf ds vs) : New Hf H (upd Hf p (.lst vs)) (upd H p (.lst vs)) ∧ Rep K (upd Hf p (.lst vs)) (.lst ds) (.ref p) := by
  refine ⟨New.lay s hp, ?_⟩
  unfold Rep
  exact ⟨p, vs, rfl, upd_same, Reps.mono (same_upd (none_sub s hp)) r⟩
/-- a thing laid that is nobody's: only the heap grows -/
theorem New.fresh {p : Addr} {o : HO} (s : Same Hf H) (hp : H p = none) : New Hf H Hf (upd H p o) :=
  ⟨fun _ _ h => h, same_upd hp, Same.trans s (same_upd hp), fun _ _ h => h⟩

/-! ### + -/
def addD : D → D → Option D
  | .int i, .int j => some (.int (i + j))
  | .str a, .str b => if a.length + b.length ≤ 1000000 then some (.str (a ++ b)) else none
  | .tup xs, .tup ys => if xs.length + ys.length ≤ 1000000 then some (.tup (xs ++ ys)) else none
  | .lst xs, .lst ys => if xs.length + ys.length ≤ 1000000 then some (.lst (xs ++ ys)) else none
  | _, _ => none
def rAddS : R2 := fun x y H Q => ∃ i j, x = .str i ∧ y = .str j ∧ i.length + j.length ≤ sizeLine ∧ Q (.str (i ++ j)) H
/-- list + list, either one perhaps the script -/
def rCatR : R2 := fun x y H Q => ∃ l b xs zs, x = .ref l ∧ y = .ref b ∧ Rd H l (.lst xs) ∧ Rd H b (.lst zs) ∧ xs.length + zs.length ≤ sizeLine ∧ ∀ p, H p = none → Q (.ref p) (upd H p (.lst (xs ++ zs)))
theorem op_catR : OpR X (binaryOp .Add) rCatR := by
  intro pins s σ H x y v u Q I rx ry ⟨l, b, xs, zs, e1, e2, g1, g2, hz, q⟩
  subst e1 e2
  cases rx
  cases ry
  obtain ⟨z1, l1, n1, r1, k1⟩ := g1.ok I.hok
  obtain ⟨z2, l2, n2, r2, k2⟩ := g2.ok I.hok
  refine PySem.P.add_list k1 k2 ?_ (by rw [List.size_toArray, List.size_toArray, ← r1.length, ← r2.length]; exact hz)
  rw [show l1.toArray ++ l2.toArray = (l1 ++ l2).toArray by simp]
  exact ⟨.ref _, _, I.lnew (t' := s.toks) (r1.append r2) (by rw [List.length_append]; exact hz), rfl, q _ I.fresh⟩
def rAddA (K : PySem.W.Frag) : R2 := fun x y H Q => rI0 (fun i j => .int (i + j)) x y H Q ∨ rAddS x y H Q ∨ rCatX K x y H Q ∨ rCatR x y H Q
theorem op_addA : OpR X (binaryOp .Add) (rAddA X.K) := OpR.or op_add (OpR.or op_add_str (OpR.or op_catX op_catR))
theorem rd_add : RD K (rAddA K) addD := by
  intro Hf H x y dx dy dz s rx ry e Q k
  match dx, dy, e, rx, ry with
  | .int i, .int j, e, rx, ry =>
    cases rep_int rx; cases rep_int ry
    cases e
    exact .inl ⟨i, j, rfl, rfl, k _ H Hf (New.refl s) (by unfold Rep; rfl)⟩
  | .str a, .str b, e, rx, ry =>
    cases rep_str rx; cases rep_str ry
    simp only [addD] at e
    split at e
    · rename_i hl
      cases e
      exact .inr (.inl ⟨a, b, rfl, rfl, fits_line hl, k _ H Hf (New.refl s) (by unfold Rep; rfl)⟩)
    · cases e
  | .tup xs, .tup ys, e, rx, ry =>
    obtain ⟨p, vs, rfl, g1, g2⟩ := rep_tup rx
    obtain ⟨q, us, rfl, g3, g4⟩ := rep_tup ry
    simp only [addD] at e
    split at e
    · rename_i hl
      cases e
      refine .inr (.inr (.inl ⟨p, q, vs, us, rfl, rfl, Same.sqT s g1, Same.sqT s g3, by rw [← reps_len g2, ← reps_len g4]; exact fits_line hl, fun h => ?_, fun _ h => ?_, fun _ _ z oz hz hoz => ?_⟩))
      · subst h
        have : xs = [] := List.eq_nil_of_length_eq_zero (by rw [reps_len g2]; rfl)
        subst this
        exact k _ H Hf (New.refl s) ry
      · subst h
        have : ys = [] := List.eq_nil_of_length_eq_zero (by rw [reps_len g4]; rfl)
        subst this
        rw [List.append_nil] at k
        exact k _ H Hf (New.refl s) rx
      · obtain ⟨n, r⟩ := lay_tup s hz hoz (reps_append g2 g4)
        exact k _ _ _ n r
    · cases e
  | .lst xs, .lst ys, e, rx, ry =>
    obtain ⟨p, vs, rfl, g1, g2⟩ := rep_lst rx
    obtain ⟨q, us, rfl, g3, g4⟩ := rep_lst ry
    simp only [addD] at e
    split at e
    · rename_i hl
      cases e
      refine .inr (.inr (.inr ⟨p, q, vs, us, rfl, rfl, Same.rd s g1, Same.rd s g3, by rw [← reps_len g2, ← reps_len g4]; exact fits_line hl, fun z hz => ?_⟩))
      obtain ⟨n, r⟩ := lay_lst s hz (reps_append g2 g4)
      exact k _ _ _ n r
    · cases e
/-! ### ints -/
def int2 (g : Int → Int → D) : D → D → Option D
  | .int i, .int j => some (g i j)
  | _, _ => none
def int2c (c : Int → Int → Bool) (g : Int → Int → D) : D → D → Option D
  | .int i, .int j => if c i j then some (g i j) else none
  | _, _ => none
theorem rd_int0 {g : Int → Int → V} {gd : Int → Int → D} (h : ∀ i j Hf, Rep K Hf (gd i j) (g i j)) : RD K (rI0 g) (int2 gd) := by
  intro Hf H x y dx dy dz s rx ry e Q k
  match dx, dy, e, rx, ry with
  | .int i, .int j, e, rx, ry =>
    cases rep_int rx; cases rep_int ry
    cases e
    exact ⟨i, j, rfl, rfl, k _ H Hf (New.refl s) (h i j Hf)⟩
theorem rd_intc {C : Int → Int → Prop} {c : Int → Int → Bool} {g : Int → Int → V} {gd : Int → Int → D} (hc : ∀ i j, c i j = true → C i j) (h : ∀ i j Hf, Rep K Hf (gd i j) (g i j)) : RD K (rI C g) (int2c c gd) := by
  intro Hf H x y dx dy dz s rx ry e Q k
  match dx, dy, e, rx, ry with
  | .int i, .int j, e, rx, ry =>
    cases rep_int rx; cases rep_int ry
    simp only [int2c] at e
    split at e
    · rename_i hh
      cases e
      exact ⟨i, j, rfl, rfl, hc i j hh, k _ H Hf (New.refl s) (h i j Hf)⟩
    · cases e
def subD : D → D → Option D := int2 fun i j => .int (i - j)
theorem rd_sub : RD K (rI0 fun i j => .int (i - j)) subD := rd_int0 fun _ _ _ => by unfold Rep; rfl
def modD : D → D → Option D := int2c (fun _ j => decide (0 < j)) fun i j => .int (i % j)
theorem rd_mod : RD K (rI (fun _ j => 0 < j) fun i j => .int (i % j)) modD := rd_intc (fun _ _ h => of_decide_eq_true h) fun _ _ _ => by unfold Rep; rfl
def fdivD : D → D → Option D := int2c (fun _ j => decide (0 < j) && decide (j < 1073741824)) fun i j => .int (i / j)
theorem rd_fdiv : RD K (rI CDiv fun i j => .int (i / j)) fdivD := rd_intc (fun _ _ h => by
  rw [Bool.and_eq_true] at h
  exact ⟨of_decide_eq_true h.1, of_decide_eq_true h.2⟩) fun _ _ _ => by unfold Rep; rfl
def powD : D → D → Option D := int2c (fun i j => decide (0 ≤ j) && decide (j ≤ 1000000) && decide (i.natAbs < 2 ^ 64)) fun i j => .int (i ^ j.toNat)
theorem rd_pow : RD K (rI CPow fun i j => .int (i ^ j.toNat)) powD := rd_intc (fun _ _ h => by
  rw [Bool.and_eq_true, Bool.and_eq_true] at h
  exact ⟨of_decide_eq_true h.1.1, of_decide_eq_true h.1.2, of_decide_eq_true h.2⟩) fun _ _ _ => by unfold Rep; rfl
def mulOk (i j : Int) : Bool := (decide (-(2 ^ 64) < i) && decide (i < 2 ^ 64)) || (decide (-(2 ^ 64) < j) && decide (j < 2 ^ 64))
theorem mulOk_c {i j : Int} (h : mulOk i j = true) : CMul i j := by
  unfold mulOk at h
  rw [Bool.or_eq_true, Bool.and_eq_true, Bool.and_eq_true] at h
  rcases h with h | h
  · exact .inl ⟨of_decide_eq_true h.1, of_decide_eq_true h.2⟩
  · exact .inr ⟨of_decide_eq_true h.1, of_decide_eq_true h.2⟩
def repL (n : Int) (ds : List D) : List D := (List.replicate n.toNat ds).flatten
/-- a tuple or a list times an int -/
def mulD : D → D → Option D
  | .int i, .int j => if mulOk i j then some (.int (i * j)) else none
  | .tup ds, .int n => if decide (-1000 ≤ n) && decide (n ≤ 1000) && decide (ds.length ≤ 1000) then some (.tup (repL n ds)) else none
  | .lst ds, .int n => if decide (-1000 ≤ n) && decide (n ≤ 1000) && decide (ds.length ≤ 1000) then some (.lst (repL n ds)) else none
  | _, _ => none
theorem reps_rep {ds : List D} {vs : List V} (h : Reps K Hf ds vs) : ∀ n : Nat, Reps K Hf (List.replicate n ds).flatten (List.replicate n vs).flatten
  | 0 => by simp [Reps]
  | n + 1 => by
    rw [List.replicate_succ, List.replicate_succ, List.flatten_cons, List.flatten_cons]
    exact reps_append h (reps_rep h n)
/-- list * int, the list perhaps one that is kept -/
def rRepR : R2 := fun x y H Q => ∃ l k xs, x = .ref l ∧ y = .int k ∧ Rd H l (.lst xs) ∧ -(2 ^ 63) ≤ k ∧ k < 2 ^ 63 ∧ xs.length * k.toNat ≤ 2 ^ 24 ∧ ∀ p, H p = none → Q (.ref p) (upd H p (.lst (List.replicate k.toNat xs).flatten))
theorem fold_flat (l : List Value) : ∀ m : Nat, List.foldl (fun a b => a ++ b) #[] (List.replicate m l.toArray) = (List.replicate m l).flatten.toArray := fun m => by
  have e := foldl_rep l m []
  rw [List.nil_append] at e
  exact e
theorem fold_rep (l : List Value) (m : Nat) : List.foldl (fun a b => a ++ b) #[] (List.replicate (if l.toArray.isEmpty = true then 0 else m) l.toArray) = (List.replicate m l).flatten.toArray := by
  rw [fold_flat]
  cases l with
  | nil => simp
  | cons a r => rw [if_neg (by simp)]
theorem op_repR : OpR X (binaryOp .Mult) rRepR := by
  intro pins s σ H x y v u Q I rx ry ⟨l, k, xs, e1, e2, g1, h1, h2, hz, q⟩
  subst e1 e2
  cases rx
  obtain ⟨t, rfl⟩ := ry
  obtain ⟨z1, l1, n1, r1, g⟩ := g1.ok I.hok
  have hs : l1.toArray.size * k.toNat ≤ 2 ^ 24 := by rw [List.size_toArray, ← r1.length]; exact hz
  refine wpAny_binaryOp_repeat_ref (T := "list") (U := "int") (by decide) ⟨_, g, rfl⟩ (fun s' => PySem.typeIs_int s' k t) noFill_list_mul F.fills_int_mul F.slot_int_rmul repeat_list F.slot_int_index.lookup
    (call_meets F.slot_int_rmul (PySem.typeIs_int s k t) F.entry_int_rmul (F.args_int_rmul_2 _ _) (int___rmul___int_list k t l l1.toArray n1) ⟨g, rfl, ⟨_, g, rfl⟩,
      call_meets F.slot_list_mul ⟨_, g, rfl⟩ F.entry_list_mul (F.args_list_mul_2 _ _) (AutoListH.list___mul___list_int_3 l l1.toArray n1 k t (by simp [Builtin.List.listFitsIndex]; omega) (by omega) (by simp [Builtin.List.listTooLong, sizeLine]; omega)) ⟨g, ?_⟩⟩)
  rw [fold_rep]
  exact ⟨.ref _, _, I.lnew (t' := s.toks) (r1.rep k.toNat) (by rw [PyProof.Rows.lm_len_rep_flat, Nat.mul_comm, sizeLine_eq]; omega), rfl, q _ I.fresh⟩
/-- tuple * int: the same object, the empty one, or a longer one -/
theorem tup_mul_same (l : Addr) (items : Array Value) (n : Nat) (dd : Option Addr) (sl : Array (Option Value)) (x : Int) (u : Tok) (c0 : (decide (x < -(2 ^ 63)) || decide (x ≥ 2 ^ 63)) = false) (c1 : (items.isEmpty || x == 1) = true) :
    Meets (Builtin.«tuple.__mul__» ⟨[.ref l, .int x u], []⟩) (fun _ R s => s.heap.get? l = some { cls := .type "tuple", dict := dd, data := .seq items n, slots := sl } ∧ R (.ok (.ret (.ref l))) s) :=
  .of_wp fun prog w A R s h => by
    obtain ⟨hp, g, d, tk, os⟩ := s
    obtain ⟨hl, h⟩ := h
    have f1 := AutoSeq1.idx_int
    wp_walk using wpAny_loadPart' hl
    repeat (first
      | (refine wpAny_ite_false (decide_eq_false (by rw [c0]; exact Bool.false_ne_true)) ?_; wp_walk using wpAny_loadPart' hl)
      | (refine wpAny_ite_true (decide_eq_true c1) ?_; wp_walk using wpAny_loadPart' hl))
    exact ⟨_, rfl, h⟩
theorem tup_mul_none (l : Addr) (items : Array Value) (n : Nat) (dd : Option Addr) (sl : Array (Option Value)) (x : Int) (u : Tok) (c0 : (decide (x < -(2 ^ 63)) || decide (x ≥ 2 ^ 63)) = false) (c1 : (items.isEmpty || x == 1) = false) (c2 : (decide (x ≤ 0) || items.isEmpty) = true) :
    Meets (Builtin.«tuple.__mul__» ⟨[.ref l, .int x u], []⟩) (fun _ R s => s.heap.get? l = some { cls := .type "tuple", dict := dd, data := .seq items n, slots := sl } ∧ R (.ok (.ret (.ref s.heap.objs.size))) { s with heap := s.heap.push { cls := .type "tuple", data := .seq #[] } }) :=
  .of_wp fun prog w A R s h => by
    obtain ⟨hp, g, d, tk, os⟩ := s
    obtain ⟨hl, h⟩ := h
    have f1 := AutoSeq1.idx_int
    wp_walk using wpAny_loadPart' hl
    repeat (first
      | (refine wpAny_ite_false (decide_eq_false (by rw [c0]; exact Bool.false_ne_true)) ?_; wp_walk using wpAny_loadPart' hl)
      | (refine wpAny_ite_false (decide_eq_false (by rw [c1]; exact Bool.false_ne_true)) ?_; wp_walk using wpAny_loadPart' hl)
      | (refine wpAny_ite_true (decide_eq_true c2) ?_; wp_walk using wpAny_loadPart' hl))
    exact ⟨_, rfl, h⟩
def rRepT1 (K : PySem.W.Frag) : R2 := fun x y H Q => ∃ l k xs, x = .ref l ∧ y = .int k ∧ SqT K H l xs ∧ -1000 ≤ k ∧ k ≤ 1000 ∧ (((xs = [] ∨ k = 1) ∧ Q (.ref l) H) ∨ (xs ≠ [] ∧ k ≤ 0 ∧ ∀ p o, H p = none → o.dict = none → Q (.ref p) (upd H p (.frz o (.tup [])))))
theorem op_repT1 : OpR X (binaryOp .Mult) (rRepT1 X.K) := by
  intro pins s σ H x y v u Q I rx ry ⟨l, k, xs, e1, e2, hT, b1, b2, h⟩
  subst e1 e2
  cases rx
  obtain ⟨t, rfl⟩ := ry
  obtain ⟨its, r, ⟨⟨cls, dd, data, sl⟩, ho, hc, n, hd⟩, hs⟩ := I.tuple hT
  simp only at hc hd
  subst hc hd
  have hle : its.length = xs.length := r.length.symm
  have c0 : (decide (k < -(2 ^ 63)) || decide (k ≥ 2 ^ 63)) = false := by rw [decide_eq_false (by omega), decide_eq_false (by omega)] <;> rfl
  refine wpAny_binaryOp_repeat_ref (T := "tuple") (U := "int") (by decide) ⟨_, ho, rfl⟩ (fun s' => PySem.typeIs_int s' k t) noFill_tuple_mul F.fills_int_mul F.slot_int_rmul repeat_tuple F.slot_int_index.lookup
    (call_meets F.slot_int_rmul (PySem.typeIs_int s k t) F.entry_int_rmul (F.args_int_rmul_2 _ _) (int_rmul_tuple k t l its.toArray n dd sl) ⟨ho, rfl, ⟨_, ho, rfl⟩, ?_⟩)
  rcases h with ⟨h, q⟩ | ⟨h1, h2, q⟩
  · refine call_meets F.slot_tuple_mul ⟨_, ho, rfl⟩ F.entry_tuple_mul (F.args_tuple_mul_2 _ _) (tup_mul_same l its.toArray n dd sl k t c0 ?_) ⟨ho, ⟨.ref l, H, I, rfl, q⟩⟩
    rcases h with h | h
    · subst h
      rw [List.eq_nil_of_length_eq_zero (show its.length = 0 from hle)]; rfl
    · subst h; simp
  · have hn : its.toArray.isEmpty = false := by
      cases its with
      | nil => exact absurd (List.eq_nil_of_length_eq_zero hle.symm) h1
      | cons a b => rfl
    refine call_meets F.slot_tuple_mul ⟨_, ho, rfl⟩ F.entry_tuple_mul (F.args_tuple_mul_2 _ _) (tup_mul_none l its.toArray n dd sl k t c0 ?_ ?_) ⟨ho, ?_⟩
    · rw [hn, Bool.false_or]; exact beq_eq_false_iff_ne.mpr (by omega)
    · rw [decide_eq_true h2]; rfl
    · exact ⟨.ref s.heap.objs.size, _, I.laid (t' := s.toks) (o := .frz _ (.tup [])) (fun b ob q => Heap.get?_push_of_some _ q) (Nat.le_refl _) ⟨Heap.get?_push_size _ rfl, Nat.zero_le _, [], .nil, PyProof.Rows.IsTup.new _ _⟩, rfl, q _ _ (I.hok.fresh (Nat.le_refl _)) rfl⟩
def rMulA (K : PySem.W.Frag) : R2 := fun x y H Q => rI CMul (fun i j => .int (i * j)) x y H Q ∨ rRepX K x y H Q ∨ rRepR x y H Q ∨ rRepT1 K x y H Q
theorem op_mulA : OpR X (binaryOp .Mult) (rMulA X.K) := OpR.or op_mul (OpR.or op_repX (OpR.or op_repR op_repT1))
theorem rd_mul : RD K (rMulA K) mulD := by
  intro Hf H x y dx dy dz s rx ry e Q k
  match dx, dy, e, rx, ry with
  | .int i, .int j, e, rx, ry =>
    cases rep_int rx; cases rep_int ry
    simp only [mulD] at e
    split at e
    · rename_i hh
      cases e
      exact .inl ⟨i, j, rfl, rfl, mulOk_c hh, k _ H Hf (New.refl s) (by unfold Rep; rfl)⟩
    · cases e
  | .tup ds, .int n, e, rx, ry =>
    obtain ⟨p, vs, rfl, g1, g2⟩ := rep_tup rx
    cases rep_int ry
    simp only [mulD] at e
    split at e
    · rename_i hh
      rw [Bool.and_eq_true, Bool.and_eq_true] at hh
      cases e
      have h1 : -1000 ≤ n := of_decide_eq_true hh.1.1
      have h2 : n ≤ 1000 := of_decide_eq_true hh.1.2
      have h3 : vs.length ≤ 1000 := by rw [← reps_len g2]; exact of_decide_eq_true hh.2
      by_cases c1 : vs = [] ∨ n = 1
      · refine .inr (.inr (.inr ⟨p, n, vs, rfl, rfl, Same.sqT s g1, h1, h2, .inl ⟨c1, ?_⟩⟩))
        have e : repL n ds = ds := by
          unfold repL
          rcases c1 with c | c
          · subst c
            rw [List.eq_nil_of_length_eq_zero (show ds.length = 0 by rw [reps_len g2]; rfl)]
            simp
          · subst c
            show (List.replicate 1 ds).flatten = ds
            simp
        rw [e] at k
        exact k _ H Hf (New.refl s) rx
      · rw [not_or] at c1
        by_cases c2 : n ≤ 0
        · refine .inr (.inr (.inr ⟨p, n, vs, rfl, rfl, Same.sqT s g1, h1, h2, .inr ⟨c1.1, c2, fun z oz hz hoz => ?_⟩⟩))
          have e : repL n ds = [] := by
            unfold repL
            rw [show n.toNat = 0 by omega]
            rfl
          rw [e] at k
          obtain ⟨n', r⟩ := lay_tup (ds := []) (vs := []) s hz hoz (by unfold Reps; rfl)
          exact k _ _ _ n' r
        · refine .inr (.inl ⟨p, n, vs, rfl, rfl, Same.sqT s g1, c1.1, by omega, h2, h3, fun z oz hz hoz => ?_⟩)
          obtain ⟨n', r⟩ := lay_tup s hz hoz (reps_rep g2 n.toNat)
          exact k _ _ _ n' r
    · cases e
  | .lst ds, .int n, e, rx, ry =>
    obtain ⟨p, vs, rfl, g1, g2⟩ := rep_lst rx
    cases rep_int ry
    simp only [mulD] at e
    split at e
    · rename_i hh
      rw [Bool.and_eq_true, Bool.and_eq_true] at hh
      cases e
      have h1 : -1000 ≤ n := of_decide_eq_true hh.1.1
      have h2 : n ≤ 1000 := of_decide_eq_true hh.1.2
      have h3 : vs.length ≤ 1000 := by rw [← reps_len g2]; exact of_decide_eq_true hh.2
      refine .inr (.inr (.inl ⟨p, n, vs, rfl, rfl, Same.rd s g1, by omega, by omega, Nat.le_trans (m := 1000000) ?_ (by decide), fun z hz => ?_⟩))
      · have : n.toNat ≤ 1000 := by omega
        calc vs.length * n.toNat ≤ 1000 * 1000 := Nat.mul_le_mul h3 this
          _ = 1000000 := rfl
      · obtain ⟨n', r⟩ := lay_lst s hz (reps_rep g2 n.toNat)
        exact k _ _ _ n' r
    · cases e
def ltD : D → D → Option D := int2 fun i j => .bl (decide (i < j))
def leD : D → D → Option D := int2 fun i j => .bl (decide (i ≤ j))
def gtD : D → D → Option D := int2 fun i j => .bl (decide (j < i))
def geD : D → D → Option D := int2 fun i j => .bl (decide (j ≤ i))
theorem rd_lt : RD K (rI0 fun i j => .bl (decide (i < j))) ltD := rd_int0 fun _ _ _ => by unfold Rep; rfl
theorem rd_le : RD K (rI0 fun i j => .bl (decide (i ≤ j))) leD := rd_int0 fun _ _ _ => by unfold Rep; rfl
theorem rd_gt : RD K (rI0 fun i j => .bl (decide (j < i))) gtD := rd_int0 fun _ _ _ => by unfold Rep; rfl
theorem rd_ge : RD K (rI0 fun i j => .bl (decide (j ≤ i))) geD := rd_int0 fun _ _ _ => by unfold Rep; rfl
def negD : D → Option D
  | .int i => some (.int (-i))
  | _ => none
theorem rd_neg : RDU K (rU fun i => .int (-i)) negD := by
  intro Hf H x dx dz s rx e Q k
  match dx, e, rx with
  | .int i, e, rx =>
    cases rep_int rx
    cases e
    exact ⟨i, rfl, k _ H Hf (New.refl s) (by unfold Rep; rfl)⟩

/-! ### == -/
mutual
def toP : D → Option PyData
  | .non => some .none
  | .bl b => some (.bool b)
  | .int i => some (.int i)
  | .str s => some (.str s)
  | .tup ds => (toPs ds).map .tuple
  | .lst ds => (toPs ds).map .list
  | _ => none
def toPs : List D → Option (List PyData)
  | [] => some []
  | d :: ds => match toP d, toPs ds with
    | some p, some ps => some (p :: ps)
    | _, _ => none
end
mutual
theorem dp_of (s : Same Hf H) : ∀ {d : D} {p : PyData} {v : V}, toP d = some p → Rep K Hf d v → Dp K H v p
  | .non, p, v, e, r => by
    unfold toP at e; unfold Rep at r
    cases e; subst r; exact Dp.non
  | .bl b, p, v, e, r => by
    unfold toP at e; unfold Rep at r
    cases e; subst r; exact Dp.bl b
  | .int b, p, v, e, r => by
    unfold toP at e; unfold Rep at r
    cases e; subst r; exact Dp.int b
  | .str b, p, v, e, r => by
    unfold toP at e; unfold Rep at r
    cases e; subst r; exact Dp.str b
  | .tup ds, p, v, e, r => by
    unfold toP at e; unfold Rep at r
    obtain ⟨a, vs, rfl, g1, g2⟩ := r
    cases e1 : toPs ds with
    | none => rw [e1] at e; cases e
    | some ps =>
      rw [e1] at e; cases e
      exact Dp.tup (Same.sqT s g1.sqT) (dps_of s e1 g2)
  | .lst ds, p, v, e, r => by
    unfold toP at e; unfold Rep at r
    obtain ⟨a, vs, rfl, g1, g2⟩ := r
    cases e1 : toPs ds with
    | none => rw [e1] at e; cases e
    | some ps =>
      rw [e1] at e; cases e
      exact Dp.lst (rdSeq s (.inl g1)) (dps_of s e1 g2)
  | .ref _, _, _, e, _ => by unfold toP at e; cases e
  | .ty _, _, _, e, _ => by unfold toP at e; cases e
  | .dct _, _, _, e, _ => by unfold toP at e; cases e
  | .dcn _, _, _, e, _ => by unfold toP at e; cases e
  | .ins _ _, _, _, e, _ => by unfold toP at e; cases e
theorem dps_of (s : Same Hf H) : ∀ {ds : List D} {ps : List PyData} {vs : List V}, toPs ds = some ps → Reps K Hf ds vs → DpAll K H vs ps
  | [], _, _, e, r => by
    unfold toPs at e; unfold Reps at r
    cases e; subst r; exact DpAll.nil
  | d :: ds, _, _, e, r => by
    unfold toPs at e; unfold Reps at r
    obtain ⟨v, r', rfl, g1, g2⟩ := r
    cases e1 : toP d with
    | none => rw [e1] at e; cases e
    | some p =>
      cases e2 : toPs ds with
      | none => rw [e1, e2] at e; cases e
      | some ps =>
        rw [e1, e2] at e; cases e
        exact DpAll.cons (dp_of s e1 g1) (dps_of s e2 g2)
end
/-- == of data (none where the model is not asked) -/
def eqvD (a b : D) : Option Bool := match toP a, toP b with
  | some p, some q => if SeqAt.shaped p && SeqAt.shaped q then some (PyData.eqv p q) else none
  | _, _ => none
def eqD (a b : D) : Option D := (eqvD a b).map .bl
def neD (a b : D) : Option D := (eqvD a b).map fun k => .bl (!k)
theorem eqvD_inv {a b : D} {k : Bool} (h : eqvD a b = some k) : ∃ p q, toP a = some p ∧ toP b = some q ∧ SeqAt.shaped p = true ∧ SeqAt.shaped q = true ∧ k = PyData.eqv p q := by
  unfold eqvD at h
  cases e1 : toP a with
  | none => rw [e1] at h; cases h
  | some p =>
    cases e2 : toP b with
    | none => rw [e1, e2] at h; cases h
    | some q =>
      rw [e1, e2] at h
      simp only at h
      split at h
      · rename_i hh
        rw [Bool.and_eq_true] at hh
        cases h
        exact ⟨p, q, rfl, rfl, hh.1, hh.2, rfl⟩
      · cases h
theorem rd_eq : RD K (rEqD K) eqD := by
  intro Hf H x y dx dy dz s rx ry e Q k
  unfold eqD at e
  cases h : eqvD dx dy with
  | none => rw [h] at e; cases e
  | some b =>
    rw [h] at e; cases e
    obtain ⟨p, q, e1, e2, s1, s2, rfl⟩ := eqvD_inv h
    exact ⟨p, q, dp_of s e1 rx, dp_of s e2 ry, s1, s2, k _ H Hf (New.refl s) (by unfold Rep; rfl)⟩
theorem rd_ne : RD K (rNeD K) neD := by
  intro Hf H x y dx dy dz s rx ry e Q k
  unfold neD at e
  cases h : eqvD dx dy with
  | none => rw [h] at e; cases e
  | some b =>
    rw [h] at e; cases e
    obtain ⟨p, q, e1, e2, s1, s2, rfl⟩ := eqvD_inv h
    exact ⟨p, q, dp_of s e1 rx, dp_of s e2 ry, s1, s2, k _ H Hf (New.refl s) (by unfold Rep; rfl)⟩
/-! ### in -/
/-- flat data -/
def flatD : D → Bool
  | .non => true
  | .bl _ => true
  | .int _ => true
  | .str _ => true
  | _ => false
def eqF : D → D → Bool
  | .non, .non => true
  | .bl a, .bl b => a == b
  | .bl a, .int b => (if a then 1 else 0) == b
  | .int a, .bl b => a == (if b then 1 else 0)
  | .int a, .int b => a == b
  | .str a, .str b => a == b
  | _, _ => false
def memF (x : D) (ds : List D) : Bool := ds.any fun y => eqF y x
def seqOf : D → Option (List D)
  | .tup ds => some ds
  | .lst ds => some ds
  | _ => none
def inD (x y : D) : Option D := match seqOf y with
  | some ds => if flatD x && ds.all flatD then some (.bl (memF x ds)) else none
  | none => none
def notInD (x y : D) : Option D := match seqOf y with
  | some ds => if flatD x && ds.all flatD then some (.bl (!memF x ds)) else none
  | none => none
theorem flat_rep {d : D} {v : V} (h : flatD d = true) (r : Rep K Hf d v) : flatV v = true := by
  cases d <;> simp [flatD] at h <;> unfold Rep at r <;> subst r <;> rfl
theorem eqF_rep {d e : D} {v u : V} (h : flatD d = true) (h2 : flatD e = true) (r : Rep K Hf d v) (r2 : Rep K Hf e u) : eqV v u = eqF d e := by
  cases d <;> simp [flatD] at h <;> cases e <;> simp [flatD] at h2 <;> unfold Rep at r r2 <;> subst r <;> subst r2 <;> rfl
theorem flats_rep : ∀ {ds : List D} {vs : List V}, ds.all flatD = true → Reps K Hf ds vs → vs.all flatV = true
  | [], _, _, r => by unfold Reps at r; subst r; rfl
  | d :: ds, _, h, r => by
    unfold Reps at r
    obtain ⟨v, r', rfl, g1, g2⟩ := r
    rw [List.all_cons, Bool.and_eq_true] at h
    rw [List.all_cons, flat_rep h.1 g1, flats_rep h.2 g2]; rfl
theorem mem_rep {x : D} {u : V} (hx : flatD x = true) (rx : Rep K Hf x u) : ∀ {ds : List D} {vs : List V}, ds.all flatD = true → Reps K Hf ds vs → inV u vs = memF x ds
  | [], _, _, r => by unfold Reps at r; subst r; rfl
  | d :: ds, _, h, r => by
    unfold Reps at r
    obtain ⟨v, r', rfl, g1, g2⟩ := r
    rw [List.all_cons, Bool.and_eq_true] at h
    have ih := mem_rep hx rx h.2 g2
    unfold inV memF at ih ⊢
    rw [List.any_cons, List.any_cons, eqF_rep h.1 hx g1 rx, ih]
theorem seq_rep {y : D} {ds : List D} {v : V} (s : Same Hf H) (h : seqOf y = some ds) (r : Rep K Hf y v) : ∃ p vs, v = .ref p ∧ (SqL K H p vs ∨ SqT K H p vs) ∧ Reps K Hf ds vs := by
  cases y <;> simp [seqOf] at h <;> subst h
  · obtain ⟨a, vs, rfl, g1, g2⟩ := rep_tup r
    exact ⟨a, vs, rfl, .inr (Same.sqT s g1), g2⟩
  · obtain ⟨a, vs, rfl, g1, g2⟩ := rep_lst r
    exact ⟨a, vs, rfl, .inl (rdSeq s g1), g2⟩
theorem rd_in : RD K (rIn K false) inD := by
  intro Hf H x y dx dy dz s rx ry e Q k
  unfold inD at e
  cases h : seqOf dy with
  | none => rw [h] at e; cases e
  | some ds =>
    rw [h] at e
    simp only at e
    split at e
    · rename_i hh
      rw [Bool.and_eq_true] at hh
      cases e
      obtain ⟨p, vs, rfl, g1, g2⟩ := seq_rep s h ry
      refine ⟨p, vs, rfl, g1, flat_rep hh.1 rx, flats_rep hh.2 g2, ?_⟩
      rw [if_neg (by decide), mem_rep hh.1 rx hh.2 g2]
      exact k _ H Hf (New.refl s) (by unfold Rep; rfl)
    · cases e
theorem rd_notIn : RD K (rIn K true) notInD := by
  intro Hf H x y dx dy dz s rx ry e Q k
  unfold notInD at e
  cases h : seqOf dy with
  | none => rw [h] at e; cases e
  | some ds =>
    rw [h] at e
    simp only at e
    split at e
    · rename_i hh
      rw [Bool.and_eq_true] at hh
      cases e
      obtain ⟨p, vs, rfl, g1, g2⟩ := seq_rep s h ry
      refine ⟨p, vs, rfl, g1, flat_rep hh.1 rx, flats_rep hh.2 g2, ?_⟩
      rw [if_pos rfl, mem_rep hh.1 rx hh.2 g2]
      exact k _ H Hf (New.refl s) (by unfold Rep; rfl)
    · cases e
/-! ### is None; is of truth values -/
def isNon : D → Bool
  | .non => true
  | _ => false
theorem isNon_rep {d : D} {v : V} (r : Rep K Hf d v) : decide (v = V.non) = isNon d := by
  cases d <;> unfold Rep at r <;> simp [isNon] <;> first | exact r | (obtain ⟨a, rfl, _⟩ := r; simp; done) | (subst r; simp) | (obtain ⟨a, vs, rfl, _⟩ := r; simp) | (obtain ⟨a, dx, vs, rfl, _⟩ := r; simp)
def isD : D → D → Option D
  | x, .non => some (.bl (isNon x))
  | .bl a, .bl b => some (.bl (decide (a = b)))
  | _, _ => none
def isNotD : D → D → Option D
  | x, .non => some (.bl (!isNon x))
  | .bl a, .bl b => some (.bl (!decide (a = b)))
  | _, _ => none
def rIsA : R2 := fun x y H Q => (y = .non ∧ Q (.bl (decide (x = .non))) H) ∨ rIsB x y H Q
def rIsNotA : R2 := fun x y H Q => (y = .non ∧ Q (.bl (!decide (x = .non))) H) ∨ rNotB x y H Q
theorem op_isA : OpR X (compareOp .Is) rIsA := OpR.or op_isN op_isBl
theorem op_isNotA : OpR X (compareOp .IsNot) rIsNotA := OpR.or op_notN op_notBl
theorem rd_is : RD K rIsA isD := by
  intro Hf H x y dx dy dz s rx ry e Q k
  match dx, dy, e, rx, ry with
  | d, .non, e, rx, ry =>
    unfold Rep at ry
    simp only [isD] at e
    cases e
    refine .inl ⟨ry, ?_⟩
    rw [isNon_rep rx]
    exact k _ H Hf (New.refl s) (by unfold Rep; rfl)
  | .bl a, .bl b, e, rx, ry =>
    unfold Rep at rx ry
    simp only [isD] at e
    cases e
    exact .inr ⟨a, b, rx, ry, k _ H Hf (New.refl s) (by unfold Rep; rfl)⟩
theorem rd_isNot : RD K rIsNotA isNotD := by
  intro Hf H x y dx dy dz s rx ry e Q k
  match dx, dy, e, rx, ry with
  | d, .non, e, rx, ry =>
    unfold Rep at ry
    simp only [isNotD] at e
    cases e
    refine .inl ⟨ry, ?_⟩
    rw [isNon_rep rx]
    exact k _ H Hf (New.refl s) (by unfold Rep; rfl)
  | .bl a, .bl b, e, rx, ry =>
    unfold Rep at rx ry
    simp only [isNotD] at e
    cases e
    exact .inr ⟨a, b, rx, ry, k _ H Hf (New.refl s) (by unfold Rep; rfl)⟩
end
end DL

/-! The D layer, 8: items, slices, displays, calls of built-ins, what is walked. -/
namespace DL
open PySem L2

section
variable {K : PySem.W.Frag} {mg : Str → Option Value} {W : XK} {Hf H Hf' H' Hf1 H1 : Hp} {σ : L2.St} {ρ : Ro}
/-! ### items -/
/-- the value at a key; a key's place -/
def valD (kvs : List (D × D)) (k : Key) : Option D := (kvs.find? fun p => decide (keyD p.1 = some k)).map (·.2)
def putD (kvs : List (D × D)) (kd : D) (k : Key) (d : D) : List (D × D) :=
  if (kvs.any fun p => decide (keyD p.1 = some k)) = true then kvs.map (fun p => if keyD p.1 = some k then (p.1, d) else p) else kvs ++ [(kd, d)]
theorem keyD_rep {d : D} {k : Key} {v : V} (h : keyD d = some k) (r : Rep K Hf d v) : v = kV k := by
  cases d <;> simp [keyD] at h <;> subst h <;> unfold Rep at r <;> exact r
theorem repk_val {k : Key} : ∀ {kvs : List (D × D)} {vs : List (Key × V)}, Repk K Hf kvs vs → (∀ d, valD kvs k = some d → ∃ v, valV vs k = some v ∧ Rep K Hf d v) ∧ (valD kvs k = none → valV vs k = none)
  | [], vs, r => by
    unfold Repk at r
    subst r
    exact ⟨fun d h => by simp [valD] at h, fun _ => rfl⟩
  | (kd, d) :: kvs, vs, r => by
    unfold Repk at r
    obtain ⟨k', v, r', rfl, h1, h2, h3⟩ := r
    obtain ⟨i1, i2⟩ := repk_val (k := k) h3
    by_cases e : k' = k
    · subst e
      rw [valV_pos (p := (k', v)) rfl]
      have : valD ((kd, d) :: kvs) k' = some d := by unfold valD; rw [List.find?_cons_of_pos (by simp [h1])]; rfl
      rw [this]
      exact ⟨fun x h => by cases h; exact ⟨v, rfl, h2⟩, fun h => by cases h⟩
    · rw [valV_neg (p := (k', v)) e]
      have : valD ((kd, d) :: kvs) k = valD kvs k := by unfold valD; rw [List.find?_cons_of_neg (by simp [h1, e])]
      rw [this]
      exact ⟨i1, i2⟩
theorem repk_any {k : Key} : ∀ {kvs : List (D × D)} {vs : List (Key × V)}, Repk K Hf kvs vs → (kvs.any fun p => decide (keyD p.1 = some k)) = vs.any fun kv => decide (kv.1 = k)
  | [], vs, r => by unfold Repk at r; subst r; rfl
  | (kd, d) :: kvs, vs, r => by
    unfold Repk at r
    obtain ⟨k', v, r', rfl, h1, h2, h3⟩ := r
    rw [List.any_cons, List.any_cons, repk_any h3, h1]
    simp
theorem repk_repl {k : Key} {d : D} {v : V} (hd : Rep K Hf d v) : ∀ {kvs : List (D × D)} {vs : List (Key × V)}, Repk K Hf kvs vs → Repk K Hf (kvs.map fun p => if keyD p.1 = some k then (p.1, d) else p) (vs.map fun kv => if kv.1 = k then (kv.1, v) else kv)
  | [], vs, r => by unfold Repk at r; subst r; simp [Repk]
  | (kd, e) :: kvs, vs, r => by
    unfold Repk at r
    obtain ⟨k', u, r', rfl, h1, h2, h3⟩ := r
    rw [List.map_cons, List.map_cons]
    by_cases q : k' = k
    · subst q
      simp only [h1, if_true]
      unfold Repk
      exact ⟨k', v, _, rfl, h1, hd, repk_repl hd h3⟩
    · simp only [h1, if_neg q, if_neg (fun h : some k' = some k => q (Option.some.inj h))]
      unfold Repk
      exact ⟨k', u, _, rfl, h1, h2, repk_repl hd h3⟩
theorem repk_snoc {kd d : D} {k : Key} {v : V} (hk : keyD kd = some k) (hd : Rep K Hf d v) : ∀ {kvs : List (D × D)} {vs : List (Key × V)}, Repk K Hf kvs vs → Repk K Hf (kvs ++ [(kd, d)]) (vs ++ [(k, v)])
  | [], vs, r => by
    unfold Repk at r; subst r
    show Repk K Hf [(kd, d)] [(k, v)]
    unfold Repk
    exact ⟨k, v, [], rfl, hk, hd, by unfold Repk; rfl⟩
  | (ke, e) :: kvs, vs, r => by
    unfold Repk at r
    obtain ⟨k', u, r', rfl, h1, h2, h3⟩ := r
    show Repk K Hf ((ke, e) :: (kvs ++ [(kd, d)])) ((k', u) :: (r' ++ [(k, v)]))
    unfold Repk
    exact ⟨k', u, _, rfl, h1, h2, repk_snoc hk hd h3⟩
theorem repk_put {kd d : D} {k : Key} {v : V} {kvs : List (D × D)} {vs : List (Key × V)} (hk : keyD kd = some k) (hd : Rep K Hf d v) (r : Repk K Hf kvs vs) : Repk K Hf (putD kvs kd k d) (putK vs k v) := by
  unfold putD putK
  rw [repk_any r]
  split
  · exact repk_repl hd r
  · exact repk_snoc hk hd r
theorem repk_len : ∀ {kvs : List (D × D)} {vs : List (Key × V)}, Repk K Hf kvs vs → kvs.length = vs.length
  | [], vs, r => by unfold Repk at r; subst r; rfl
  | (ke, e) :: kvs, vs, r => by
    unfold Repk at r
    obtain ⟨k', u, r', rfl, h1, h2, h3⟩ := r
    rw [List.length_cons, List.length_cons, repk_len h3]
theorem rep_dct {kvs : List (D × D)} {v : V} (r : Rep K Hf (.dct kvs) v) : ∃ a o vs, v = .ref a ∧ Hf a = some (.frz o (.dK vs)) ∧ Repk K Hf kvs vs := by unfold Rep at r; exact r
def ixD : D → D → Option D
  | .dct kvs, kd => (keyD kd).bind (valD kvs)
  | .tup ds, .int i => atI ds i
  | .lst ds, .int i => atI ds i
  | .str z, .int i => if z.length ≤ 1000000 then (atI z.cps.toList i).map fun c => .str ⟨#[c]⟩ else none
  | _, _ => none
theorem reps_atI {ds : List D} {vs : List V} {i : Int} {d : D} (r : Reps K Hf ds vs) (h : atI ds i = some d) : ∃ v, atI vs i = some v ∧ Rep K Hf d v := by
  unfold atI at h ⊢
  rw [← reps_len r]
  cases e : ixN ds.length i with
  | none => rw [e] at h; cases h
  | some j =>
    rw [e] at h
    exact reps_get r h
def rIxD : R2 := fun x y H Q => ∃ a v, x = .ref a ∧ DGet H a y (some v) ∧ Q v H
theorem ix_dct {X : Cx} (hu : X.A.units + 64 < cLine) : IxR X rIxD := by
  intro value slice pins s σ H x y v u Q I rx ry ⟨a, w, e, g, q⟩ hs
  subst e
  cases rx
  exact PyProof.Rows.tail_any (dict_typeIs I g) PySem.F.slot_dict_getitem.lookup (d_getItem (by omega) I g ry fun w' s' I' rw => ⟨w, H, I', rw, q⟩) hs
def rIxA (K : PySem.W.Frag) : R2 := fun x y H Q => rIx K x y H Q ∨ rIxD x y H Q
theorem ix_all {X : Cx} (hu : X.A.units + 64 < cLine) : IxR X (rIxA X.K) := ix_seq.or (ix_dct hu)
theorem rd_ix : RD K (rIxA K) ixD := by
  intro Hf H x y dx dy dz s rx ry e Q k
  match dx, dy, e, rx, ry with
  | .dct kvs, kd, e, rx, ry =>
    obtain ⟨a, o, vs, rfl, g1, g2⟩ := rep_dct rx
    simp only [ixD] at e
    cases h : keyD kd with
    | none => rw [h] at e; cases e
    | some key =>
      rw [h] at e
      obtain ⟨w, h1, h2⟩ := (repk_val g2).1 dz e
      exact .inr ⟨a, w, rfl, .inl ⟨vs, key, .inr ⟨o, s _ _ g1⟩, keyD_rep h ry, h1.symm⟩, k _ H Hf (New.refl s) h2⟩
  | .tup ds, .int i, e, rx, ry =>
    obtain ⟨a, vs, rfl, g1, g2⟩ := rep_tup rx
    cases rep_int ry
    obtain ⟨v, h1, h2⟩ := reps_atI g2 e
    exact .inl (.inr (.inl ⟨a, vs, i, v, rfl, rfl, Same.sqT s g1, h1, k _ H Hf (New.refl s) h2⟩))
  | .lst ds, .int i, e, rx, ry =>
    obtain ⟨a, vs, rfl, g1, g2⟩ := rep_lst rx
    cases rep_int ry
    obtain ⟨v, h1, h2⟩ := reps_atI g2 e
    exact .inl (.inl ⟨a, vs, i, v, rfl, rfl, rdSeq s g1, h1, k _ H Hf (New.refl s) h2⟩)
  | .str z, .int i, e, rx, ry =>
    cases rep_str rx
    cases rep_int ry
    simp only [ixD] at e
    split at e
    · rename_i hl
      cases h : atI z.cps.toList i with
      | none => rw [h] at e; cases e
      | some c =>
        rw [h] at e; cases e
        exact .inl (.inr (.inr ⟨z, i, c, rfl, rfl, fits_line hl, h, k _ H Hf (New.refl s) (by unfold Rep; rfl)⟩))
    · cases e
/-! ### slices -/
def cutD (ds : List D) (lo hi : Option Int) : List D := (ds.drop (HT.sIx ds.length 0 lo)).take (HT.sIx ds.length ds.length hi - HT.sIx ds.length 0 lo)
theorem reps_cut {ds : List D} {vs : List V} (r : Reps K Hf ds vs) (lo hi : Option Int) : Reps K Hf (cutD ds lo hi) (cutV vs lo hi) := by
  unfold cutD cutV
  rw [reps_len r]
  exact reps_take _ (reps_drop _ r)
def slD (x : D) (lo hi : Option Int) : Option D := match x with
  | .tup ds => some (.tup (cutD ds lo hi))
  | .lst ds => some (.lst (cutD ds lo hi))
  | .scr ns => some (.lst (cutD (ns.map .int) lo hi))
  | _ => none
def rSlX (K : PySem.W.Frag) : V → Option Int → Option Int → Hp → VK → Prop := fun x lo hi H Q => rSlTX K x lo hi H Q ∨ rSlL K x lo hi H Q
theorem sl_X {X : Cx} : SlR X (rSlX X.K) := SlR.or sl_tupX sl_list
theorem cut_whole {α : Type} {ds : List α} {lo hi : Option Int} (h : HT.sIx ds.length 0 lo = 0 ∧ HT.sIx ds.length ds.length hi = ds.length) : (ds.drop (HT.sIx ds.length 0 lo)).take (HT.sIx ds.length ds.length hi - HT.sIx ds.length 0 lo) = ds := by
  rw [h.1, h.2]; simp
theorem ints_reps : ∀ ns : List Int, Reps K Hf (ns.map D.int) (ns.map V.int)
  | [] => by simp [Reps]
  | n :: ns => reps_cons (by unfold Rep; rfl) (ints_reps ns)
theorem sl_rep {x : D} {v : V} {lo hi : Option Int} {dz : D} (s : Same Hf H) (r : Rep K Hf x v) (e : slD x lo hi = some dz) {Q : VK} (k : ∀ z H' Hf', New Hf H Hf' H' → Rep K Hf' dz z → Q z H') : rSlX K v lo hi H Q := by
  match x, e, r with
  | .tup ds, e, r =>
    obtain ⟨a, vs, rfl, g1, g2⟩ := rep_tup r
    cases e
    refine .inl ⟨a, vs, rfl, Same.sqT s g1, fun h => ?_, fun _ z oz hz hoz => ?_⟩
    · rw [← reps_len g2] at h
      have := cut_whole h
      unfold cutD at k
      rw [this] at k
      exact k _ H Hf (New.refl s) r
    · obtain ⟨n, r⟩ := lay_tup s hz hoz (reps_cut g2 lo hi)
      exact k _ _ _ n r
  | .lst ds, e, r =>
    obtain ⟨a, vs, rfl, g1, g2⟩ := rep_lst r
    cases e
    refine .inr ⟨a, vs, rfl, rdSeq s g1, fun z hz => ?_⟩
    obtain ⟨n, r⟩ := lay_lst s hz (reps_cut g2 lo hi)
    exact k _ _ _ n r
  | .scr ns, e, r =>
    unfold Rep at r
    obtain ⟨a, rfl, g1⟩ := r
    cases e
    refine .inr ⟨a, _, rfl, Same.seq s g1, fun z hz => ?_⟩
    obtain ⟨n, r⟩ := lay_lst s hz (reps_cut (ints_reps ns) lo hi)
    exact k _ _ _ n r
/-- a bound of a slice -/
def TOD (K : PySem.W.Frag) (mg : Str → Option Value) (W : XK) (t : TO) (f : EM (Option Int)) : Prop :=
  ∀ Hf σ ρ H, SR K Hf σ ρ H → ∀ Q : Option Int → Hp → Prop, Wp K mg W (f ρ) (fun o ρ' => ∀ Hf' H', Stp Hf σ ρ H Hf' σ ρ' H' → SR K Hf' σ ρ' H' → Q o H') → t σ H Q
def toI : D → Option (Option Int)
  | .int i => some (some i)
  | _ => none
def partE (fe : EM D) : EM (Option Int) := bindM fe fun d => liftO (toI d)
theorem TOD.none : TOD K mg W tNoPart (retE Option.none) := fun Hf σ ρ H S Q h => h Hf H Stp.refl S
theorem TOD.some {te : TE} {fe : EM D} (he : TD K mg W te fe) : TOD K mg W (tPart te) (partE fe) := by
  intro Hf σ ρ H S Q h
  refine he Hf σ ρ H S _ ((Wp.bind h).mono fun d ρ1 h1 v Hf1 H1 s1 S1 r1 => ?_)
  match d, h1, r1 with
  | .int i, h1, r1 =>
    cases rep_int r1
    exact ⟨i, rfl, h1 Hf1 H1 s1 S1⟩
def slE (fe : EM D) (fl fh : EM (Option Int)) : EM D := bindM fe fun x => bindM fl fun lo => bindM fh fun hi => liftO (slD x lo hi)
theorem Wp.lift {α : Type} {o : Option α} {k : α → Ro → Prop} (h : Wp K mg W (liftO o ρ) k) : ∃ a, o = Option.some a ∧ k a ρ := by
  unfold liftO at h
  cases o with
  | none => exact h.elim
  | some a => exact ⟨a, rfl, h⟩
theorem TD.sl {te : TE} {tl th : TO} {fe : EM D} {fl fh : EM (Option Int)} (he : TD K mg W te fe) (hl : TOD K mg W tl fl) (hh : TOD K mg W th fh) : TD K mg W (tSl (rSlX K) te tl th) (slE fe fl fh) := by
  intro Hf σ ρ H S Q h
  refine he Hf σ ρ H S _ ((Wp.bind h).mono fun d ρ1 h1 v Hf1 H1 s1 S1 r1 => ?_)
  refine hl Hf1 σ ρ1 H1 S1 _ ((Wp.bind h1).mono fun lo ρ2 h2 Hf2 H2 s2 S2 => ?_)
  refine hh Hf2 σ ρ2 H2 S2 _ ((Wp.bind h2).mono fun hi ρ3 h3 Hf3 H3 s3 S3 => ?_)
  obtain ⟨dz, e, h4⟩ := Wp.lift h3
  exact sl_rep S3.sub (Rep.mono (Same.trans s2.fz s3.fz) r1) e fun z H4 Hf4 n rz => h4 z Hf4 H4 (((s1.trans s2).trans s3).trans n.stp) (n.sr S3) rz
/-- x[::-1] of a list -/
def revD : D → Option D
  | .lst ds => some (.lst ds.reverse)
  | _ => none
theorem reps_rev : ∀ {ds : List D} {vs : List V}, Reps K Hf ds vs → Reps K Hf ds.reverse vs.reverse
  | [], _, h => by unfold Reps at h; subst h; simp [Reps]
  | d :: ds, _, h => by
    unfold Reps at h
    obtain ⟨v, r, rfl, h1, h2⟩ := h
    rw [List.reverse_cons, List.reverse_cons]
    exact reps_snoc (reps_rev h2) h1
theorem TD.revL {te : TE} {fe : EM D} (he : TD K mg W te fe) : TD K mg W (tRevL K te) (un1 revD fe) := by
  intro Hf σ ρ H S Q h
  refine he Hf σ ρ H S _ ((Wp.bind h).mono fun d ρ1 h1 v Hf1 H1 s1 S1 r1 => ?_)
  obtain ⟨dz, e, h2⟩ := Wp.lift h1
  match d, e, r1 with
  | .lst ds, e, r1 =>
    obtain ⟨a, vs, rfl, g1, g2⟩ := rep_lst r1
    cases e
    refine ⟨a, vs, rfl, rdSeq S1.sub g1, fun p hp => ?_⟩
    obtain ⟨n, r⟩ := lay_lst S1.sub hp (reps_rev g2)
    exact h2 _ _ _ (s1.trans n.stp) (n.sr S1) r

/-! ### displays -/
def tupE (fa : EM (List D)) : EM D := bindM fa fun ds => if ds.length ≤ 1000000 then retE (.tup ds) else fun _ => .bad
theorem Wp.small {α β : Type} {ds : List D} {a : α} {k : α → Ro → Prop} (h : Wp K mg W ((if ds.length ≤ 1000000 then retE a else fun _ => .bad : EM α) ρ) k) : ds.length ≤ 1000000 ∧ k a ρ := by
  by_cases hl : ds.length ≤ 1000000
  · rw [if_pos hl] at h; exact ⟨hl, h⟩
  · rw [if_neg hl] at h; exact h.elim
theorem TD.tup {ta : TA} {fa : EM (List D)} (ha : TAD K mg W ta fa) : TD K mg W (tTupX ta) (tupE fa) := by
  intro Hf σ ρ H S Q h
  refine ha Hf σ ρ H S _ ((Wp.bind h).mono fun ds ρ1 h1 vs Hf1 H1 s1 S1 r1 => ?_)
  obtain ⟨hl, h2⟩ := Wp.small (β := Unit) h1
  refine ⟨by rw [← reps_len r1]; exact fits_line hl, fun p o hp ho => ?_⟩
  obtain ⟨n, r⟩ := lay_tup S1.sub hp ho r1
  exact h2 _ _ _ (s1.trans n.stp) (n.sr S1) r
def lstE (fa : EM (List D)) : EM D := bindM fa fun ds => if ds.length ≤ 1000000 then retE (.lst ds) else fun _ => .bad
theorem fresh_no {p : Addr} (S : SR K Hf σ ρ H) (hp : H p = none) : ¬ OA σ ρ p := fun q => (S.oa q).2 hp
theorem TF.lst {ta : TA} {fa : EM (List D)} (ha : TAD K mg W ta fa) : TF K mg W (tLst ta) (lstE fa) := by
  intro Hf σ ρ H S Q h
  refine ha Hf σ ρ H S _ ((Wp.bind h).mono fun ds ρ1 h1 vs Hf1 H1 s1 S1 r1 => ?_)
  obtain ⟨hl, h2⟩ := Wp.small (β := Unit) h1
  refine ⟨by rw [← reps_len r1]; exact fits_line hl, fun p hp => ?_⟩
  have n : New Hf1 H1 Hf1 (upd H1 p (.lst vs)) := New.fresh S1.sub hp
  refine h2 p Hf1 _ (s1.trans n.stp) (n.sr S1) ?_ (none_sub S1.sub hp) ⟨vs, upd_same, r1⟩ (fresh_no S1 hp)
  cases e : H p with
  | none => rfl
  | some o => exact absurd hp (s1.there p (by rw [e]; simp))
/-! ### calls with data -/
def callB (g : List D → Option D) (fa : EM (List D)) : EM D := bindM fa fun ds => liftO (g ds)
theorem TD.callB {r : List V → Hp → VK → Prop} {g : List D → Option D} {ta : TA} {fa : EM (List D)} (hr : RDC K r g) (ha : TAD K mg W ta fa) : TD K mg W (tCB r ta) (DL.callB g fa) := by
  intro Hf σ ρ H S Q h
  refine ha Hf σ ρ H S _ ((Wp.bind h).mono fun ds ρ1 h1 vs Hf1 H1 s1 S1 r1 => ?_)
  obtain ⟨dz, e, h2⟩ := Wp.lift h1
  exact hr Hf1 H1 vs ds dz S1.sub r1 e Q fun z H3 Hf3 n rz => h2 z Hf3 H3 (s1.trans n.stp) (n.sr S1) rz
theorem TF.callB {r : List V → Hp → VK → Prop} {g : List D → Option D} {ta : TA} {fa : EM (List D)} (hr : RDCF K r g) (ha : TAD K mg W ta fa) : TF K mg W (tCB r ta) (DL.callB g fa) := by
  intro Hf σ ρ H S Q h
  refine ha Hf σ ρ H S _ ((Wp.bind h).mono fun ds ρ1 h1 vs Hf1 H1 s1 S1 r1 => ?_)
  obtain ⟨dz, e, h2⟩ := Wp.lift h1
  refine hr Hf1 H1 vs ds dz S1.sub r1 e Q fun a H3 Hf3 n h3 h4 ro => h2 a Hf3 H3 (s1.trans n.stp) (n.sr S1) ?_ h4 ro (fresh_no S1 h3)
  cases e : H a with
  | none => rfl
  | some o => exact absurd h3 (s1.there a (by rw [e]; simp))
theorem reps1 {d : D} {vs : List V} (r : Reps K Hf [d] vs) : ∃ v, vs = [v] ∧ Rep K Hf d v := by
  unfold Reps at r
  obtain ⟨v, r', rfl, h1, h2⟩ := r
  unfold Reps at h2
  subst h2
  exact ⟨v, rfl, h1⟩
theorem reps2 {d e : D} {vs : List V} (r : Reps K Hf [d, e] vs) : ∃ v u, vs = [v, u] ∧ Rep K Hf d v ∧ Rep K Hf e u := by
  unfold Reps at r
  obtain ⟨v, r', rfl, h1, h2⟩ := r
  obtain ⟨u, rfl, h3⟩ := reps1 h2
  exact ⟨v, u, rfl, h1, h3⟩
/-- len -/
def lenD : D → Option Nat
  | .str z => if z.length ≤ 1000000 then some z.length else none
  | .tup ds => some ds.length
  | .lst ds => some ds.length
  | .dct kvs => some kvs.length
  | _ => none
def lenF : List D → Option D
  | [d] => (lenD d).map fun n => .int n
  | _ => none
def rLen (K : PySem.W.Frag) : List V → Hp → VK → Prop := fun xs H Q => ∃ x n, xs = [x] ∧ LenV K x H n ∧ Q (.int n) H
def rLenK : List V → Hp → VK → Prop := fun xs H Q => ∃ (a : Addr) (kvs : List (Key × V)), xs = [.ref a] ∧ Rd H a (.dK kvs) ∧ Q (.int (kvs.length : Nat)) H
theorem cr_lenK {X : Cx} : CallR X (.builtin "len") rLenK := by
  intro pins s σ H xs us Q I r ⟨a, kvs, e, hd, q⟩
  subst e
  rw [Vals.ref1 r]
  exact d_len I hd fun t s2 I2 => ⟨.int (kvs.length : Nat), H, I2, ⟨t, rfl⟩, q⟩
/-- len of anything: texts, tuples, lists, dicts -/
def rLen2 (K : PySem.W.Frag) : List V → Hp → VK → Prop := fun xs H Q => rLen K xs H Q ∨ rLenK xs H Q
theorem call_len2 {X : Cx} : CallR X (.builtin "len") (rLen2 X.K) := by
  intro pins s σ H xs us Q I rs q
  rcases q with q | q
  · exact call_len pins s σ H xs us Q I rs q
  · exact cr_lenK pins s σ H xs us Q I rs q
theorem rdc_len : RDC K (rLen2 K) lenF := by
  intro Hf H xs ds dz s r e Q k
  match ds, e, r with
  | [d], e, r =>
    obtain ⟨v, rfl, r1⟩ := reps1 r
    match d, e, r1 with
    | .str z, e, r1 =>
      cases rep_str r1
      simp only [lenF, lenD] at e
      split at e
      · rename_i hl
        cases e
        exact .inl ⟨.str z, z.length, rfl, ⟨fits_line hl, rfl⟩, k _ H Hf (New.refl s) (by unfold Rep; rfl)⟩
      · cases e
    | .tup es, e, r1 =>
      obtain ⟨a, vs, rfl, g1, g2⟩ := rep_tup r1
      cases e
      refine .inl ⟨.ref a, es.length, rfl, .inr ⟨vs, Same.sqT s g1, reps_len g2⟩, k _ H Hf (New.refl s) (by unfold Rep; rfl)⟩
    | .lst es, e, r1 =>
      obtain ⟨a, vs, rfl, g1, g2⟩ := rep_lst r1
      cases e
      refine .inl ⟨.ref a, es.length, rfl, .inl ⟨vs, rdSeq s g1, reps_len g2⟩, k _ H Hf (New.refl s) (by unfold Rep; rfl)⟩
    | .dct kvs, e, r1 =>
      obtain ⟨a, o, vs, rfl, g1, g2⟩ := rep_dct r1
      cases e
      exact .inr ⟨a, vs, rfl, .inr ⟨o, s _ _ g1⟩, by rw [← repk_len g2]; exact k _ H Hf (New.refl s) (by unfold Rep; rfl)⟩
/-- all, any of a list of truth values -/
def blsD : List D → Option (List Bool)
  | [] => some []
  | d :: ds => match toB d, blsD ds with
    | some b, some bs => some (b :: bs)
    | _, _ => none
theorem bls_rep : ∀ {ds : List D} {bs : List Bool} {vs : List V}, blsD ds = some bs → Reps K Hf ds vs → vs = bs.map V.bl
  | [], _, _, e, r => by unfold blsD at e; unfold Reps at r; cases e; subst r; rfl
  | d :: ds, _, _, e, r => by
    unfold blsD at e; unfold Reps at r
    obtain ⟨v, r', rfl, h1, h2⟩ := r
    cases e1 : toB d with
    | none => rw [e1] at e; cases e
    | some b =>
      cases e2 : blsD ds with
      | none => rw [e1, e2] at e; cases e
      | some bs =>
        rw [e1, e2] at e; cases e
        rw [List.map_cons, rep_bl e1 h1, bls_rep e2 h2]
def allF : List D → Option D
  | [.lst ds] => (blsD ds).map fun bs => .bl (bs.all id)
  | _ => none
def anyF : List D → Option D
  | [.lst ds] => (blsD ds).map fun bs => .bl (bs.any id)
  | _ => none
theorem rdc_all : RDC K (rAll K) allF := by
  intro Hf H xs ds dz s r e Q k
  match ds, e, r with
  | [.lst es], e, r =>
    obtain ⟨v, rfl, r1⟩ := reps1 r
    obtain ⟨a, vs, rfl, g1, g2⟩ := rep_lst r1
    simp only [allF] at e
    cases e1 : blsD es with
    | none => rw [e1] at e; cases e
    | some bs =>
      rw [e1] at e; cases e
      refine ⟨a, bs, rfl, ?_, k _ H Hf (New.refl s) (by unfold Rep; rfl)⟩
      rw [← bls_rep e1 g2]
      exact rdSeq s g1
theorem rdc_any : RDC K (rAny K) anyF := by
  intro Hf H xs ds dz s r e Q k
  match ds, e, r with
  | [.lst es], e, r =>
    obtain ⟨v, rfl, r1⟩ := reps1 r
    obtain ⟨a, vs, rfl, g1, g2⟩ := rep_lst r1
    simp only [anyF] at e
    cases e1 : blsD es with
    | none => rw [e1] at e; cases e
    | some bs =>
      rw [e1] at e; cases e
      refine ⟨a, bs, rfl, ?_, k _ H Hf (New.refl s) (by unfold Rep; rfl)⟩
      rw [← bls_rep e1 g2]
      exact rdSeq s g1
/-- tuple(x), list(x) of a tuple or a list -/
def tupF : List D → Option D
  | [.tup ds] => some (.tup ds)
  | [.lst ds] => some (.tup ds)
  | _ => none
def lstF : List D → Option D
  | [.tup ds] => some (.lst ds)
  | [.lst ds] => some (.lst ds)
  | _ => none
def rLstOf (K : PySem.W.Frag) : List V → Hp → VK → Prop := fun xs H Q => ∃ p ys, xs = [.ref p] ∧ (SqL K H p ys ∨ SqT K H p ys) ∧ ∀ l, H l = none → Q (.ref l) (upd H l (.lst ys))
theorem rdc_tup : RDC K (rTupX K) tupF := by
  intro Hf H xs ds dz s r e Q k
  match ds, e, r with
  | [.tup es], e, r =>
    obtain ⟨v, rfl, r1⟩ := reps1 r
    obtain ⟨a, vs, rfl, g1, g2⟩ := rep_tup r1
    cases e
    exact ⟨a, vs, rfl, .inr ⟨Same.sqT s g1, k _ H Hf (New.refl s) r1⟩⟩
  | [.lst es], e, r =>
    obtain ⟨v, rfl, r1⟩ := reps1 r
    obtain ⟨a, vs, rfl, g1, g2⟩ := rep_lst r1
    cases e
    refine ⟨a, vs, rfl, .inl ⟨rdSeq s g1, fun p o hp ho => ?_⟩⟩
    obtain ⟨n, r⟩ := lay_tup s hp ho g2
    exact k _ _ _ n r
theorem rdc_lst : RDCF K (rLstOf K) lstF := by
  intro Hf H xs ds dz s r e Q k
  match ds, e, r with
  | [.tup es], e, r =>
    obtain ⟨v, rfl, r1⟩ := reps1 r
    obtain ⟨a, vs, rfl, g1, g2⟩ := rep_tup r1
    cases e
    exact ⟨a, vs, rfl, .inr (Same.sqT s g1), fun p hp => k p _ _ (New.fresh s hp) hp (none_sub s hp) ⟨vs, upd_same, g2⟩⟩
  | [.lst es], e, r =>
    obtain ⟨v, rfl, r1⟩ := reps1 r
    obtain ⟨a, vs, rfl, g1, g2⟩ := rep_lst r1
    cases e
    exact ⟨a, vs, rfl, .inl (rdSeq s g1), fun p hp => k p _ _ (New.fresh s hp) hp (none_sub s hp) ⟨vs, upd_same, g2⟩⟩
/-- int(x), bool(x) of an int or a truth value; str(n) -/
def intF : List D → Option D
  | [.int i] => some (.int i)
  | [.bl k] => some (.int (if k then 1 else 0))
  | _ => none
def boolF : List D → Option D
  | [.int i] => some (.bl (i != 0))
  | [.bl k] => some (.bl k)
  | _ => none
def rInt1 : List V → Hp → VK → Prop := fun xs H Q => (∃ i, xs = [.int i] ∧ Q (.int i) H) ∨ ∃ k, xs = [.bl k] ∧ Q (.int (if k then 1 else 0)) H
def rBool1 : List V → Hp → VK → Prop := fun xs H Q => (∃ i, xs = [.int i] ∧ Q (.bl (i != 0)) H) ∨ ∃ k, xs = [.bl k] ∧ Q (.bl k) H
theorem rdc_int : RDC K rInt1 intF := by
  intro Hf H xs ds dz s r e Q k
  match ds, e, r with
  | [.int i], e, r =>
    obtain ⟨v, rfl, r1⟩ := reps1 r
    cases rep_int r1; cases e
    exact .inl ⟨i, rfl, k _ H Hf (New.refl s) (by unfold Rep; rfl)⟩
  | [.bl b], e, r =>
    obtain ⟨v, rfl, r1⟩ := reps1 r
    unfold Rep at r1; subst r1; cases e
    exact .inr ⟨b, rfl, k _ H Hf (New.refl s) (by unfold Rep; rfl)⟩
theorem rdc_bool : RDC K rBool1 boolF := by
  intro Hf H xs ds dz s r e Q k
  match ds, e, r with
  | [.int i], e, r =>
    obtain ⟨v, rfl, r1⟩ := reps1 r
    cases rep_int r1; cases e
    exact .inl ⟨i, rfl, k _ H Hf (New.refl s) (by unfold Rep; rfl)⟩
  | [.bl b], e, r =>
    obtain ⟨v, rfl, r1⟩ := reps1 r
    unfold Rep at r1; subst r1; cases e
    exact .inr ⟨b, rfl, k _ H Hf (New.refl s) (by unfold Rep; rfl)⟩
/-! ### isinstance -/
/-- the built-in type's name of data -/
def tyN : D → Option String
  | .non => some "NoneType"
  | .bl _ => some "bool"
  | .int _ => some "int"
  | .str _ => some "str"
  | .tup _ => some "tuple"
  | .lst _ => some "list"
  | .dct _ => some "dict"
  | _ => none
theorem tyX_of {d : D} {n : String} {v : V} (s : Same Hf H) (h : tyN d = some n) (r : Rep K Hf d v) : TyX K H v (.type n) := by
  cases d <;> simp [tyN] at h <;> subst h
  · unfold Rep at r; subst r; exact TyX.base TyOf.non
  · unfold Rep at r; subst r; exact TyX.base (TyOf.bl _)
  · unfold Rep at r; subst r; exact TyX.base (TyOf.int _)
  · unfold Rep at r; subst r; exact TyX.base (TyOf.str _)
  · obtain ⟨a, vs, rfl, g1, g2⟩ := rep_tup r
    rcases g1 with (g | ⟨o, g⟩) | ⟨o, its, n, g, c, _⟩
    · exact TyX.base (TyOf.tup (s _ _ g))
    · exact TyX.fTuple (s _ _ g)
    · exact TyX.kTuple g c
  · obtain ⟨a, vs, rfl, g | ⟨o, g⟩, g2⟩ := rep_lst r
    · exact TyX.base (TyOf.lst (s _ _ g))
    · exact TyX.base (TyOf.frz (s _ _ g))
  · unfold Rep at r
    obtain ⟨a, o, vs, rfl, g, g2⟩ := r
    exact TyX.fDict (s _ _ g)
/-- which built-in type is one of the named -/
def isT (t n : String) : Bool := t == n || (t == "bool" && n == "int")
def okT (t n : String) : Bool := ["NoneType", "bool", "int", "str", "tuple", "list", "dict"].contains t && ["bool", "int", "str", "tuple", "list"].contains n
theorem kit_isT {t n : String} (h : okT t n = true) : kitB t n = some (isT t n) := by
  unfold okT at h
  rw [Bool.and_eq_true] at h
  obtain ⟨h1, h2⟩ := h
  have h1 : t ∈ ["NoneType", "bool", "int", "str", "tuple", "list", "dict"] := List.contains_iff_mem.mp h1
  have h2 : n ∈ ["bool", "int", "str", "tuple", "list"] := List.contains_iff_mem.mp h2
  simp only [List.mem_cons, List.not_mem_nil, or_false] at h1 h2
  rcases h1 with rfl | rfl | rfl | rfl | rfl | rfl | rfl <;> rcases h2 with rfl | rfl | rfl | rfl | rfl <;> decide +kernel
def isiF : List D → Option D
  | [d, .ty n] => match tyN d with
    | some t => if okT t n then some (.bl (isT t n)) else none
    | none => none
  | _ => none
theorem rdc_isi : RDC K (rIsi K) isiF := by
  intro Hf H xs ds dz s r e Q k
  match ds, e, r with
  | [d, .ty n], e, r =>
    obtain ⟨v, u, rfl, r1, r2⟩ := reps2 r
    unfold Rep at r2; subst r2
    simp only [isiF] at e
    cases e1 : tyN d with
    | none => rw [e1] at e; cases e
    | some t =>
      rw [e1] at e
      simp only at e
      split at e
      · rename_i hh
        cases e
        exact ⟨v, .ty n, .type t, .type n, isT t n, rfl, ClsV.ty n, tyX_of s e1 r1, kit_ty (kit_isT hh), k _ H Hf (New.refl s) (by unfold Rep; rfl)⟩
      · cases e
/-- .. a tuple of types, just laid -/
def tTys : List String → TA
  | [] => tNil
  | n :: ns => tCons (tC (.ty n)) (tTys ns)
theorem tTys_run {ns : List String} {σ : L2.St} {H : Hp} {Q : List V → Hp → Prop} (h : Q (ns.map V.ty) H) : tTys ns σ H Q := by
  induction ns generalizing Q with
  | nil => exact h
  | cons n ns ih => exact ih (Q := fun xs H2 => Q (V.ty n :: xs) H2) h
def isiTE (ns : List String) (fe : EM D) : EM D := bindM fe fun d => liftO (match tyN d with
  | some t => if ns.all (okT t) && decide (ns.length ≤ 1000) then some (.bl (ns.any (isT t))) else none
  | none => none)
theorem kit_any {t : String} : ∀ {ns : List String}, ns.all (okT t) = true → PySem.W.kitAny K (.type t) (ns.map fun n => Value.type n) = some (ns.any (isT t))
  | [], _ => kitAny_nil
  | n :: ns, h => by
    rw [List.all_cons, Bool.and_eq_true] at h
    rw [List.map_cons, List.any_cons]
    exact kitAny_cons (kit_ty (kit_isT h.1)) (fun e => by rw [e, Bool.false_or]; exact kit_any h.2) (fun e => by rw [e]; rfl)
theorem clsv_all : ∀ ns : List String, Paired ClsV (ns.map V.ty) (ns.map fun n => Value.type n)
  | [] => .nil
  | n :: ns => .cons (ClsV.ty n) (clsv_all ns)
theorem TD.isiT {te : TE} {fe : EM D} (ns : List String) (he : TD K mg W te fe) : TD K mg W (tCB (rIsiT K) (tCons te (tCons (tTup (tTys ns)) tNil))) (isiTE ns fe) := by
  intro Hf σ ρ H S Q h
  refine he Hf σ ρ H S _ ((Wp.bind h).mono fun d ρ1 h1 v Hf1 H1 s1 S1 r1 => ?_)
  obtain ⟨dz, e, h2⟩ := Wp.lift h1
  cases e1 : tyN d with
  | none => rw [e1] at e; cases e
  | some t =>
    rw [e1] at e
    simp only at e
    split at e
    · rename_i hh
      rw [Bool.and_eq_true] at hh
      cases e
      refine tTys_run ⟨fits_line (by rw [List.length_map]; have : ns.length ≤ 1000 := of_decide_eq_true hh.2; omega), fun p hp => ?_⟩
      have n := New.fresh (o := .tup (ns.map V.ty)) S1.sub hp
      exact ⟨v, p, ns.map V.ty, .type t, ns.map fun n => Value.type n, ns.any (isT t), rfl, upd_same, clsv_all ns, tyX_of n.sub e1 r1, kit_any hh.1, h2 _ _ _ (s1.trans n.stp) (n.sr S1) (by unfold Rep; rfl)⟩
    · cases e

/-! ### what is walked -/
theorem itd_list {a : Addr} {vs : List V} {ds : List D} (h : Rd Hf a (.lst vs)) (r : Reps K Hf ds vs) : Itd K (Itl K a) Hf ds where
  go := fun i d Hf1 H1 s1 s2 e => by
    obtain ⟨v, g1, g2⟩ := reps_get r e
    refine ⟨⟨vs, v, rdSeq s2 (Same.rd s1 h), g1⟩, fun x H2 ⟨e2, hx⟩ => ?_⟩
    subst e2
    have := hx vs (rdSeq s2 (Same.rd s1 h))
    rw [g1] at this; cases this
    exact ⟨Hf1, New.refl s2, Rep.mono s1 g2⟩
  stop := fun Hf1 H1 s1 s2 => ⟨vs, rdSeq s2 (Same.rd s1 h), by rw [reps_len r]; exact Nat.le_refl _⟩
theorem itd_tup {a : Addr} {vs : List V} {ds : List D} (h : SqT K Hf a vs) (r : Reps K Hf ds vs) : Itd K (Itt K a) Hf ds where
  go := fun i d Hf1 H1 s1 s2 e => by
    obtain ⟨v, g1, g2⟩ := reps_get r e
    have q := Same.sqT s2 (Same.sqT s1 h)
    refine ⟨⟨vs, v, q, g1⟩, fun x H2 ⟨e2, hx⟩ => ?_⟩
    subst e2
    have := hx vs q
    rw [g1] at this; cases this
    exact ⟨Hf1, New.refl s2, Rep.mono s1 g2⟩
  stop := fun Hf1 H1 s1 s2 => ⟨vs, Same.sqT s2 (Same.sqT s1 h), by rw [reps_len r]; exact Nat.le_refl _⟩
def rngD (lo : Int) (n : Nat) : List D := (List.range n).map fun i => .int (lo + (i : Nat))
theorem itd_rng {lo : Int} {n : Nat} : Itd K (Itr lo n) Hf (rngD lo n) where
  go := fun i d Hf1 H1 s1 s2 e => by
    unfold rngD at e
    rw [List.getElem?_map] at e
    have hi : i < n := by
      by_cases hi : i < n
      · exact hi
      · rw [List.getElem?_eq_none (by simpa using hi)] at e; cases e
    rw [List.getElem?_range hi] at e
    cases e
    refine ⟨hi, fun x H2 ⟨e2, hx⟩ => ?_⟩
    subst e2; subst hx
    exact ⟨Hf1, New.refl s2, by unfold Rep; rfl⟩
  stop := fun Hf1 H1 s1 s2 => by
    show n ≤ _
    unfold rngD
    simp
def lstI (fe : EM D) : EM (List D) := bindM fe fun d => liftO (match d with | .lst ds => some ds | _ => none)
def tupI (fe : EM D) : EM (List D) := bindM fe fun d => liftO (match d with | .tup ds => some ds | _ => none)
theorem TID.lst {te : TE} {fe : EM D} (he : TD K mg W te fe) : TID K mg W (iList K te) (lstI fe) := by
  intro Hf σ ρ H S R h
  refine he Hf σ ρ H S _ ((Wp.bind h).mono fun d ρ1 h1 v Hf1 H1 s1 S1 r1 => ?_)
  obtain ⟨ds, e, h2⟩ := Wp.lift h1
  match d, e, r1 with
  | .lst es, e, r1 =>
    cases e
    obtain ⟨a, vs, rfl, g1, g2⟩ := rep_lst r1
    exact ⟨a, rfl, ⟨vs, rdSeq S1.sub g1⟩, h2 _ Hf1 H1 s1 S1 (itd_list g1 g2)⟩
theorem TID.tup {te : TE} {fe : EM D} (he : TD K mg W te fe) : TID K mg W (iTup K te) (tupI fe) := by
  intro Hf σ ρ H S R h
  refine he Hf σ ρ H S _ ((Wp.bind h).mono fun d ρ1 h1 v Hf1 H1 s1 S1 r1 => ?_)
  obtain ⟨ds, e, h2⟩ := Wp.lift h1
  match d, e, r1 with
  | .tup es, e, r1 =>
    cases e
    obtain ⟨a, vs, rfl, g1, g2⟩ := rep_tup r1
    exact ⟨a, rfl, ⟨vs, Same.sqT S1.sub g1⟩, h2 _ Hf1 H1 s1 S1 (itd_tup g1 g2)⟩
def smallI (i : Int) : Bool := decide (-1000000 ≤ i) && decide (i ≤ 1000000)
theorem smallI_ok {i : Int} (h : smallI i = true) : -(2 ^ 62) ≤ i ∧ i < 2 ^ 62 := by
  unfold smallI at h
  rw [Bool.and_eq_true] at h
  have h1 : -1000000 ≤ i := of_decide_eq_true h.1
  have h2 : i ≤ 1000000 := of_decide_eq_true h.2
  constructor <;> omega
def rng1I (fa : EM (List D)) : EM (List D) := bindM fa fun ds => liftO (match ds with | [.int j] => if smallI j then some (rngD 0 j.toNat) else none | _ => none)
def rng2I (fa : EM (List D)) : EM (List D) := bindM fa fun ds => liftO (match ds with | [.int i, .int j] => if smallI i && smallI j then some (rngD i (j - i).toNat) else none | _ => none)
theorem TID.rng1 {ta : TA} {fa : EM (List D)} (ha : TAD K mg W ta fa) : TID K mg W (iRng1 ta) (rng1I fa) := by
  intro Hf σ ρ H S R h
  refine ha Hf σ ρ H S _ ((Wp.bind h).mono fun ds ρ1 h1 vs Hf1 H1 s1 S1 r1 => ?_)
  obtain ⟨es, e, h2⟩ := Wp.lift h1
  match ds, e, r1 with
  | [.int j], e, r1 =>
    obtain ⟨v, rfl, r2⟩ := reps1 r1
    cases rep_int r2
    simp only at e
    split at e
    · rename_i hh
      cases e
      obtain ⟨k1, k2⟩ := smallI_ok hh
      exact ⟨j, rfl, k1, k2, h2 _ Hf1 H1 s1 S1 itd_rng⟩
    · cases e
theorem TID.rng2 {ta : TA} {fa : EM (List D)} (ha : TAD K mg W ta fa) : TID K mg W (iRng2 ta) (rng2I fa) := by
  intro Hf σ ρ H S R h
  refine ha Hf σ ρ H S _ ((Wp.bind h).mono fun ds ρ1 h1 vs Hf1 H1 s1 S1 r1 => ?_)
  obtain ⟨es, e, h2⟩ := Wp.lift h1
  match ds, e, r1 with
  | [.int i, .int j], e, r1 =>
    obtain ⟨v, u, rfl, r2, r3⟩ := reps2 r1
    cases rep_int r2; cases rep_int r3
    simp only at e
    split at e
    · rename_i hh
      rw [Bool.and_eq_true] at hh
      cases e
      obtain ⟨k1, k2⟩ := smallI_ok hh.1
      obtain ⟨k3, k4⟩ := smallI_ok hh.2
      exact ⟨i, j, rfl, ⟨k1, k2, k3, k4⟩, h2 _ Hf1 H1 s1 S1 itd_rng⟩
    · cases e
/-- pairs that are made on the way -/
def enumD (ds : List D) : List D := ds.zipIdx.map fun p => .prt [.int (p.2 : Nat), p.1]
def zipD (ds es : List D) : List D := (ds.zip es).map fun p => .prt [p.1, p.2]
theorem pair_rep {d e : D} {v u : V} {T : Addr} (s : Same Hf H) (hT : H T = none) (r1 : Rep K Hf d v) (r2 : Rep K Hf e u) : New Hf H (upd Hf T (.tup [v, u])) (upd H T (.tup [v, u])) ∧ Rep K (upd Hf T (.tup [v, u])) (.prt [d, e]) (.ref T) :=
  lay_prt s hT (reps_cons r1 (reps_cons r2 (by unfold Reps; rfl)))
theorem itd_enumL {a : Addr} {vs : List V} {ds : List D} (h : Rd Hf a (.lst vs)) (r : Reps K Hf ds vs) : Itd K (Ite K a) Hf (enumD ds) where
  go := fun i d Hf1 H1 s1 s2 e => by
    unfold enumD at e
    rw [List.getElem?_map, List.getElem?_zipIdx] at e
    cases e1 : ds[i]? with
    | none => rw [e1] at e; cases e
    | some d0 =>
      rw [e1] at e
      simp only [Option.map_some, Nat.zero_add] at e
      cases e
      obtain ⟨v, g1, g2⟩ := reps_get r e1
      have q : SqL K H1 a vs := rdSeq s2 (Same.rd s1 h)
      refine ⟨⟨vs, v, q, g1⟩, fun x H2 ⟨T, x', e2, hT, e3, hx⟩ => ?_⟩
      subst e2; subst e3
      have := hx vs q
      rw [g1] at this; cases this
      obtain ⟨n, r3⟩ := pair_rep (K := K) s2 hT (show Rep K Hf1 (.int (i : Nat)) (.int (i : Nat)) by unfold Rep; rfl) (Rep.mono s1 g2)
      exact ⟨_, n, r3⟩
  stop := fun Hf1 H1 s1 s2 => ⟨vs, rdSeq s2 (Same.rd s1 h), by unfold enumD; simp [reps_len r]⟩
theorem zip_get {ds es : List D} {i : Nat} {d : D} (h : (zipD ds es)[i]? = some d) : ∃ x y, ds[i]? = some x ∧ es[i]? = some y ∧ d = .prt [x, y] := by
  unfold zipD at h
  rw [List.getElem?_map] at h
  cases e : (ds.zip es)[i]? with
  | none => rw [e] at h; cases h
  | some p =>
    rw [e] at h; cases h
    rw [List.getElem?_zip_eq_some] at e
    exact ⟨p.1, p.2, e.1, e.2, rfl⟩
theorem itd_zipL {a b : Addr} {vs us : List V} {ds es : List D} (h : Rd Hf a (.lst vs)) (r : Reps K Hf ds vs) (h' : Rd Hf b (.lst us)) (r' : Reps K Hf es us) : Itd K (Itz K a b) Hf (zipD ds es) where
  go := fun i d Hf1 H1 s1 s2 e => by
    obtain ⟨x, y, e1, e2, rfl⟩ := zip_get e
    obtain ⟨v, g1, g2⟩ := reps_get r e1
    obtain ⟨u, g3, g4⟩ := reps_get r' e2
    have q : SqL K H1 a vs := rdSeq s2 (Same.rd s1 h)
    have q' : SqL K H1 b us := rdSeq s2 (Same.rd s1 h')
    refine ⟨⟨vs, us, v, u, q, q', g1, g3⟩, fun z H2 ⟨T, x', y', e2, hT, e3, hx, hy⟩ => ?_⟩
    subst e2; subst e3
    have := hx vs q
    rw [g1] at this; cases this
    have := hy us q'
    rw [g3] at this; cases this
    obtain ⟨n, r3⟩ := pair_rep (K := K) s2 hT (Rep.mono s1 g2) (Rep.mono s1 g4)
    exact ⟨_, n, r3⟩
  stop := fun Hf1 H1 s1 s2 => ⟨vs, us, rdSeq s2 (Same.rd s1 h), rdSeq s2 (Same.rd s1 h'), by
    unfold zipD
    rw [List.length_map, List.length_zip, reps_len r, reps_len r']
    omega⟩
theorem itd_zipT {a b : Addr} {vs us : List V} {ds es : List D} (h : SqT K Hf a vs) (r : Reps K Hf ds vs) (h' : SqT K Hf b us) (r' : Reps K Hf es us) : Itd K (RZ.ItzT K a b) Hf (zipD ds es) where
  go := fun i d Hf1 H1 s1 s2 e => by
    obtain ⟨x, y, e1, e2, rfl⟩ := zip_get e
    obtain ⟨v, g1, g2⟩ := reps_get r e1
    obtain ⟨u, g3, g4⟩ := reps_get r' e2
    have q := Same.sqT s2 (Same.sqT s1 h)
    have q' := Same.sqT s2 (Same.sqT s1 h')
    refine ⟨⟨vs, us, v, u, q, q', g1, g3⟩, fun z H2 ⟨T, x', y', e2, hT, e3, hx, hy⟩ => ?_⟩
    subst e2; subst e3
    have := hx vs q
    rw [g1] at this; cases this
    have := hy us q'
    rw [g3] at this; cases this
    obtain ⟨n, r3⟩ := pair_rep (K := K) s2 hT (Rep.mono s1 g2) (Rep.mono s1 g4)
    exact ⟨_, n, r3⟩
  stop := fun Hf1 H1 s1 s2 => ⟨vs, us, Same.sqT s2 (Same.sqT s1 h), Same.sqT s2 (Same.sqT s1 h'), by
    unfold zipD
    rw [List.length_map, List.length_zip, reps_len r, reps_len r']
    omega⟩
def enumI (fa : EM (List D)) : EM (List D) := bindM fa fun ds => liftO (match ds with | [.lst es] => some (enumD es) | _ => none)
def zipI (fa : EM (List D)) : EM (List D) := bindM fa fun ds => liftO (match ds with | [.lst xs, .lst ys] => some (zipD xs ys) | [.tup xs, .tup ys] => some (zipD xs ys) | _ => none)
theorem TID.enum {ta : TA} {fa : EM (List D)} (ha : TAD K mg W ta fa) : TID K mg W (iEnum K ta) (enumI fa) := by
  intro Hf σ ρ H S R h
  refine ha Hf σ ρ H S _ ((Wp.bind h).mono fun ds ρ1 h1 vs Hf1 H1 s1 S1 r1 => ?_)
  obtain ⟨es, e, h2⟩ := Wp.lift h1
  match ds, e, r1 with
  | [.lst xs], e, r1 =>
    obtain ⟨v, rfl, r2⟩ := reps1 r1
    obtain ⟨a, us, rfl, g1, g2⟩ := rep_lst r2
    cases e
    exact ⟨a, us, rfl, rdSeq S1.sub g1, h2 _ Hf1 H1 s1 S1 (itd_enumL g1 g2)⟩
theorem TID.zip {ta : TA} {fa : EM (List D)} (ha : TAD K mg W ta fa) : TID K mg W (RZ.iZipA K ta) (zipI fa) := by
  intro Hf σ ρ H S R h
  refine ha Hf σ ρ H S _ ((Wp.bind h).mono fun ds ρ1 h1 vs Hf1 H1 s1 S1 r1 => ?_)
  obtain ⟨es, e, h2⟩ := Wp.lift h1
  match ds, e, r1 with
  | [.lst xs, .lst ys], e, r1 =>
    obtain ⟨v, u, rfl, r2, r3⟩ := reps2 r1
    obtain ⟨a, us, rfl, g1, g2⟩ := rep_lst r2
    obtain ⟨b, ws, rfl, g3, g4⟩ := rep_lst r3
    cases e
    exact ⟨a, b, us, ws, rfl, .inl ⟨rdSeq S1.sub g1, rdSeq S1.sub g3, h2 _ Hf1 H1 s1 S1 (itd_zipL g1 g2 g3 g4)⟩⟩
  | [.tup xs, .tup ys], e, r1 =>
    obtain ⟨v, u, rfl, r2, r3⟩ := reps2 r1
    obtain ⟨a, us, rfl, g1, g2⟩ := rep_tup r2
    obtain ⟨b, ws, rfl, g3, g4⟩ := rep_tup r3
    cases e
    exact ⟨a, b, us, ws, rfl, .inr ⟨Same.sqT S1.sub g1, Same.sqT S1.sub g3, h2 _ Hf1 H1 s1 S1 (itd_zipT g1 g2 g3 g4)⟩⟩
end
end DL

/-! The D layer, 9: owned lists; sorted. -/
namespace DL
open PySem L2

section
variable {K : PySem.W.Frag} {mg : Str → Option Value} {W : XK} {Hf H Hf' H' Hf1 H1 : Hp} {σ : L2.St} {ρ : Ro}
/-- the list that slot i owns -/
def ownL (i : Nat) : EM (List D) := fun ρ => match ρ[i]? with
  | some (.o (.lst ds)) => .ok ds ρ
  | some (.p (.lst ds)) => .ok ds ρ
  | _ => .bad
def putO (i : Nat) (d : D) (ρ : Ro) : Ro := match ρ[i]? with
  | some (.o _) => ρ.set i (.o d)
  | some (.p _) => ρ.set i (.p d)
  | _ => ρ
theorem ownL_inv {i : Nat} {α : Type} {f : List D → EM α} {k : α → Ro → Prop} (S : SR K Hf σ ρ H) (h : Wp K mg W (bindM (ownL i) f ρ) k) :
    ∃ a ds vs, σ[i]? = some (some (V.ref a)) ∧ (ρ[i]? = some (Sl.o (.lst ds)) ∨ ρ[i]? = some (Sl.p (.lst ds))) ∧ Hf a = none ∧ H a = some (.lst vs) ∧ Reps K Hf ds vs ∧ Wp K mg W (f ds ρ) k := by
  have h := Wp.bind h
  unfold ownL at h
  cases e : ρ[i]? with
  | none => rw [e] at h; exact h.elim
  | some x =>
    rw [e] at h
    match x, e, h with
    | .o (.lst ds), e, h =>
      obtain ⟨a, h1, h2, vs, h3, h4⟩ := S.own i _ (.inl e)
      exact ⟨a, ds, vs, h1, .inl rfl, h2, h3, h4, h⟩
    | .p (.lst ds), e, h =>
      obtain ⟨a, h1, h2, vs, h3, h4⟩ := S.own i _ (.inr e)
      exact ⟨a, ds, vs, h1, .inr rfl, h2, h3, h4, h⟩
/-- an owned thing changes -/
theorem own_upd {i : Nat} {a : Addr} {d d' : D} {o : HO} (S : SR K Hf σ ρ H) (h1 : σ[i]? = some (some (V.ref a))) (h2 : ρ[i]? = some (Sl.o d) ∨ ρ[i]? = some (Sl.p d)) (hr : RepO K Hf (upd H a o) d' a) :
    Stp Hf σ ρ H Hf σ (putO i d' ρ) (upd H a o) ∧ SR K Hf σ (putO i d' ρ) (upd H a o) := by
  have hl : i < ρ.length := by rcases h2 with h | h <;> exact (List.getElem?_eq_some_iff.mp h).1
  obtain ⟨a0, g1, g2, g3⟩ := S.own i d h2
  rw [h1] at g1; cases g1
  have hoa : OA σ ρ a := ⟨i, h1, d, h2⟩
  have at_ : ∀ j : Nat, j ≠ i → (putO i d' ρ)[j]? = ρ[j]? := fun j hj => by
    unfold putO
    rcases h2 with h | h <;> rw [h] <;> simp only <;> rw [List.getElem?_set_ne (Ne.symm hj)]
  have ai : (putO i d' ρ)[i]? = (match ρ[i]? with | some (.o _) => some (Sl.o d') | some (.p _) => some (Sl.p d') | x => x) := by
    unfold putO
    rcases h2 with h | h <;> rw [h] <;> simp only <;> rw [List.getElem?_set_self hl]
  have len : (putO i d' ρ).length = ρ.length := by
    unfold putO
    rcases h2 with h | h <;> rw [h] <;> simp
  have kind : ∀ (j : Nat), ((∃ e, (putO i d' ρ)[j]? = some (Sl.o e)) ↔ ∃ e, ρ[j]? = some (Sl.o e)) ∧ ((∃ e, (putO i d' ρ)[j]? = some (Sl.p e)) ↔ ∃ e, ρ[j]? = some (Sl.p e)) := fun j => by
    by_cases hj : j = i
    · subst hj
      rw [ai]
      rcases h2 with h | h <;> rw [h] <;> simp
    · rw [at_ j hj]; exact ⟨Iff.rfl, Iff.rfl⟩
  refine ⟨⟨fun _ _ h => h, fun b u hb n => ?_, fun b hb => ?_, fun _ _ h _ => h, fun j e hj => ⟨(kind j).2.mpr ⟨e, hj⟩, rfl⟩, fun j e hj => (kind j).2.mp ⟨e, hj⟩, fun b ⟨j, e, k1, k2⟩ => ?_, len⟩, ⟨fun b u hb => ?_, by rw [len]; exact S.len, fun j e hj => ?_, fun j e hj => ?_, fun j l b ⟨k1, e1, k2⟩ ⟨k3, e2, k4⟩ => ?_⟩⟩
  · rw [upd_ne (fun e => n (by rw [e]; exact hoa))]; exact hb
  · by_cases e : b = a
    · rw [e, upd_same]; simp
    · rw [upd_ne e]; exact hb
  · obtain ⟨e', k3⟩ := (kind j).1.mp ⟨e, k2⟩
    exact .inr ⟨j, e', k1, k3⟩
  · rw [upd_ne (fun e => by rw [e, g2] at hb; cases hb)]; exact S.sub b u hb
  · have hj' : ρ[j]? = some (Sl.v e) := by
      by_cases hji : j = i
      · subst hji
        rw [ai] at hj
        rcases h2 with h | h <;> rw [h] at hj <;> simp at hj
      · rw [at_ j hji] at hj; exact hj
    exact S.val j e hj'
  · by_cases hji : j = i
    · subst hji
      have : e = d' := by
        rw [ai] at hj
        rcases h2 with h | h <;> rw [h] at hj <;> simp at hj <;> exact hj.symm
      subst this
      exact ⟨a, h1, g2, hr⟩
    · rw [at_ j hji] at hj
      obtain ⟨b, k1, k2, k3⟩ := S.own j e hj
      have nb : b ≠ a := fun eb => hji (S.inj j i a ⟨by rw [← eb]; exact k1, e, hj⟩ ⟨h1, d, h2⟩)
      exact ⟨b, k1, k2, RepO.mono (fun _ _ h => h) (upd_ne nb) k3⟩
  · have o1 : ∃ e, ρ[j]? = some (Sl.o e) ∨ ρ[j]? = some (Sl.p e) := by
      rcases k2 with h | h
      · obtain ⟨e, q⟩ := (kind j).1.mp ⟨e1, h⟩; exact ⟨e, .inl q⟩
      · obtain ⟨e, q⟩ := (kind j).2.mp ⟨e1, h⟩; exact ⟨e, .inr q⟩
    have o2 : ∃ e, ρ[l]? = some (Sl.o e) ∨ ρ[l]? = some (Sl.p e) := by
      rcases k4 with h | h
      · obtain ⟨e, q⟩ := (kind l).1.mp ⟨e2, h⟩; exact ⟨e, .inl q⟩
      · obtain ⟨e, q⟩ := (kind l).2.mp ⟨e2, h⟩; exact ⟨e, .inr q⟩
    exact S.inj j l b ⟨k1, o1⟩ ⟨k3, o2⟩
def putE (i : Nat) (ds : List D) : EM Unit := fun ρ => .ok () (putO i (.lst ds) ρ)
/-- len(x), x owned -/
def lenO (i : Nat) : EM D := bindM (ownL i) fun ds => retE (.int ds.length)
theorem TD.lenO {i : Nat} : TD K mg W (tCB (rLen K) (tCons (tVar i) tNil)) (DL.lenO i) := by
  intro Hf σ ρ H S Q h
  obtain ⟨a, ds, vs, h1, h2, h3, h4, h5, h6⟩ := ownL_inv S h
  refine ⟨.ref a, h1, .ref a, vs.length, rfl, .inl ⟨vs, SqL.of h4, rfl⟩, ?_⟩
  rw [← reps_len h5]
  exact h6 _ Hf H Stp.refl S (by unfold Rep; rfl)
theorem own_same {i : Nat} {a b : Addr} (h : σ[i]? = some (some (V.ref a))) (h' : σ[i]? = some (some (V.ref b))) : b = a := by
  rw [h] at h'; cases h'; rfl
/-- x[e], x owned -/
def ixO (i : Nat) (fe : EM D) : EM D := bindM (ownS i) fun _ => bindM fe fun j => bindM (ownL i) fun ds => liftO (ixD (.lst ds) j)
theorem TD.ixO {i : Nat} {te : TE} {fe : EM D} (he : TD K mg W te fe) : TD K mg W (tOp (rIx K) (tVar i) te) (DL.ixO i fe) := by
  intro Hf σ ρ H S Q h
  obtain ⟨⟨a, d, h1, _⟩, h2⟩ := ownS_inv S h
  refine ⟨.ref a, h1, he Hf σ ρ H S _ ((Wp.bind h2).mono fun j ρ1 h3 v Hf1 H1 s1 S1 r1 => ?_)⟩
  obtain ⟨b, ds, vs, g1, g2, g3, g4, g5, g6⟩ := ownL_inv S1 h3
  cases own_same h1 g1
  obtain ⟨dz, e, h4⟩ := Wp.lift g6
  match j, e, r1 with
  | .int z, e, r1 =>
    cases rep_int r1
    obtain ⟨u, k1, k2⟩ := reps_atI g5 e
    exact .inl ⟨a, vs, z, u, rfl, rfl, SqL.of g4, k1, h4 u Hf1 H1 s1 S1 k2⟩
/-- x[e] = v, x owned -/
def doS (m : EM Unit) : SM := fun ρ => (m ρ).bind fun _ ρ1 => .ok .nx ρ1
def setIx (ds : List D) (d j : D) : Option (List D) := match j with
  | .int z => (ixN ds.length z).map fun k => ds.set k d
  | _ => none
def setE (i : Nat) (fe fv : EM D) : EM Unit := bindM fv fun d => bindM (ownS i) fun _ => bindM fe fun j => bindM (ownL i) fun ds => bindM (liftO (setIx ds d j)) fun es => putE i es
def setO (i : Nat) (fe fv : EM D) : SM := doS (setE i fe fv)
theorem reps_set : ∀ {ds : List D} {vs : List V} {k : Nat} {d : D} {v : V}, Reps K Hf ds vs → Rep K Hf d v → Reps K Hf (ds.set k d) (vs.set k v)
  | [], _, _, _, _, h, _ => by unfold Reps at h; subst h; simp [Reps]
  | e :: ds, _, 0, _, _, h, r => by
    unfold Reps at h
    obtain ⟨v, r', rfl, h1, h2⟩ := h
    exact reps_cons r h2
  | e :: ds, _, k + 1, _, _, h, r => by
    unfold Reps at h
    obtain ⟨v, r', rfl, h1, h2⟩ := h
    exact reps_cons h1 (reps_set h2 r)
theorem TSD.setO {i : Nat} {ti tv : TE} {fe fv : EM D} (he : TD K mg W ti fe) (hv : TD K mg W tv fv) : TSD K mg W (tAsg tv (gSub (tVar i) ti rSetL)) (DL.setO i fe fv) := by
  intro Hf σ ρ H S E h
  have h := Wp.rbind (show Wp K mg W (Res.bind (setE i fe fv ρ) fun _ ρ1 => .ok Fl.nx ρ1) _ from h)
  refine hv Hf σ ρ H S _ ((Wp.bind h).mono fun d ρ1 h1 v Hf1 H1 s1 S1 r1 => ?_)
  obtain ⟨⟨a, d0, k1, _⟩, h2⟩ := ownS_inv S1 h1
  refine ⟨.ref a, k1, he Hf1 σ ρ1 H1 S1 _ ((Wp.bind h2).mono fun j ρ2 h3 u Hf2 H2 s2 S2 r2 => ?_)⟩
  obtain ⟨b, ds, vs, g1, g2, g3, g4, g5, g6⟩ := ownL_inv S2 h3
  cases own_same k1 g1
  obtain ⟨es, e, h4⟩ := Wp.lift (Wp.bind g6)
  match j, e, r2 with
  | .int z, e, r2 =>
    cases rep_int r2
    unfold setIx at e
    simp only at e
    cases e1 : ixN ds.length z with
    | none => rw [e1] at e; cases e
    | some k =>
      rw [e1] at e; cases e
      refine ⟨a, vs, z, k, rfl, rfl, g4, by rw [← reps_len g5]; exact e1, ?_⟩
      obtain ⟨s3, S3⟩ := own_upd (o := .lst (vs.set k v)) (d' := .lst (ds.set k d)) S2 g1 g2 ⟨vs.set k v, upd_same, reps_set g5 (Rep.mono s2.fz r1)⟩
      exact h4 Hf2 σ _ ((s1.trans s2).trans s3) S3
theorem tyV_list {a : Addr} {vs : List V} (h : H a = some (.lst vs)) : tyV K "list" (.ref a) H := .inl ⟨rfl, vs, SqL.of h⟩
/-- x.append(e), as a statement -/
def appE (i : Nat) (fe : EM D) : EM Unit := bindM (ownL i) fun _ => bindM fe fun d => bindM (ownL i) fun ds => if ds.length ≤ 1000000 then putE i (ds ++ [d]) else fun _ => .bad
def appS (i : Nat) (fe : EM D) : SM := doS (appE i fe)
theorem TSD.appO {i : Nat} {te : TE} {fe : EM D} (he : TD K mg W te fe) : TSD K mg W (tDrop (tBM K "list" rAppend (tVar i) (tCons te tNil))) (appS i fe) := by
  intro Hf σ ρ H S E h
  obtain ⟨a, ds0, vs0, k1, _, _, k2, _, h1⟩ := ownL_inv S (Wp.rbind (show Wp K mg W (Res.bind (appE i fe ρ) fun _ ρ1 => .ok Fl.nx ρ1) _ from h))
  refine ⟨.ref a, k1, tyV_list k2, he Hf σ ρ H S _ ((Wp.bind h1).mono fun d ρ1 h2 v Hf1 H1 s1 S1 r1 => ?_)⟩
  obtain ⟨b, ds, vs, g1, g2, g3, g4, g5, g6⟩ := ownL_inv S1 h2
  cases own_same k1 g1
  by_cases hl : ds.length ≤ 1000000
  · rw [if_pos hl] at g6
    refine ⟨a, vs, v, rfl, rfl, g4, by rw [← reps_len g5]; exact big_line hl, ?_⟩
    obtain ⟨s3, S3⟩ := own_upd (o := .lst (vs ++ [v])) (d' := .lst (ds ++ [d])) S1 g1 g2 ⟨vs ++ [v], upd_same, reps_snoc g5 r1⟩
    exact g6 Hf1 σ _ (s1.trans s3) S3
  · rw [if_neg hl] at g6; exact g6.elim
/-- x.pop(e) of an owned list, 0 ≤ e -/
def popO (i : Nat) (fe : EM D) : EM D := bindM (ownL i) fun _ => bindM fe fun j => bindM (ownL i) fun ds => bindM (liftO (match j with
  | .int z => if decide (0 ≤ z) && decide (z ≤ 1000000) then (ds[z.toNat]?).map fun d => (d, ds.eraseIdx z.toNat) else none
  | _ => none)) fun p => bindM (putE i p.2) fun _ => retE p.1
theorem reps_erase : ∀ {ds : List D} {vs : List V} {k : Nat}, Reps K Hf ds vs → Reps K Hf (ds.eraseIdx k) (vs.eraseIdx k)
  | [], _, _, h => by unfold Reps at h; subst h; simp [Reps]
  | e :: ds, _, 0, h => by
    unfold Reps at h
    obtain ⟨v, r', rfl, h1, h2⟩ := h
    exact h2
  | e :: ds, _, k + 1, h => by
    unfold Reps at h
    obtain ⟨v, r', rfl, h1, h2⟩ := h
    exact reps_cons h1 (reps_erase h2)
theorem TD.popO {i : Nat} {te : TE} {fe : EM D} (he : TD K mg W te fe) : TD K mg W (tBM K "list" rPopAt (tVar i) (tCons te tNil)) (DL.popO i fe) := by
  intro Hf σ ρ H S Q h
  obtain ⟨a, ds0, vs0, k1, _, _, k2, _, h1⟩ := ownL_inv S h
  refine ⟨.ref a, k1, tyV_list k2, he Hf σ ρ H S _ ((Wp.bind h1).mono fun j ρ1 h2 v Hf1 H1 s1 S1 r1 => ?_)⟩
  obtain ⟨b, ds, vs, g1, g2, g3, g4, g5, g6⟩ := ownL_inv S1 h2
  cases own_same k1 g1
  obtain ⟨p, e, h4⟩ := Wp.lift (Wp.bind g6)
  match j, e, r1 with
  | .int z, e, r1 =>
    cases rep_int r1
    simp only at e
    split at e
    · rename_i hz
      rw [Bool.and_eq_true] at hz
      have z0 : 0 ≤ z := of_decide_eq_true hz.1
      have z1 : z ≤ 1000000 := of_decide_eq_true hz.2
      cases e1 : ds[z.toNat]? with
      | none => rw [e1] at e; cases e
      | some d =>
        rw [e1] at e; cases e
        obtain ⟨u, q1, q2⟩ := reps_get g5 e1
        have hlt : z.toNat < vs.length := (List.getElem?_eq_some_iff.mp q1).1
        refine ⟨a, vs, z, z.toNat, u, rfl, rfl, g4, by omega, by omega, ?_, q1, ?_⟩
        · have : ixN vs.length z = some z.toNat := by
            unfold ixN
            rw [if_pos z0, if_pos (by omega)]
          exact (ixN_seq this).1
        · obtain ⟨s3, S3⟩ := own_upd (o := .lst (vs.eraseIdx z.toNat)) (d' := .lst (ds.eraseIdx z.toNat)) S1 g1 g2 ⟨_, upd_same, reps_erase g5⟩
          exact h4 u Hf1 _ (s1.trans s3) S3 q2
    · cases e
/-- x != [], x == [] of an owned list -/
def neO (i : Nat) : EM D := bindM (ownL i) fun ds => bindM (liftO (neD (.lst ds) (.lst []))) fun d => retE d
theorem toPs_nil : toPs [] = some [] := by unfold toPs; rfl
theorem TD.neO {i : Nat} : TD K mg W (tOp (rNeD K) (tVar i) (tLst tNil)) (DL.neO i) := by
  intro Hf σ ρ H S Q h
  obtain ⟨a, ds, vs, h1, h2, h3, h4, h5, h6⟩ := ownL_inv S h
  obtain ⟨d, e, h7⟩ := Wp.lift (Wp.bind h6)
  refine ⟨.ref a, h1, Nat.zero_le _, fun p hp => ?_⟩
  unfold neD at e
  cases h8 : eqvD (.lst ds) (.lst []) with
  | none => rw [h8] at e; cases e
  | some b =>
    rw [h8] at e; cases e
    obtain ⟨q1, q2, e1, e2, s1, s2, rfl⟩ := eqvD_inv h8
    have n := New.fresh (o := .lst []) S.sub hp
    refine ⟨q1, q2, ?_, ?_, s1, s2, h7 _ Hf _ n.stp (n.sr S) (by unfold Rep; rfl)⟩
    · unfold toP at e1
      cases e3 : toPs ds with
      | none => rw [e3] at e1; cases e1
      | some ps =>
        rw [e3] at e1; cases e1
        have ne : a ≠ p := fun e => by rw [e, hp] at h4; cases h4
        exact Dp.lst (SqL.of (by rw [upd_ne ne]; exact h4)) (dps_of (H := upd H p (.lst [])) n.sub e3 h5)
    · unfold toP at e2
      rw [toPs_nil] at e2; cases e2
      exact Dp.lst (SqL.of upd_same) DpAll.nil
/-- x in l, l owned -/
def inO (neg : Bool) (fe : EM D) (i : Nat) : EM D := bindM fe fun x => bindM (ownL i) fun ds => liftO (if flatD x && ds.all flatD then some (.bl (if neg then !memF x ds else memF x ds)) else none)
theorem TD.inO {i : Nat} {neg : Bool} {te : TE} {fe : EM D} (he : TD K mg W te fe) : TD K mg W (tOp (rIn K neg) te (tVar i)) (DL.inO neg fe i) := by
  intro Hf σ ρ H S Q h
  refine he Hf σ ρ H S _ ((Wp.bind h).mono fun x ρ1 h2 v Hf1 H1 s1 S1 r1 => ?_)
  obtain ⟨b, ds, vs, g1, g2, g3, g4, g5, g6⟩ := ownL_inv S1 h2
  obtain ⟨d, e, h4⟩ := Wp.lift g6
  refine ⟨.ref b, g1, ?_⟩
  split at e
  · rename_i hh
    rw [Bool.and_eq_true] at hh
    cases e
    refine ⟨b, vs, rfl, .inl (SqL.of g4), flat_rep hh.1 r1, flats_rep hh.2 g5, ?_⟩
    rw [mem_rep hh.1 r1 hh.2 g5]
    exact h4 _ Hf1 H1 s1 S1 (by unfold Rep; rfl)
  · cases e

/-! ### sorted -/
def ltP (a b : PyData) : Bool := PySem.W.dataLt a b
/-- x stands before the first that is not less -/
def insD {α : Type} (le : α → α → Bool) (x : α) : List α → List α
  | [] => [x]
  | y :: ys => if le x y then x :: y :: ys else y :: insD le x ys
def isort {α : Type} (le : α → α → Bool) : List α → List α
  | [] => []
  | x :: xs => insD le x (isort le xs)
theorem insD_mid {α : Type} {le : α → α → Bool} {x : α} : ∀ {l1 l2 : List α}, (∀ y ∈ l1, le x y = false) → (∀ y ∈ l2, le x y = true) → insD le x (l1 ++ l2) = l1 ++ x :: l2
  | [], [], _, _ => rfl
  | [], y :: l2, _, h2 => by
    show insD le x (y :: l2) = _
    unfold insD
    rw [if_pos (h2 y List.mem_cons_self)]; rfl
  | y :: l1, l2, h1, h2 => by
    show insD le x (y :: (l1 ++ l2)) = _
    unfold insD
    rw [if_neg (by rw [h1 y List.mem_cons_self]; simp), insD_mid (fun z hz => h1 z (List.mem_cons_of_mem _ hz)) h2]; rfl
theorem isort_eq {α : Type} {le : α → α → Bool} (tr : ∀ a b c, le a b = true → le b c = true → le a c = true) (tot : ∀ a b, (le a b || le b a) = true) : ∀ l : List α, l.mergeSort le = isort le l
  | [] => by simp [isort]
  | x :: l => by
    obtain ⟨l1, l2, e1, e2, h⟩ := List.mergeSort_cons tr tot x l
    rw [e1]
    show _ = insD le x (isort le l)
    rw [← isort_eq tr tot l, e2]
    refine (insD_mid (fun y hy => by have := h y hy; simpa using this) fun y hy => ?_).symm
    have p := List.pairwise_mergeSort tr tot (x :: l)
    rw [e1, List.pairwise_append] at p
    exact (List.pairwise_cons.mp p.2.1).1 y hy
theorem insD_map {α β : Type} (f : α → β) (le : β → β → Bool) (x : α) : ∀ l : List α, (insD (fun a b => le (f a) (f b)) x l).map f = insD le (f x) (l.map f)
  | [] => rfl
  | y :: ys => by
    unfold insD
    by_cases h : le (f x) (f y) = true
    · simp [insD, h]
    · simp [insD, h, insD_map f le x ys]
theorem isort_map {α β : Type} (f : α → β) (le : β → β → Bool) : ∀ l : List α, (isort (fun a b => le (f a) (f b)) l).map f = isort le (l.map f)
  | [] => rfl
  | x :: l => by
    show (insD _ x (isort _ l)).map f = insD le (f x) (isort le (l.map f))
    rw [insD_map, isort_map f le l]
theorem dataLe_tr {α : Type} (k : α → PyData) : (∀ a b c, PySem.W.dataLe false k a b = true → PySem.W.dataLe false k b c = true → PySem.W.dataLe false k a c = true) ∧ ∀ a b, (PySem.W.dataLe false k a b || PySem.W.dataLe false k b a) = true :=
  let t := PySem.W.sortLe_total (PyProof.Rows.listOrd PyProof.Rows.itemOrd) false fun b => PySem.W.keyToks (k b)
  ⟨t.trans, fun a b => by rcases t.total a b with h | h <;> simp [PySem.W.dataLe, h]⟩
end
end DL

/-! The D layer, 10: sorted; rules for the text. -/
namespace DL
open PySem L2 PySem.W

def isTup1 : PyData → Bool
  | .tuple (_ :: _) => true
  | _ => false
def noTup : PyData → Bool
  | .tuple _ => false
  | .none => false
  | _ => true
/-- what sorted is asked for -/
def sortOk (ps : List PyData) : Bool := ps.all (fun p => ps.all (alike p)) && (ps.all isTup1 || ps.all noTup) && ps.all fun p => decide (p.depth ≤ 60)
theorem sortOk_alike {ps : List PyData} (h : sortOk ps = true) : AllAlike ps := by
  unfold sortOk at h
  rw [Bool.and_eq_true, Bool.and_eq_true] at h
  intro d hd d' hd'
  exact List.all_eq_true.mp (List.all_eq_true.mp h.1.1 d hd) d' hd'
theorem sortOk_able {ps : List PyData} (h : sortOk ps = true) : Sortable ps := by
  unfold sortOk at h
  rw [Bool.and_eq_true, Bool.and_eq_true, Bool.or_eq_true] at h
  rcases h.1.2 with q | q
  · refine .inl fun d hd => ?_
    have z := List.all_eq_true.mp q d hd
    match d, z with
    | .tuple (x :: r), _ => exact ⟨x, r, rfl⟩
  · refine .inr fun d hd => ?_
    have z := List.all_eq_true.mp q d hd
    cases d <;> simp [noTup] at z ⊢
theorem sortOk_depth {ps : List PyData} (h : sortOk ps = true) {p : PyData} (hp : p ∈ ps) : p.depth ≤ 60 := by
  unfold sortOk at h
  rw [Bool.and_eq_true] at h
  exact of_decide_eq_true (List.all_eq_true.mp h.2 p hp)
abbrev leP {α : Type} (x y : α × PyData) : Bool := !dataLt y.2 x.2
theorem dataLe_is {α : Type} : dataLe false (fun b : α × PyData => b.2) = leP := by
  rw [dataLe_eq]; rfl
def rSortX (K : PySem.W.Frag) : List V → Hp → VK → Prop := fun xs H Q => ∃ (a : Addr) (vs : List V) (ps : List PyData), xs = [.ref a] ∧ SqL K H a vs ∧ DpAll K H vs ps ∧ sortOk ps = true ∧
  ∀ p, H p = none → Q (.ref p) (upd H p (.lst ((isort leP (vs.zip ps)).map (·.1))))
theorem dpAll_len {K : PySem.W.Frag} {H : Hp} : ∀ {vs : List V} {ps : List PyData}, DpAll K H vs ps → vs.length = ps.length
  | _, _, .nil => rfl
  | _, _, .cons _ h => by simp [dpAll_len h]
theorem each_zip {h : Heap} : ∀ {its : List Value} {vs : List V} {ps : List PyData} {as : List Addr}, Vals vs its → ReadsAll h its ps as →
    EachIs (fun u (b : V × PyData) => RelV b.1 u) its (vs.zip ps) ∧ EachIs (fun u (b : V × PyData) => ∃ as, Reads h u b.2 as) its (vs.zip ps)
  | _, _, _, _, .nil, r => by
    cases r
    exact ⟨.nil, .nil⟩
  | _, _, _, _, .cons r t, q => by
    cases q with
    | cons q1 q2 =>
      obtain ⟨a, b⟩ := each_zip t q2
      exact ⟨.cons r a, .cons ⟨_, q1⟩ b⟩
theorem vals_each : ∀ {out : List Value} {bs : List (V × PyData)}, EachIs (fun u (b : V × PyData) => RelV b.1 u) out bs → Vals (bs.map (·.1)) out
  | _, _, .nil => .nil
  | _, _, .cons r t => .cons r (vals_each t)
theorem zip_snd {vs : List V} {ps : List PyData} (h : vs.length = ps.length) : (vs.zip ps).map (·.2) = ps := by
  rw [List.map_snd_zip]; omega
theorem cr_sortX {X : Cx} (hu : X.A.units + 64 < cLine) : CallR X (.builtin "sorted") (rSortX X.K) := by
  intro pins s σ H vs us Q I r h
  obtain ⟨a, xs, ps, rfl, hs, hd, ok, q⟩ := h
  obtain ⟨its, rv, hl, hz⟩ := I.list hs
  rw [Vals.ref1 r]
  obtain ⟨as, ra⟩ := Dp.readsAll I ps xs its hd rv
  obtain ⟨e1, e2⟩ := each_zip rv ra
  have hlen : (xs.zip ps).length = xs.length := by rw [List.length_zip, dpAll_len hd, Nat.min_self]
  have hm : (xs.zip ps).map (fun b => b.2) = ps := zip_snd (dpAll_len hd)
  refine sorted_data (enc := fun b : V × PyData => b.2) hl.isList e1 e2 (by rw [hm]; exact sortOk_alike ok) (by rw [hm]; exact sortOk_able ok) (by rw [hlen]; exact hz) (fun b hb => ?_) fun out ho eo => ?_
  · have : b.2 ∈ ps := by rw [← hm]; exact List.mem_map.mpr ⟨b, hb, rfl⟩
    have := sortOk_depth ok this
    omega
  · obtain ⟨ep, he'⟩ := PyProof.Rows.sortedAll_at s.heap its out.toArray
    rw [isort_eq (dataLe_tr _).1 (dataLe_tr _).2, dataLe_is] at eo
    have hl2 : ((isort leP (xs.zip ps)).map (·.1)).length ≤ sizeLine := by
      have := eo.length
      rw [List.length_map, ← this, ho, hlen]
      exact hz
    exact ⟨.ref _, upd H (s.heap.objs.size + 1) (.lst ((isort leP (xs.zip ps)).map (·.1))), I.laid (t' := s.toks) (fun _ _ => PyProof.Rows.sortedAll_old) (Nat.le_succ _) ⟨hl2, out, ep, vals_each eo, he'⟩, rfl, q _ (I.hok.fresh (Nat.le_succ _))⟩
/-- fewer than two items -/
def rSort1 (K : PySem.W.Frag) : List V → Hp → VK → Prop := fun xs H Q => ∃ (a : Addr) (vs : List V), xs = [.ref a] ∧ SqL K H a vs ∧ vs.length < 2 ∧ ∀ p, H p = none → Q (.ref p) (upd H p (.lst vs))
theorem perm_short {α : Type} {l m : List α} (h : l.Perm m) (hm : m.length < 2) : l = m := by
  match m, hm with
  | [], _ => exact List.Perm.eq_nil h
  | [x], _ => exact List.perm_singleton.mp h
theorem cr_sort1 {X : Cx} : CallR X (.builtin "sorted") (rSort1 X.K) := by
  intro pins s σ H vs us Q I r h
  obtain ⟨a, xs, rfl, hs, h2, q⟩ := h
  obtain ⟨its, rv, hl, hz⟩ := I.list hs
  rw [Vals.ref1 r]
  have h2' : its.length < 2 := by rw [← rv.length]; exact h2
  refine SrtO.sorted_ord (ltv := fun _ _ => false) ⟨fun _ _ h => (by cases h), fun _ _ _ _ _ => rfl⟩ hl.isList (by rw [← rv.length]; exact hz) (fun h3 => by omega) fun out _ hb => ?_
  have e := perm_short hb.perm h2'
  subst e
  obtain ⟨ep, he'⟩ := PyProof.Rows.sortedAll_at s.heap out out.toArray
  exact ⟨.ref _, upd H (s.heap.objs.size + 1) (.lst xs), I.laid (t' := s.toks) (fun _ _ => PyProof.Rows.sortedAll_old) (Nat.le_succ _) ⟨hz, out, ep, rv, he'⟩, rfl, q _ (I.hok.fresh (Nat.le_succ _))⟩
def rSortA (K : PySem.W.Frag) : List V → Hp → VK → Prop := fun xs H Q => rSort1 K xs H Q ∨ rSortX K xs H Q
theorem CallR.or {X : Cx} {f : Value} {r r' : List V → Hp → VK → Prop} (h : CallR X f r) (h' : CallR X f r') : CallR X f fun xs H Q => r xs H Q ∨ r' xs H Q := by
  intro pins s σ H xs us Q I rs q
  rcases q with q | q
  · exact h pins s σ H xs us Q I rs q
  · exact h' pins s σ H xs us Q I rs q
theorem cr_sortA {X : Cx} (hu : X.A.units + 64 < cLine) : CallR X (.builtin "sorted") (rSortA X.K) := CallR.or cr_sort1 (cr_sortX hu)

/-- data as the model's own data (None where it is none) -/
def pOf (d : D) : PyData := (toP d).getD .none
/-- x stands ahead of y, or with it -/
def leD' (x y : D) : Bool := !dataLt (pOf y) (pOf x)
def sortF : List D → Option D
  | [.lst ds] => if ds.length < 2 then some (.lst ds) else match toPs ds with
    | some ps => if sortOk ps then some (.lst (isort leD' ds)) else none
    | none => none
  | _ => none
section
variable {K : PySem.W.Frag} {Hf H : Hp}
theorem toPs_map : ∀ {ds : List D} {ps : List PyData}, toPs ds = some ps → ps = ds.map pOf
  | [], _, e => by unfold toPs at e; cases e; rfl
  | d :: ds, _, e => by
    unfold toPs at e
    cases e1 : toP d with
    | none => rw [e1] at e; cases e
    | some p =>
      cases e2 : toPs ds with
      | none => rw [e1, e2] at e; cases e
      | some qs =>
        rw [e1, e2] at e; cases e
        rw [List.map_cons, toPs_map e2]
        unfold pOf
        rw [e1]; rfl
/-- rows of (value, data) sorted by the data: the values stand for the sorted data -/
theorem reps_zip : ∀ {ds : List D} {vs : List V}, Reps K Hf ds vs → ∀ b ∈ vs.zip ds, Rep K Hf b.2 b.1
  | [], vs, _, b, h => by simp at h
  | d :: ds, vs, r, b, h => by
    unfold Reps at r
    obtain ⟨v, r', rfl, h1, h2⟩ := r
    rw [List.zip_cons_cons] at h
    rcases List.mem_cons.mp h with e | h
    · subst e; exact h1
    · exact reps_zip h2 b h
theorem reps_of_pairs : ∀ {bs : List (V × D)}, (∀ b ∈ bs, Rep K Hf b.2 b.1) → Reps K Hf (bs.map (·.2)) (bs.map (·.1))
  | [], _ => by simp [Reps]
  | b :: bs, h => reps_cons (h b List.mem_cons_self) (reps_of_pairs fun c hc => h c (List.mem_cons_of_mem _ hc))
theorem mem_insD {α : Type} {le : α → α → Bool} {x y : α} : ∀ {l : List α}, y ∈ insD le x l → y = x ∨ y ∈ l
  | [], h => by simp [insD] at h; exact .inl h
  | z :: l, h => by
    unfold insD at h
    split at h
    · rcases List.mem_cons.mp h with e | h
      · exact .inl e
      · exact .inr h
    · rcases List.mem_cons.mp h with e | h
      · exact .inr (e ▸ List.mem_cons_self)
      · rcases mem_insD h with e | h
        · exact .inl e
        · exact .inr (List.mem_cons_of_mem _ h)
theorem mem_isort {α : Type} {le : α → α → Bool} {y : α} : ∀ {l : List α}, y ∈ isort le l → y ∈ l
  | [], h => h
  | x :: l, h => by
    rcases mem_insD (show y ∈ insD le x (isort le l) from h) with e | h
    · exact e ▸ List.mem_cons_self
    · exact List.mem_cons_of_mem _ (mem_isort h)
theorem reps_sort {ds : List D} {vs : List V} (r : Reps K Hf ds vs) : Reps K Hf (isort leD' ds) ((isort leP (vs.zip (ds.map pOf))).map (·.1)) := by
  have hl := reps_len r
  have e1 : isort leD' ds = (isort (fun a b : V × D => leD' a.2 b.2) (vs.zip ds)).map (·.2) := by
    rw [isort_map (fun b : V × D => b.2) leD', List.map_snd_zip (by omega)]
  have e2 : (isort leP (vs.zip (ds.map pOf))).map (·.1) = (isort (fun a b : V × D => leD' a.2 b.2) (vs.zip ds)).map (·.1) := by
    have e3 : vs.zip (ds.map pOf) = (vs.zip ds).map fun b => (b.1, pOf b.2) := by rw [List.zip_map_right]; rfl
    have e4 : isort leP ((vs.zip ds).map fun b => (b.1, pOf b.2)) = (isort (fun a b : V × D => leD' a.2 b.2) (vs.zip ds)).map fun b => (b.1, pOf b.2) :=
      (isort_map (fun b : V × D => (b.1, pOf b.2)) leP (vs.zip ds)).symm
    rw [e3, e4, List.map_map]; rfl
  rw [e1, e2]
  exact reps_of_pairs fun b hb => reps_zip r b (mem_isort hb)
theorem rdc_sort : RDCF K (rSortA K) sortF := by
  intro Hf H xs ds dz s r e Q k
  match ds, e, r with
  | [.lst es], e, r =>
    obtain ⟨v, rfl, r1⟩ := reps1 r
    obtain ⟨a, vs, rfl, g1, g2⟩ := rep_lst r1
    simp only [sortF] at e
    split at e
    · rename_i h2
      cases e
      exact .inl ⟨a, vs, rfl, rdSeq s g1, by rw [← reps_len g2]; exact h2, fun p hp => k p _ _ (New.fresh s hp) hp (none_sub s hp) ⟨vs, upd_same, g2⟩⟩
    · cases e1 : toPs es with
      | none => rw [e1] at e; cases e
      | some ps =>
        rw [e1] at e
        simp only at e
        split at e
        · rename_i ok
          cases e
          refine .inr ⟨a, vs, ps, rfl, rdSeq s g1, dps_of s e1 g2, ok, fun p hp => k p _ _ (New.fresh s hp) hp (none_sub s hp) ⟨_, upd_same, ?_⟩⟩
          rw [toPs_map e1]
          exact reps_sort g2
        · cases e
end

/-! ### rules for the text -/
section
variable {X : Cx} {W : XK} {a b c e : Expr} {fa fb fc fe : EM D} {ba bb : EM Bool} {pos pos' : Pos} {es : List Expr} {st : Stmt} {sts : List Stmt} {f g : SM} {i j : Nat} {x y : Str} {fr : EM (List D)} {p : Pos} {id T : String}
theorem d_callB {r : List V → Hp → VK → Prop} {g : List D → Option D} (hc : CallR X (.builtin id) r) (hr : RDC X.K r g) (hg : Gl X x) (hm : X.mg x = none) (hv : bootBuiltins x = some (.builtin id)) (ha : PAD X W (e :: es) fr)
    (he : starEach (e :: es) X.env = (false, eval e X.env) :: starEach es X.env) (hpl : (backTo pos (starEach es X.env)).any (·.1) = false) (hn : x ≠ "__name__" := by decide) (hdb : (x == ("__debug__" : Str)) = false := by decide) :
    PD X W (.Call (.Name x p) (e :: es) [] pos) (callB g fr) := let ⟨_, a1, a2⟩ := ha.ex; ⟨_, pe_callB hc hg hm hv a1 hn hdb he hpl, TD.callB hr a2⟩
theorem f_callB {r : List V → Hp → VK → Prop} {g : List D → Option D} (hc : CallR X (.builtin id) r) (hr : RDCF X.K r g) (hg : Gl X x) (hm : X.mg x = none) (hv : bootBuiltins x = some (.builtin id)) (ha : PAD X W (e :: es) fr)
    (he : starEach (e :: es) X.env = (false, eval e X.env) :: starEach es X.env) (hpl : (backTo pos (starEach es X.env)).any (·.1) = false) (hn : x ≠ "__name__" := by decide) (hdb : (x == ("__debug__" : Str)) = false := by decide) :
    PF X W (.Call (.Name x p) (e :: es) [] pos) (callB g fr) := let ⟨_, a1, a2⟩ := ha.ex; ⟨_, pe_callB hc hg hm hv a1 hn hdb he hpl, TF.callB hr a2⟩
theorem d_callTy {r : List V → Hp → VK → Prop} {g : List D → Option D} (hc : CallR X (.type T) r) (hr : RDC X.K r g) (hg : Gl X x) (hm : X.mg x = none) (hv : bootBuiltins x = some (.type T)) (ha : PAD X W (e :: es) fr)
    (he : starEach (e :: es) X.env = (false, eval e X.env) :: starEach es X.env) (hpl : (backTo pos (starEach es X.env)).any (·.1) = false) (hn : x ≠ "__name__" := by decide) (hdb : (x == ("__debug__" : Str)) = false := by decide) :
    PD X W (.Call (.Name x p) (e :: es) [] pos) (callB g fr) := let ⟨_, a1, a2⟩ := ha.ex; ⟨_, pe_callTy hc hg hm hv a1 hn hdb he hpl, TD.callB hr a2⟩
theorem f_callTy {r : List V → Hp → VK → Prop} {g : List D → Option D} (hc : CallR X (.type T) r) (hr : RDCF X.K r g) (hg : Gl X x) (hm : X.mg x = none) (hv : bootBuiltins x = some (.type T)) (ha : PAD X W (e :: es) fr)
    (he : starEach (e :: es) X.env = (false, eval e X.env) :: starEach es X.env) (hpl : (backTo pos (starEach es X.env)).any (·.1) = false) (hn : x ≠ "__name__" := by decide) (hdb : (x == ("__debug__" : Str)) = false := by decide) :
    PF X W (.Call (.Name x p) (e :: es) [] pos) (callB g fr) := let ⟨_, a1, a2⟩ := ha.ex; ⟨_, pe_callTy hc hg hm hv a1 hn hdb he hpl, TF.callB hr a2⟩
/-- a built-in type as a value; a module's constant -/
theorem d_ty {n : String} (hg : Gl X x) (hm : X.mg x = none) (hv : bootBuiltins x = some (.type n)) (hn : x ≠ "__name__" := by decide) (hd : (x == ("__debug__" : Str)) = false := by decide) : PD X W (.Name x pos) (retE (.ty n)) :=
  ⟨_, pe_bltn (v := .ty n) hg hm hv rfl hn hd, TD.con fun _ => by unfold Rep; rfl⟩
theorem d_glob {u : Value} {d : D} {v : V} (hg : Gl X x) (hm : X.mg x = some u) (r : RelV v u) (rd : ∀ Hf, Rep X.K Hf d v) (hd : (x == ("__debug__" : Str)) = false := by decide) : PD X W (.Name x pos) (retE d) := ⟨_, pe_glob hg hm r hd, TD.con rd⟩
theorem d_isiT {tp : Expr} (ns : List String) (hg : Gl X "isinstance") (hm : X.mg "isinstance" = none) (hv : bootBuiltins "isinstance" = some (.builtin "isinstance")) (ha : PD X W a fa) (ht : PE X tp (tTup (tTys ns)))
    (hs1 : starEach [a, tp] X.env = (false, eval a X.env) :: starEach [tp] X.env) (hs2 : starEach [tp] X.env = (false, eval tp X.env) :: starEach [] X.env) (hpl : (backTo pos (starEach [tp] X.env)).any (·.1) = false) :
    PD X W (.Call (.Name "isinstance" p) [a, tp] [] pos) (isiTE ns fa) := let ⟨_, a1, a2⟩ := ha.ex; ⟨_, pe_callB call_isiT hg hm hv (pa_cons a1 (pa_cons ht pa_nil hs2) hs1) (by decide) (by decide) hs1 hpl, TD.isiT ns a2⟩
theorem pa_tys_nil : PA X [] (tTys []) := pa_nil
theorem pa_tys {n : String} {ns : List String} (hg : Gl X x) (hm : X.mg x = none) (hv : bootBuiltins x = some (.type n)) (hr : PA X es (tTys ns)) (hs : starEach (.Name x pos :: es) X.env = (false, eval (.Name x pos) X.env) :: starEach es X.env)
    (hn : x ≠ "__name__" := by decide) (hd : (x == ("__debug__" : Str)) = false := by decide) : PA X (.Name x pos :: es) (tTys (n :: ns)) := pa_cons (pe_bltn (v := .ty n) hg hm hv rfl hn hd) hr hs
theorem d_ix (hu : X.A.units + 64 < cLine) (ha : PD X W a fa) (hb : PD X W b fb) (hs : PlainIx b) : PD X W (.Subscript a b pos) (bin2 ixD fa fb) := let ⟨_, a1, a2⟩ := ha.ex; let ⟨_, b1, b2⟩ := hb.ex; ⟨_, pe_ix (ix_all hu) a1 b1 hs, TD.op rd_ix a2 b2⟩
structure POD (X : Cx) (W : XK) (e : Option Expr) (f : EM (Option Int)) : Prop where
  ex : ∃ t, PO X e t ∧ TOD X.K X.mg W t f
theorem od_none : POD X W none (retE none) := ⟨_, po_none, TOD.none⟩
theorem od_some (h : PD X W e fe) : POD X W (some e) (partE fe) := let ⟨_, a1, a2⟩ := h.ex; ⟨_, po_some a1, TOD.some a2⟩
theorem d_sl {lo hi : Option Expr} {fl fh : EM (Option Int)} {p2 : Pos} (he : PD X W e fe) (hl : POD X W lo fl) (hh : POD X W hi fh) : PD X W (.Subscript e (.Slice lo hi none p2) pos) (slE fe fl fh) :=
  let ⟨_, a1, a2⟩ := he.ex; let ⟨_, b1, b2⟩ := hl.ex; let ⟨_, c1, c2⟩ := hh.ex; ⟨_, pe_slice sl_X a1 b1 c1, TD.sl a2 b2 c2⟩
theorem d_revL {k : Nat} {p1 p2 p3 : Pos} (he : PD X W e fe) : PD X W (.Subscript e (.Slice none none (some (.UnaryOp .USub (.Constant (.int 1) k p1) p2)) p3) pos) (un1 revD fe) := let ⟨_, a1, a2⟩ := he.ex; ⟨_, pe_revL a1, TD.revL a2⟩
theorem d_tup {k} (ha : PAD X W es fr) : PD X W (.Tuple es k pos) (tupE fr) := let ⟨_, a1, a2⟩ := ha.ex; ⟨_, pe_tupX a1, TD.tup a2⟩
theorem f_lst (ha : PAD X W es fr) : PF X W (.List es pos) (lstE fr) := let ⟨_, a1, a2⟩ := ha.ex; ⟨_, pe_lst a1, TF.lst a2⟩
/-! what is walked -/
variable {tg it : Expr}
theorem i_lst (he : PD X W it fe) : PID X W tg it (lstI fe) := let ⟨_, a1, a2⟩ := he.ex; ⟨_, pi_list a1, TID.lst a2⟩
theorem i_tup (he : PD X W it fe) : PID X W tg it (tupI fe) := let ⟨_, a1, a2⟩ := he.ex; ⟨_, pi_tup a1, TID.tup a2⟩
theorem i_rng1 (hg : Gl X "range") (hm : X.mg "range" = none) (ha : PAD X W [a] fr) (hs : starEach [a] X.env = [(false, eval a X.env)]) : PID X W tg (.Call (.Name "range" p) [a] [] pos) (rng1I fr) := let ⟨_, a1, a2⟩ := ha.ex; ⟨_, pi_range1 hg hm a1 hs, TID.rng1 a2⟩
theorem i_rng2 (hg : Gl X "range") (hm : X.mg "range" = none) (ha : PAD X W [a, b] fr) (hs : starEach [a, b] X.env = [(false, eval a X.env), (false, eval b X.env)]) (hs2 : starEach [b] X.env = [(false, eval b X.env)]) :
    PID X W tg (.Call (.Name "range" p) [a, b] [] pos) (rng2I fr) := let ⟨_, a1, a2⟩ := ha.ex; ⟨_, pi_range2 hg hm a1 hs hs2, TID.rng2 a2⟩
theorem i_enum {elts : List Expr} {kk : Nat} {tpos : Pos} (hg : Gl X "enumerate") (hm : X.mg "enumerate" = none) (ha : PAD X W [a] fr) (hs : starEach [a] X.env = [(false, eval a X.env)]) :
    PID X W (.Tuple elts kk tpos) (.Call (.Name "enumerate" p) [a] [] pos) (enumI fr) := let ⟨_, a1, a2⟩ := ha.ex; ⟨_, pi_enum hg hm a1 hs, TID.enum a2⟩
theorem i_zip {elts : List Expr} {kk : Nat} {tpos : Pos} (hg : Gl X "zip") (hm : X.mg "zip" = none) (ha : PAD X W [a, b] fr) (hs : starEach [a, b] X.env = (false, eval a X.env) :: starEach [b] X.env) (hpl : (backTo pos (starEach [b] X.env)).any (·.1) = false) :
    PID X W (.Tuple elts kk tpos) (.Call (.Name "zip" p) [a, b] [] pos) (zipI fr) := let ⟨_, a1, a2⟩ := ha.ex; ⟨_, RZ.pi_zipA hg hm a1 hs hpl, TID.zip a2⟩
/-! owned lists -/
theorem d_lenO (i : Nat) {p2 : Pos} (hN : X.N[i]? = some y) (hv : Vis X.env.scope y) (hg : Gl X "len") (hm : X.mg "len" = none) (hb : bootBuiltins "len" = some (.builtin "len"))
    (hs : starEach [.Name y p2] X.env = (false, eval (.Name y p2) X.env) :: starEach [] X.env) (hpl : (backTo pos (starEach [] X.env)).any (·.1) = false) (hd : (y == ("__debug__" : Str)) = false := by decide) (hcd : (y == ("__classdict__" : Str)) = false := by decide) :
    PD X W (.Call (.Name "len" p) [.Name y p2] [] pos) (lenO i) := ⟨_, pe_callB call_len hg hm hb (pa_cons (pe_var hN hv hd hcd) pa_nil hs) (by decide) (by decide) hs hpl, TD.lenO⟩
theorem d_ixO (i : Nat) {p2 : Pos} (hN : X.N[i]? = some y) (hv : Vis X.env.scope y) (hb : PD X W b fb) (hs : PlainIx b) (hd : (y == ("__debug__" : Str)) = false := by decide) (hcd : (y == ("__classdict__" : Str)) = false := by decide) :
    PD X W (.Subscript (.Name y p2) b pos) (ixO i fb) := let ⟨_, b1, b2⟩ := hb.ex; ⟨_, pe_ix ix_seq (pe_var hN hv hd hcd) b1 hs, TD.ixO b2⟩
theorem s_setO (i : Nat) {p2 : Pos} (hN : X.N[i]? = some y) (hv : Vis X.env.scope y) (hb : PD X W b fb) (he : PD X W e fe)
    (ha : ∀ v, assign (.Subscript (.Name y p2) b pos) X.env v = (do
      let ov ← holding [v] (eval (.Name y p2) X.env)
      let iv ← holding [v, ov] (eval b X.env)
      standAt pos
      holding [v, ov, iv] (setItem ov iv v)
      release [v, ov, iv] []))
    (hs : swapsWithSole [.Subscript (.Name y p2) b pos] e pos'.line X.env = pure false) (hw : swappedStores [.Subscript (.Name y p2) b pos] e X.env = pure none) (h1 : (assignEach [.Subscript (.Name y p2) b pos] X.env).map (·.2) = [assign (.Subscript (.Name y p2) b pos) X.env])
    (hd : (y == ("__debug__" : Str)) = false := by decide) (hcd : (y == ("__classdict__" : Str)) = false := by decide) :
    PSD X W (.Assign [.Subscript (.Name y p2) b pos] e pos') (setO i fb fe) := let ⟨_, b1, b2⟩ := hb.ex; let ⟨_, e1, e2⟩ := he.ex; ⟨_, ps_asg e1 (pg_sub (pe_var hN hv hd hcd) b1 set_list ha) hs hw h1, TSD.setO b2 e2⟩
theorem s_appO (i : Nat) {p2 p3 p4 : Pos} (hN : X.N[i]? = some y) (hv : Vis X.env.scope y) (he : PD X W e fe) (hbase : attributeBase (.Name y p2) "append" X.env (eval (.Name y p2) X.env) = eval (.Name y p2) X.env)
    (hfew : ((backTo p4 (starEach [e] X.env)).all (fun x => !x.1) && (backToKw p4 (keywordEach [] X.env)).all (fun x => x.1.isSome) && decide (([e] : List Expr).length + ([] : List Keyword).length + (if ([] : List Keyword).isEmpty then 0 else 1) < 30)) = true)
    (hline : (p3.endLine == p4.line) = true) (hs : starEach [e] X.env = (false, eval e X.env) :: starEach [] X.env) (hplain : (backTo p4 (starEach [] X.env)).any (·.1) = false)
    (hsw : swapsWith (.Call (.Attribute (.Name y p2) "append" p3) [e] [] p4) none pos.line X.env = pure false) (hd : (y == ("__debug__" : Str)) = false := by decide) (hcd : (y == ("__classdict__" : Str)) = false := by decide) :
    PSD X W (.Expr (.Call (.Attribute (.Name y p2) "append" p3) [e] [] p4) pos) (appS i fe) :=
  let ⟨_, e1, e2⟩ := he.ex; ⟨_, ps_expr (pe_bm PySem.F.plainAttrs_list PySem.F.slot_list_append PySem.F.type_list_append mt_append (pe_var hN hv hd hcd) (pa_cons e1 pa_nil hs) hbase hfew hline hs hplain) hsw, TSD.appO e2⟩
theorem d_popO (i : Nat) {p2 p3 p4 : Pos} (hN : X.N[i]? = some y) (hv : Vis X.env.scope y) (he : PD X W e fe) (hbase : attributeBase (.Name y p2) "pop" X.env (eval (.Name y p2) X.env) = eval (.Name y p2) X.env)
    (hfew : ((backTo p4 (starEach [e] X.env)).all (fun x => !x.1) && (backToKw p4 (keywordEach [] X.env)).all (fun x => x.1.isSome) && decide (([e] : List Expr).length + ([] : List Keyword).length + (if ([] : List Keyword).isEmpty then 0 else 1) < 30)) = true)
    (hline : (p3.endLine == p4.line) = true) (hs : starEach [e] X.env = (false, eval e X.env) :: starEach [] X.env) (hplain : (backTo p4 (starEach [] X.env)).any (·.1) = false)
    (hd : (y == ("__debug__" : Str)) = false := by decide) (hcd : (y == ("__classdict__" : Str)) = false := by decide) :
    PD X W (.Call (.Attribute (.Name y p2) "pop" p3) [e] [] p4) (popO i fe) :=
  let ⟨_, e1, e2⟩ := he.ex; ⟨_, pe_bm PySem.F.plainAttrs_list PySem.F.slot_list_pop PySem.F.type_list_pop mt_popAt (pe_var hN hv hd hcd) (pa_cons e1 pa_nil hs) hbase hfew hline hs hplain, TD.popO e2⟩
theorem d_neO (i : Nat) {p2 p3 : Pos} (hu : X.A.units + 64 < cLine) (hN : X.N[i]? = some y) (hv : Vis X.env.scope y) (hd : (y == ("__debug__" : Str)) = false := by decide) (hcd : (y == ("__classdict__" : Str)) = false := by decide) :
    PD X W (.Compare (.Name y p2) [.NotEq] [.List [] p3] pos) (neO i) := ⟨_, pe_cmpR (op_neD hu) (pe_var hN hv hd hcd) (pe_lst pa_nil) (nomark _), TD.neO⟩
theorem b_neO (i : Nat) {p2 p3 : Pos} (hu : X.A.units + 64 < cLine) (hN : X.N[i]? = some y) (hv : Vis X.env.scope y) (hd : (y == ("__debug__" : Str)) = false := by decide) (hcd : (y == ("__classdict__" : Str)) = false := by decide) :
    PB X W (.Compare (.Name y p2) [.NotEq] [.List [] p3] pos) (testE (neO i)) := ⟨_, pt_cmpR (op_neD hu) (pe_var hN hv hd hcd) (pe_lst pa_nil) (nomark _), TB.test TD.neO⟩
end
end DL

/-! The D layer, 11: passing on, reversed tuples, ranges as values, walks of either kind, sets of ints. -/
namespace DL
open PySem L2 PySem.W PySem.Calls PyProof.Rows

section
variable {P : Program} {w : World} {K : PySem.W.Frag} {mg : Str → Option Value} {base : Heap} {N : List Str} {qual : Str} {sc : Scope} {f : Addr} {cdv : Value} {A : Around} {outer : List Env} {s : Shared} {H : Hp} {E : XK}
theorem takesF : Takes (cxOf (L2.CX P w) P w K mg base N qual sc f cdv A outer s H E) (fun cls d _ H' => E cls d H') := takes_of rfl rfl rfl rfl
theorem passF : Passes (L2.CX P w) (cxOf (L2.CX P w) P w K mg base N qual sc f cdv A outer s H E) E := passes_call takesF (fun _ _ _ _ h => h)
theorem ownF : PassesOwn (model P w) (cxOf (L2.CX P w) P w K mg base N qual sc f cdv A outer s H E).A (cxOf (L2.CX P w) P w K mg base N qual sc f cdv A outer s H E).env (cxOf (L2.CX P w) P w K mg base N qual sc f cdv A outer s H E).xe := passes_of rfl
end
theorem passL {X : Cx} : Passes (L2.CX X.prog X.w) X E00 := passes_call (takes0 (X := X)) (fun _ _ _ _ h => h)
theorem bb_len : bootBuiltins "len" = some (.builtin "len") := boot_len
theorem bb_isinstance : bootBuiltins "isinstance" = some (.builtin "isinstance") := boot_isinstance
theorem bb_all : bootBuiltins "all" = some (.builtin "all") := boot_all
theorem bb_any : bootBuiltins "any" = some (.builtin "any") := boot_any
theorem bb_sorted : bootBuiltins "sorted" = some (.builtin "sorted") := boot_sorted
theorem bb_tuple : bootBuiltins "tuple" = some (.type "tuple") := boot_tuple
theorem bb_list : bootBuiltins "list" = some (.type "list") := boot_list
theorem bb_int : bootBuiltins "int" = some (.type "int") := boot_int
theorem bb_bool : bootBuiltins "bool" = some (.type "bool") := boot_bool
theorem bb_str : bootBuiltins "str" = some (.type "str") := boot_str
theorem bb_set : bootBuiltins "set" = some (.type "set") := boot_set
theorem bb_dict : bootBuiltins "dict" = some (.type "dict") := boot_dict
theorem bb_range : bootBuiltins "range" = some (.type "range") := boot_range

section
variable {X : Cx} {W : XK} {a b c e : Expr} {fa fb fc fe : EM D} {pos : Pos} {K : PySem.W.Frag} {mg : Str → Option Value} {Hf H : Hp}
theorem s_retN : PSD X W (.Return none pos) retNS := ⟨_, ps_retN, TSD.retN⟩
end

/-! ### x[::-1] of a tuple or a list -/
section
variable {prog : Program} {w : World} {A : Around} {E : Value → Shared → Prop} {s : Shared}
theorem adjRev (n : Nat) : Builtin.Slice.sliceAdjust none none (-1) (n : Int) = ((n : Int) - 1, -1) := rfl
theorem plcRev (n : Nat) : Builtin.Slice.slicePlaces ((n : Int) - 1) (-1) (-1) = n := by
  unfold Builtin.Slice.slicePlaces
  rw [if_neg (by decide)]
  by_cases h : (n : Int) - 1 > -1
  · rw [if_pos h, show (-(-1 : Int)) = 1 from rfl, Int.ediv_one]; omega
  · rw [if_neg h]; omega
theorem applRev {sl : Addr} {u : Tok} {n : Nat} {Q : Int × Int × Nat → Shared → Prop} (hs : s.heap.IsSliceOf sl .none .none (.int (-1) u)) (h : Q ((n : Int) - 1, -1, n) s) :
    wpAny (model prog w) A (Builtin.Slice.sliceApplied (.ref sl) (pure (n : Int))) Q E s := by
  obtain ⟨o1, g1, _, g2⟩ := id hs
  unfold Builtin.Slice.sliceApplied Builtin.Slice.sliceFields
  refine wpAny_bind (wpAny_bind (wpAny_field g1 g2 (x := .none) rfl (wpAny_bind (wpAny_field g1 g2 (x := .none) rfl (wpAny_bind (wpAny_field g1 g2 (x := .int (-1) u) rfl (wpAny_pure ?_)))))))
  refine wpAny_bind (slicePart_int ?_)
  show wpAny _ _ (if ((-1 : Int) == 0) = true then _ else _) _ _ s
  rw [if_neg (by decide)]
  refine wpAny_bind (slicePart_none (wpAny_bind (slicePart_none (wpAny_bind (wpAny_pure ?_)))))
  show wpAny _ _ (match Builtin.Slice.sliceAdjust none none (-1) (n : Int) with | (i, j) => pure (i, (-1 : Int), Builtin.Slice.slicePlaces i j (-1))) _ _ s
  rw [adjRev n]
  show wpAny _ _ (pure ((n : Int) - 1, (-1 : Int), Builtin.Slice.slicePlaces ((n : Int) - 1) (-1) (-1))) _ _ s
  rw [plcRev n]
  exact wpAny_pure h
theorem fm_congr {α β : Type} {f g : α → Option β} : ∀ {l : List α}, (∀ k ∈ l, f k = g k) → l.filterMap f = l.filterMap g
  | [], _ => rfl
  | a :: l, h => by rw [List.filterMap_cons, List.filterMap_cons, h a List.mem_cons_self, fm_congr fun k hk => h k (List.mem_cons_of_mem _ hk)]
theorem filt_rev (l : List Value) : ∀ n, n = l.length → (List.range n).filterMap (fun k => l[n - 1 - k]?) = l.reverse := by
  intro n hn
  subst hn
  apply List.ext_getElem?
  intro i
  have e : (List.range l.length).filterMap (fun k => l[l.length - 1 - k]?) = (List.range l.length).map fun k => l.getD (l.length - 1 - k) .none := by
    rw [← List.filterMap_eq_map]
    refine fm_congr fun k hk => ?_
    have hk' := List.mem_range.mp hk
    have hlt : l.length - 1 - k < l.length := by omega
    show l[l.length - 1 - k]? = some (l.getD (l.length - 1 - k) .none)
    rw [List.getD_eq_getElem?_getD, List.getElem?_eq_getElem hlt]; rfl
  rw [e, List.getElem?_map]
  by_cases hi : i < l.length
  · have hlt : l.length - 1 - i < l.length := by omega
    rw [List.getElem?_range hi, List.getElem?_reverse hi, List.getElem?_eq_getElem hlt, Option.map_some, List.getD_eq_getElem?_getD, List.getElem?_eq_getElem hlt]; rfl
  · rw [List.getElem?_eq_none (by simp; omega), List.getElem?_eq_none (by simp; omega)]; rfl
theorem pickRev (xs : Array Value) : ((List.range xs.size).filterMap fun (k : Nat) => xs[((xs.size : Int) - 1 + (k : Int) * -1).toNat]?).toArray = xs.toList.reverse.toArray := by
  rw [← filt_rev xs.toList xs.size (by simp)]
  congr 1
  refine fm_congr fun k hk => ?_
  have hk' := List.mem_range.mp hk
  have : ((xs.size : Int) - 1 + (k : Int) * -1).toNat = xs.size - 1 - k := by omega
  rw [this, Array.getElem?_toList]
theorem getRevT {t sl : Addr} {items : Array Value} {u : Tok} {Q : Value → Shared → Prop} (ht : IsTup s.heap t items) (hs : s.heap.IsSliceOf sl .none .none (.int (-1) u))
    (h : Q (.ref s.heap.objs.size) { s with heap := s.heap.push { cls := .type "tuple", data := .seq items.toList.reverse.toArray } }) (hz : items.size ≤ sizeLine) : wpAny (model prog w) A (getItem (.ref t) (.ref sl)) Q E s := by
  have room : sizeOk (.seq items.toList.reverse.toArray) := by show items.toList.reverse.toArray.size ≤ sizeLine; simpa using hz
  obtain ⟨o1, g1, g0, g2⟩ := id hs
  unfold getItem
  try with_reducible refine wpAny_holding ?_
  first | refine wpAny_bind (wpAny_pure ?_) | skip
  refine wpAny_bind (wpAny_sequenceKey ht.typeIs (by decide) ?_)
  refine wpAny_bind (wpAny_callSpecial?_slot (name := Str.ofString "__getitem__") ht.typeIs slot_tuple_getitem (wpAny_call_entry slot_tuple_getitem ht.typeIs entry_tuple_getitem ?_ (args_tuple_getitem _ _)))
  show wpAny _ _ (Builtin.Tuple.tupleItemsOf (.ref t) >>= _) _ _ s
  refine wpAny_bind (tupleItemsOf_ ht (wpAny_bind (wpAny_typeOf (T := "slice") ⟨o1, g1, g0⟩ ?_)))
  rw [if_pos (by decide)]
  refine wpAny_bind (applRev hs ?_)
  show wpAny _ _ (if (((items.size : Int) - 1) == 0 && (-1 : Int) == 1 && items.size == items.size) = true then _ else _) _ _ s
  rw [if_neg (by simp), pickRev items]
  first
    | exact wpAny_bind (m := Builtin.Tuple.tupleExact _) (wpAny_newObj_type (wpAny_pure ⟨_, rfl, wpAny_pure h⟩) room)
    | exact wpAny_bind (m := Builtin.Tuple.tupleExact _) (wpAny_newObj_type (wpAny_bind (wpAny_pure (wpAny_pure ⟨_, rfl, wpAny_pure h⟩))) room)
    | exact wpAny_bind (wpAny_bind (m := Builtin.Tuple.tupleExact _) (wpAny_newObj_type (wpAny_pure (wpAny_pure ⟨_, rfl, wpAny_pure h⟩)) room))
    | exact wpAny_bind (wpAny_bind (m := Builtin.Tuple.tupleExact _) (wpAny_newObj_type (wpAny_pure ⟨_, rfl, wpAny_pure h⟩) room))
end
section
variable {X : Cx} {W : XK} {a b c e : Expr} {fa fb fc fe : EM D} {pos : Pos} {K : PySem.W.Frag} {mg : Str → Option Value} {Hf H : Hp} {te : TE}
def tRevA (K : PySem.W.Frag) (te : TE) : TE := fun σ H Q => te σ H fun x H1 => ∃ a xs, x = .ref a ∧ (SqL K H1 a xs ∧ (∀ p, H1 p = none → Q (.ref p) (upd H1 p (.lst xs.reverse))) ∨ SqT K H1 a xs ∧ ∀ p o, H1 p = none → o.dict = none → Q (.ref p) (upd H1 p (.frz o (.tup xs.reverse))))
theorem pe_revA {k : Nat} {p1 p2 p3 : Pos} (he : PE X e te) : PE X (.Subscript e (.Slice none none (some (.UnaryOp .USub (.Constant (.int 1) k p1) p2)) p3) pos) (tRevA X.K te) := by
  refine ⟨fun pins s σ H Q I h => Subscript_ (thn (he.run pins s σ H _ I h) fun v s1 ⟨x, H1, I1, r1, a, xs, ex, q⟩ => ?_)⟩
  subst ex
  cases r1
  have step : PO X (some (.UnaryOp .USub (.Constant (.int 1) k p1) p2)) (tPart (tUn (rU fun i => .int (-i)) (tC (.int 1)))) := po_some (pe_un un_neg pe_int)
  refine wpAny_Slice (thn (po_none.run pins s1 σ H1 (fun o G => o = none ∧ G = H1) I1 ⟨rfl, rfl⟩) fun vl s2 ⟨l, H2, I2, pl, el, e2⟩ => ?_)
  subst el e2
  refine thn (po_none.run pins s2 σ H2 (fun o G => o = none ∧ G = H2) I2 ⟨rfl, rfl⟩) fun vu s3 ⟨l3, H3, I3, pu, eu, e3⟩ => ?_
  subst eu e3
  refine thn (step.run pins s3 σ H3 (fun o G => o = some (-1) ∧ G = H3) I3 ⟨1, rfl, -1, rfl, rfl, rfl⟩) fun vs s4 ⟨o4, H4, I4, ps, eo, e4⟩ => ?_
  subst eo e4
  have I5 : Inv X pins σ H4 { s4 with heap := s4.heap.push { cls := .type "slice", data := .fields #[vl, vu, vs] } } := I4.kept (t' := s4.toks) fun b ob q => Heap.get?_push_of_some _ q
  show wpAny (model X.prog X.w) X.A (subscriptTail e (.Slice none none (some (.UnaryOp .USub (.Constant (.int 1) k p1) p2)) p3) (.ref a) (.ref s4.heap.objs.size)) (EP X pins σ Q) X.xe { s4 with heap := s4.heap.push { cls := .type "slice", data := .fields #[vl, vu, vs] } }
  rcases q with ⟨hx, q⟩ | ⟨hx, q⟩
  · obtain ⟨its, r, ht, hz⟩ := I5.list hx
    have hlen := r.length
    refine tail_any (ops := [.ref a, .ref s4.heap.objs.size]) ht.isList.typeIs slot_list_getitem.lookup ?_ (by with_unfolding_all rfl)
    refine wpAny_getItem_list_slice ht.isList (Heap.IsSliceOf.new _ vl vu vs) pl pu ps (by decide) ?_ (by rw [List.size_toArray]; omega)
    rw [krv_pick]
    exact ⟨.ref _, _, I5.laid (t' := s4.toks) (o := .lst xs.reverse) (fun b ob q => Heap.get?_push_of_some _ q) (Nat.le_refl _) ⟨by rw [List.length_reverse]; exact hz, _, 0, r.reverse, Heap.get?_push_size _ rfl⟩, rfl, q _ (I5.hok.fresh (Nat.le_refl _))⟩
  · obtain ⟨its, r, ht, hz⟩ := I5.tuple hx
    have hlen := r.length
    cases pl
    cases pu
    cases ps with
    | int i tk =>
    refine tail_any (ops := [.ref a, .ref s4.heap.objs.size]) ht.typeIs slot_tuple_getitem.lookup ?_ (by with_unfolding_all rfl)
    refine getRevT ht (Heap.IsSliceOf.new _ _ _ _) ?_ (by rw [List.size_toArray]; omega)
    exact ⟨.ref _, _, I5.laid (t' := s4.toks) (o := .frz _ (.tup xs.reverse)) (fun b ob q => Heap.get?_push_of_some _ q) (Nat.le_refl _) ⟨Heap.get?_push_size _ rfl, by rw [List.length_reverse]; exact hz, _, r.reverse, IsTup.new _ _⟩, rfl, q _ _ (I5.hok.fresh (Nat.le_refl _)) rfl⟩
def revA : D → Option D
  | .lst ds => some (.lst ds.reverse)
  | .tup ds => some (.tup ds.reverse)
  | _ => none
theorem TD.revA (he : TD K mg W te fe) : TD K mg W (tRevA K te) (un1 DL.revA fe) := by
  intro Hf σ ρ H S Q h
  refine he Hf σ ρ H S _ ((Wp.bind h).mono fun d ρ1 h1 v Hf1 H1 s1 S1 r1 => ?_)
  obtain ⟨dz, e, h2⟩ := Wp.lift h1
  match d, e, r1 with
  | .lst ds, e, r1 =>
    obtain ⟨a, vs, rfl, g1, g2⟩ := rep_lst r1
    cases e
    refine ⟨a, vs, rfl, .inl ⟨rdSeq S1.sub g1, fun p hp => ?_⟩⟩
    obtain ⟨n, r⟩ := lay_lst S1.sub hp (reps_rev g2)
    exact h2 _ _ _ (s1.trans n.stp) (n.sr S1) r
  | .tup ds, e, r1 =>
    obtain ⟨a, vs, rfl, g1, g2⟩ := rep_tup r1
    cases e
    refine ⟨a, vs, rfl, .inr ⟨Same.sqT S1.sub g1, fun p o hp ho => ?_⟩⟩
    obtain ⟨n, r⟩ := lay_tup S1.sub hp ho (reps_rev g2)
    exact h2 _ _ _ (s1.trans n.stp) (n.sr S1) r
theorem d_rev {k : Nat} {p1 p2 p3 : Pos} (he : PD X W e fe) : PD X W (.Subscript e (.Slice none none (some (.UnaryOp .USub (.Constant (.int 1) k p1) p2)) p3) pos) (un1 revA fe) := let ⟨_, a1, a2⟩ := he.ex; ⟨_, pe_revA a1, TD.revA a2⟩

/-! ### list(range(n)), tuple(range(n)) -/
def rg1 (d : D) : Option (List D) := match d with
  | .int n => if smallI n then some (rngD 0 n.toNat) else none
  | _ => none
def tupRgE (fe : EM D) : EM D := bindM fe fun d => liftO ((rg1 d).map .tup)
def lstRgE (fe : EM D) : EM D := bindM fe fun d => liftO ((rg1 d).map .lst)
theorem reps_rg {n : Int} : Reps K Hf (rngD 0 n.toNat) (rgV 0 n) := by
  unfold rngD rgV
  rw [Int.sub_zero]
  induction List.range n.toNat with
  | nil => simp [Reps]
  | cons i l ih => exact reps_cons (by unfold Rep; rfl) ih
theorem rgOk_small {n : Int} (h : smallI n = true) : RgOk 0 n := by
  obtain ⟨h1, h2⟩ := smallI_ok h
  have : n ≤ 1000000 := by unfold smallI at h; simp at h; omega
  exact ⟨by decide, by decide, h1, h2, by omega⟩
theorem rg1_inv {d : D} {l : List D} (h : rg1 d = some l) : ∃ n, d = .int n ∧ smallI n = true ∧ l = rngD 0 n.toNat := by
  unfold rg1 at h
  split at h
  · split at h
    · cases h; exact ⟨_, rfl, by assumption, rfl⟩
    · cases h
  · cases h
theorem map_inv {α β : Type} {o : Option α} {f : α → β} {b : β} (h : o.map f = some b) : ∃ a, o = some a ∧ b = f a := by
  cases o with
  | none => cases h
  | some a => cases h; exact ⟨a, rfl, rfl⟩
theorem TD.tupRg (he : TD K mg W te fe) : TD K mg W (tTupRgX (tRg1 te)) (tupRgE fe) := by
  intro Hf σ ρ H S Q h
  refine he Hf σ ρ H S _ ((Wp.bind h).mono fun d ρ1 h1 v Hf1 H1 s1 S1 r1 => ?_)
  obtain ⟨dz, e, h2⟩ := Wp.lift h1
  obtain ⟨l, e1, rfl⟩ := map_inv e
  obtain ⟨n, rfl, hn, rfl⟩ := rg1_inv e1
  unfold Rep at r1
  refine ⟨n, r1, rgOk_small hn, fun p o hp ho => ?_⟩
  obtain ⟨n, r⟩ := lay_tup S1.sub hp ho reps_rg
  exact h2 _ _ _ (s1.trans n.stp) (n.sr S1) r
theorem TF.lstRg (he : TD K mg W te fe) : TF K mg W (tLstRg (tRg1 te)) (lstRgE fe) := by
  intro Hf σ ρ H S Q h
  refine he Hf σ ρ H S _ ((Wp.bind h).mono fun d ρ1 h1 v Hf1 H1 s1 S1 r1 => ?_)
  obtain ⟨dz, e, h2⟩ := Wp.lift h1
  obtain ⟨l, e1, rfl⟩ := map_inv e
  obtain ⟨n, rfl, hn, rfl⟩ := rg1_inv e1
  unfold Rep at r1
  refine ⟨n, r1, rgOk_small hn, fun p hp => ?_⟩
  have m : New Hf1 H1 Hf1 (upd H1 p (.lst (rgV 0 n))) := New.fresh S1.sub hp
  refine h2 p Hf1 _ (s1.trans m.stp) (m.sr S1) ?_ (none_sub S1.sub hp) ⟨_, upd_same, reps_rg⟩ (fresh_no S1 hp)
  cases e : H p with
  | none => rfl
  | some o => exact absurd hp (s1.there p (by rw [e]; simp))
section
variable {p p2 q : Pos}
theorem d_tupRg (hg : Gl X "tuple") (hm : X.mg "tuple" = none) (hg2 : Gl X "range") (hm2 : X.mg "range" = none) (ha : PD X W a fa) (n1 : starEach [a] X.env = (false, eval a X.env) :: starEach [] X.env)
    (n2 : starEach [.Call (.Name "range" p2) [a] [] q] X.env = (false, eval (.Call (.Name "range" p2) [a] [] q) X.env) :: starEach [] X.env) (hc : X.calm = true := by rfl) : PD X W (.Call (.Name "tuple" p) [.Call (.Name "range" p2) [a] [] q] [] pos) (tupRgE fa) :=
  let ⟨_, a1, a2⟩ := ha.ex; ⟨_, pe_tupRgX hc hg hm (prg_1 hg2 hm2 a1 n1) n2, TD.tupRg a2⟩
theorem f_lstRg (hg : Gl X "list") (hm : X.mg "list" = none) (hg2 : Gl X "range") (hm2 : X.mg "range" = none) (ha : PD X W a fa) (n1 : starEach [a] X.env = (false, eval a X.env) :: starEach [] X.env)
    (n2 : starEach [.Call (.Name "range" p2) [a] [] q] X.env = (false, eval (.Call (.Name "range" p2) [a] [] q) X.env) :: starEach [] X.env) (hc : X.calm = true := by rfl) : PF X W (.Call (.Name "list" p) [.Call (.Name "range" p2) [a] [] q] [] pos) (lstRgE fa) :=
  let ⟨_, a1, a2⟩ := ha.ex; ⟨_, pe_listRg hc hg hm (prg_1 hg2 hm2 a1 n1) n2, TF.lstRg a2⟩
end

/-! ### a walk over a list or a tuple -/
def iSeq (K : PySem.W.Frag) (te : TE) : TI := fun σ H R => te σ H fun x H1 => ∃ a, x = .ref a ∧ ((∃ xs, SqL K H1 a xs) ∧ R (Itl K a) H1 ∨ (∃ xs, SqT K H1 a xs) ∧ R (Itt K a) H1 ∨ ∃ o vs, H1 a = some (.frz o (.dK vs)) ∧ R (Itk a o vs) H1)
theorem pi_seq {tg : Expr} (he : PE X e te) : PI X tg e (iSeq X.K te) := by
  refine ⟨fun pins s σ H R I h => thn (he.run pins s σ H _ I h) fun v s1 ⟨x, H1, I1, r1, a, ex, q⟩ => ?_⟩
  subst ex
  cases r1
  have fp : ∀ b ∈ [s1.heap.objs.size], b = s1.heap.objs.size := fun b hb => by simpa using hb
  rcases q with ⟨⟨xs, hq⟩, q⟩ | ⟨⟨xs, hq⟩, q⟩ | ⟨od, vs, hq, q⟩
  · obtain ⟨its, rv, pl, hz⟩ := I1.list hq
    refine wpAny_pyIter_list pl.isList ⟨s1.heap.objs.size, [s1.heap.objs.size], _, _, H1, rfl, I1.kept (t' := s1.toks) fun b o z => Heap.get?_push_of_some _ z, turn_list a _, ⟨_, Heap.get?_push_size _ rfl, rfl, rfl⟩, fun b hb => ?_, q⟩
    cases fp b hb
    exact I1.fpOk (Nat.le_refl _) (I1.hok.fresh (Nat.le_refl _))
  · obtain ⟨its, rv, pl, hz⟩ := I1.tuple hq
    refine wpAny_pyIter_tuple (show s1.heap.IsTuple a its.toArray from pl) ⟨s1.heap.objs.size, [s1.heap.objs.size], _, _, H1, rfl, I1.kept (t' := s1.toks) fun b o z => Heap.get?_push_of_some _ z, turn_tuple a _, ⟨_, Heap.get?_push_size _ rfl, rfl, rfl⟩, fun b hb => ?_, q⟩
    cases fp b hb
    exact I1.fpOk (Nat.le_refl _) (I1.hok.fresh (Nat.le_refl _))
  · obtain ⟨g1, g2, g3, _, _, _, g6, g7, _, _⟩ := I1.frzK hq
    exact iter_keys g1 g2 g3 g6 (pi_one (tk := s1.toks) I1 _ (turn_keys _ g6) ⟨_, Heap.get?_push_size _ rfl, rfl, by rw [g7] <;> rfl⟩ q)
theorem rep_key {d : D} {k : Key} (h : keyD d = some k) : Rep K Hf d (kV k) := by
  cases d <;> simp [keyD] at h <;> subst h <;> unfold Rep <;> rfl
theorem repk_get : ∀ {kvs : List (D × D)} {vs : List (Key × V)} {i : Nat} {d : D}, Repk K Hf kvs vs → (kvs.map (·.1))[i]? = some d → ∃ k v, vs[i]? = some (k, v) ∧ keyD d = some k
  | [], vs, i, d, r, h => by simp at h
  | (ke, e) :: kvs, vs, i, d, r, h => by
    unfold Repk at r
    obtain ⟨k', u, r', rfl, h1, h2, h3⟩ := r
    cases i with
    | zero =>
      have : ke = d := by simpa using h
      subst this
      exact ⟨k', u, rfl, h1⟩
    | succ i =>
      rw [List.map_cons, List.getElem?_cons_succ] at h
      obtain ⟨k2, v2, q1, q2⟩ := repk_get h3 h
      exact ⟨k2, v2, by rw [List.getElem?_cons_succ]; exact q1, q2⟩
theorem itd_keys {a : Addr} {o : Obj} {vs : List (Key × V)} {kvs : List (D × D)} (h : Hf a = some (.frz o (.dK vs))) (r : Repk K Hf kvs vs) : Itd K (Itk a o vs) Hf (kvs.map (·.1)) where
  go := fun i d Hf1 H1 s1 s2 e => by
    obtain ⟨k, v, g1, g2⟩ := repk_get r e
    refine ⟨⟨s2 _ _ (s1 _ _ h), (List.getElem?_eq_some_iff.mp g1).1⟩, fun x H2 ⟨e2, k', v', g3, ex⟩ => ?_⟩
    rw [g1] at g3
    cases g3
    subst e2 ex
    exact ⟨Hf1, New.refl s2, rep_key g2⟩
  stop := fun Hf1 H1 s1 s2 => ⟨s2 _ _ (s1 _ _ h), by rw [List.length_map, repk_len r]; exact Nat.le_refl _⟩
def seqI (fe : EM D) : EM (List D) := bindM fe fun d => liftO (match d with | .lst ds => some ds | .tup ds => some ds | .dct kvs => some (kvs.map (·.1)) | _ => none)
theorem TID.seq (he : TD K mg W te fe) : TID K mg W (iSeq K te) (seqI fe) := by
  intro Hf σ ρ H S R h
  refine he Hf σ ρ H S _ ((Wp.bind h).mono fun d ρ1 h1 v Hf1 H1 s1 S1 r1 => ?_)
  obtain ⟨ds, e, h2⟩ := Wp.lift h1
  match d, e, r1 with
  | .tup es, e, r1 =>
    cases e
    obtain ⟨a, vs, rfl, g1, g2⟩ := rep_tup r1
    exact ⟨a, rfl, .inr (.inl ⟨⟨vs, Same.sqT S1.sub g1⟩, h2 _ Hf1 H1 s1 S1 (itd_tup g1 g2)⟩)⟩
  | .dct kvs, e, r1 =>
    cases e
    obtain ⟨a, o, vs, rfl, g1, g2⟩ := rep_dct r1
    exact ⟨a, rfl, .inr (.inr ⟨o, vs, S1.sub _ _ g1, h2 _ Hf1 H1 s1 S1 (itd_keys g1 g2)⟩)⟩
  | .lst es, e, r1 =>
    cases e
    obtain ⟨a, vs, rfl, g1, g2⟩ := rep_lst r1
    exact ⟨a, rfl, .inl ⟨⟨vs, rdSeq S1.sub g1⟩, h2 _ Hf1 H1 s1 S1 (itd_list g1 g2)⟩⟩
theorem i_seq {tg : Expr} (he : PD X W e fe) : PID X W tg e (seqI fe) := let ⟨_, a1, a2⟩ := he.ex; ⟨_, pi_seq a1, TID.seq a2⟩
end
end DL

/-! The D layer, 12: sorted(set(ints)), len(set(ints)). -/
namespace DL
open PySem L2 PySem.W PySem.Calls PyProof.Rows

/-- the empty set, just made -/
abbrev set00 (w : World) : Obj := { cls := .type "set", dict := none, data := .set #[] 0 (.fresh 0 0 (!w.params.followText "set-order")) }
section
variable {P : Program} {w : World} {A : Around} {E : Value → Shared → Prop} {s : Shared}
set_option maxHeartbeats 3200000 in
theorem setLst {l : Addr} {xs : Array Value} (ns : List Int) {Q : Value → Shared → Prop} (hh : A.handled = none) (hl : s.heap.IsList l xs) (hi : IntsAre xs.toList ns) (room : ns.length + 1 < scanBound)
    (h : ∀ (h' : Heap) (tk c : Nat), SetR w h' s.heap.objs.size (fun j => decide (j ∈ ns)) c → c ≤ ns.length → (∀ b o, s.heap.get? b = some o → h'.get? b = some o) → Q (.ref s.heap.objs.size) { s with heap := h', toks := tk }) :
    wpAny (model P w) A (call (.type "set") [.ref l]) Q E s := by
  have hxs : xs.size = ns.length := by rw [← Array.length_toList]; exact IntsAre.length hi
  obtain ⟨c0, t0, g0⟩ := F.called_set.mro
  have g1 := F.called_set.made
  have g2 := F.called_set.sub
  have g3 := F.called_set.notType
  have g4 := F.called_set.canCreate
  have g5 := F.typeCall_set_1 (.ref l)
  refine wpAny_call (codeAny_of_tree ?_)
  show wpAny _ _ (callAny (.type "set") _) _ _ _
  refine wpAny_pure ⟨Code.quiet_builtin _ (by decide +kernel), codeAny_builtin F.entry_type_call ?_⟩
  rw [Around.under_plain (weight_type_call_type "set" [.ref l] []) rfl]
  repeat (any_goals (first | assumption | wp_step))
  refine codeAny_mono (code_set_led1 (.ref l) (E := E) (Q₁ := fun z z1 => z = .ref s.heap.objs.size ∧ z1 = { s with heap := s.heap.push (set00 w) }) ⟨rfl, rfl⟩) fun r s₁ hr => ?_
  cases r with
  | error e => exact hr
  | ok fl =>
    cases fl with
    | ret obj =>
      obtain ⟨rfl, rfl⟩ := hr
      have n0 : (s.heap.push (set00 w)).get? s.heap.objs.size = some (set00 w) := Heap.get?_push_size _ rfl
      have hT : Shared.TypeIs { s with heap := s.heap.push (set00 w) } (.ref s.heap.objs.size) "set" := ⟨_, n0, rfl⟩
      have hli := F.called_set.init.lookup
      have hbi := F.called_set.init.bind (.ref s.heap.objs.size)
      repeat (any_goals (first | assumption | wp_step))
      refine codeAny_mono (codeAny_call_builtin (R := wants (fun r z => r = .none ∧ ∃ h' tk c, z = { s with heap := h', toks := tk } ∧ SetR w h' s.heap.objs.size (fun j => decide (j ∈ ns)) c ∧ c ≤ ns.length ∧ (∀ b o, s.heap.get? b = some o → h'.get? b = some o)) E)
        F.called_set.init.plain F.entry_set_init (check_set_init_1 hT ?_)) fun r₂ s₂ hr₂ => ?_
      · obtain ⟨ol, hol, hcl, nl, hdl⟩ := hl
        obtain ⟨ocls, odict, odata, oslots⟩ := ol
        simp only at hcl hdl
        subst hcl; subst hdl
        have q0 : (s.heap.push (set00 w)).get? l = some { cls := .type "list", dict := odict, data := .seq xs nl, slots := oslots } := Heap.get?_push_of_some _ hol
        have q1 := F.sub_list_set
        have q2 := F.sub_list_frozenset
        have q3 : (Value.type "list" == Value.type "dict") = false := by decide
        have q4 : (s.heap.push (set00 w)).IsList l xs := ⟨_, q0, rfl, nl, rfl⟩
        unfold Builtin.«set.__init__» noKeywords Builtin.Frozenset.updateFrom
        generalize hPI : pyIter = PI
        wp_walk
        subst hPI
        refine wpAny_pyIter_list q4 (wpAny_bind (wpAny_runValue ?_))
        have lt0 : l < s.heap.objs.size := Heap.lt_size hol
        have hA : A.in1.in1.in1.handled = none := by simp [hh]
        have sz1 : (s.heap.push (set00 w)).objs.size = s.heap.objs.size + 1 := Heap.size_push ..
        have ne1 : l ≠ (s.heap.push (set00 w)).objs.size := fun z => Nat.lt_irrefl l (by have := Nat.lt_succ_of_lt lt0; rw [sz1] at z; exact z ▸ this)
        have no1 : s.heap.objs.size ∉ [(s.heap.push (set00 w)).objs.size, l] := by
          intro z
          rcases List.mem_cons.mp z with z | z
          · rw [sz1] at z; exact Nat.ne_of_lt (Nat.lt_succ_self _) z
          · exact Nat.ne_of_gt lt0 (List.mem_singleton.mp z)
        have at1 : ∀ (i : Nat) (v : Value), xs[i]? = some v → ∃ k t, ns[i]? = some k ∧ v = .int k t := fun i v hv => by
          have hi' : i < ns.length := by rw [← hxs]; exact (Array.getElem?_eq_some_iff.mp hv).1
          obtain ⟨t, e⟩ := PyProof.Rows.IntsAre.int_at hi i v (by rw [Array.getElem?_toList]; exact hv)
          rw [List.getD_eq_getElem?_getD, List.getElem?_eq_getElem hi'] at e
          exact ⟨ns[i], t, List.getElem?_eq_getElem hi', e⟩
        refine set_update_ints ((Walks.list hA _ l ne1 xs).toS) s.heap.objs.size no1 ns hxs room at1 (xs.size - 0) 0 _ (by omega) (Nat.zero_le _) ⟨⟨_, Heap.get?_push_size _ rfl, rfl, rfl⟩, (q4.push _)⟩ ?_ fun s' c' hm hc' hS' => ?_
        · exact ⟨0, Nat.le_refl 0, setR_new_at (Heap.get?_push_of_some _ n0)⟩
        · obtain ⟨h', g', d', tk', os'⟩ := s'
          obtain rfl : g' = s.gens := hm.gens
          obtain rfl : d' = s.drawn := hm.drawn
          obtain rfl : os' = s.os := hm.os
          show wpAny _ _ _ _ _ _
          refine wpAny_pure ?_
          show wpAny _ _ (ret Value.none) _ _ _
          rw [hxs] at hc'
          refine wpAny_pure ⟨rfl, h', tk', c', rfl, hS', hc', fun b o e => ?_⟩
          have hb0 : b < s.heap.objs.size := Heap.lt_size e
          exact hm.heap b o (fun z => by
            rcases List.mem_cons.mp z with z | z
            · exact Nat.ne_of_lt hb0 z
            · have z2 := List.mem_singleton.mp z
              rw [sz1] at z2
              exact Nat.ne_of_lt (Nat.lt_succ_of_lt hb0) z2) (Heap.get?_push_of_some _ (Heap.get?_push_of_some _ e))
      · cases r₂ with
        | error e => exact hr₂
        | ok fl₂ =>
          cases fl₂ with
          | ret r =>
            obtain ⟨rfl, h', tk, c', rfl, a1, a2, a3⟩ := hr₂
            repeat (any_goals (first | assumption | wp_step))
            exact h _ _ _ a1 a2 a3
          | _ => exact hr₂.elim
    | _ => exact hr.elim
end
section
variable {X : Cx} {W : XK} {a b c e : Expr} {fa fb fc fe : EM D} {pos : Pos} {K : PySem.W.Frag} {mg : Str → Option Value} {Hf H : Hp} {te : TE} {p p2 q : Pos}
/-- set(xs), xs a list or a tuple of ints: the set, held by nobody -/
theorem setSeq {pins : List (Addr × Obj)} {σ : L2.St} {s1 : Shared} {Q : Value → Shared → Prop} {E : Value → Shared → Prop} {l : Addr} {ns : List Int} (hc : X.calm = true) (I : Inv X pins σ H s1) (hq : SqL X.K H l (ns.map V.int) ∨ SqT X.K H l (ns.map V.int)) (hn : ns.length ≤ 4000)
    (h : ∀ (b : Addr) (s2 : Shared) (c : Nat), Inv X pins σ H s2 → SetR X.w s2.heap b (fun j => decide (j ∈ ns)) c → c ≤ ns.length → Q (.ref b) s2) : wpAny (model X.prog X.w) X.A (call (.type "set") [.ref l]) Q E s1 := by
  rcases hq with hq | hq
  · obtain ⟨its, r, pl, hz⟩ := I.list hq
    exact setLst ns (I.ok.hd hc) pl.isList (by simpa using RZ.intsAre_vals r) (by unfold scanBound; omega) fun h' tk c R hcn k => h _ _ c (I.kept k) R hcn
  · obtain ⟨its, r, pl, hz⟩ := I.tuple hq
    exact call_set_tupI ns (I.ok.hd hc) (show s1.heap.IsTuple l its.toArray from pl) (by simpa using RZ.intsAre_vals r) (by unfold scanBound; omega) fun h' tk c R hcn k => h _ _ c (I.kept k) R hcn
/-- ints in order, each once -/
def insU (k : Int) : List Int → List Int
  | [] => [k]
  | j :: l => if k < j then k :: j :: l else if k = j then j :: l else j :: insU k l
def sortU : List Int → List Int
  | [] => []
  | k :: l => insU k (sortU l)
theorem mem_insU {k j : Int} : ∀ {l : List Int}, j ∈ insU k l ↔ j = k ∨ j ∈ l
  | [] => by simp [insU]
  | x :: l => by
    unfold insU
    split
    · simp
    · split
      · rename_i h; subst h; simp
      · rw [List.mem_cons, List.mem_cons, mem_insU]
        constructor
        · rintro (h | h | h)
          · exact .inr (.inl h)
          · exact .inl h
          · exact .inr (.inr h)
        · rintro (h | h | h)
          · exact .inr (.inl h)
          · exact .inl h
          · exact .inr (.inr h)
theorem mem_sortU {j : Int} : ∀ {l : List Int}, j ∈ sortU l ↔ j ∈ l
  | [] => by simp [sortU]
  | x :: l => by unfold sortU; rw [mem_insU, mem_sortU, List.mem_cons]
theorem insU_pw {k : Int} : ∀ {l : List Int}, l.Pairwise (· < ·) → (insU k l).Pairwise (· < ·)
  | [], _ => by simp [insU]
  | x :: l, h => by
    have h1 := List.pairwise_cons.mp h
    unfold insU
    split
    · rename_i lt
      refine List.pairwise_cons.mpr ⟨fun y hy => ?_, h⟩
      rcases List.mem_cons.mp hy with e | hy
      · exact e ▸ lt
      · exact Int.lt_trans lt (h1.1 y hy)
    · split
      · exact h
      · refine List.pairwise_cons.mpr ⟨fun y hy => ?_, insU_pw h1.2⟩
        rcases mem_insU.mp hy with e | hy
        · subst e; omega
        · exact h1.1 y hy
theorem sortU_pw : ∀ {l : List Int}, (sortU l).Pairwise (· < ·)
  | [] => .nil
  | _ :: l => insU_pw sortU_pw
theorem pw_uniq : ∀ {l m : List Int}, l.Pairwise (· < ·) → m.Pairwise (· < ·) → (∀ k, k ∈ l ↔ k ∈ m) → l = m
  | [], [], _, _, _ => rfl
  | [], x :: m, _, _, h => absurd ((h x).mpr List.mem_cons_self) (by simp)
  | x :: l, [], _, _, h => absurd ((h x).mp List.mem_cons_self) (by simp)
  | x :: l, y :: m, h1, h2, h => by
    have a1 := List.pairwise_cons.mp h1
    have a2 := List.pairwise_cons.mp h2
    have e : x = y := by
      rcases List.mem_cons.mp ((h x).mp List.mem_cons_self) with e | e
      · exact e
      · rcases List.mem_cons.mp ((h y).mpr List.mem_cons_self) with e2 | e2
        · exact e2.symm
        · have := a1.1 y e2
          have := a2.1 x e
          omega
    subst e
    rw [pw_uniq a1.2 a2.2 fun k => ⟨fun hk => ?_, fun hk => ?_⟩]
    · rcases List.mem_cons.mp ((h k).mp (List.mem_cons_of_mem _ hk)) with e | e
      · have := a1.1 k hk; omega
      · exact e
    · rcases List.mem_cons.mp ((h k).mpr (List.mem_cons_of_mem _ hk)) with e | e
      · have := a2.1 k hk; omega
      · exact e
def intsD : List D → Option (List Int)
  | [] => some []
  | .int k :: ds => (intsD ds).map (k :: ·)
  | _ => none
theorem ints_rep : ∀ {ds : List D} {ns : List Int} {vs : List V}, intsD ds = some ns → Reps K Hf ds vs → vs = ns.map V.int
  | [], _, vs, e, r => by cases e; unfold Reps at r; subst r; rfl
  | .int k :: ds, ns, vs, e, r => by
    unfold intsD at e
    obtain ⟨ms, e1, rfl⟩ := map_inv e
    unfold Reps at r
    obtain ⟨v, us, rfl, h1, h2⟩ := r
    unfold Rep at h1
    rw [h1, ints_rep e1 h2]; rfl
theorem reps_ints : ∀ {ns : List Int}, Reps K Hf (ns.map D.int) (ns.map V.int)
  | [] => by simp [Reps]
  | k :: ns => reps_cons (by unfold Rep; rfl) reps_ints
/-- the ints of a list or a tuple -/
def seqInts : D → Option (List Int)
  | .lst ds => intsD ds
  | .tup ds => intsD ds
  | _ => none
theorem seqInts_rep {d : D} {ns : List Int} {v : V} (s : Same Hf H) (e : seqInts d = some ns) (r : Rep K Hf d v) : ∃ l, v = .ref l ∧ (SqL K H l (ns.map V.int) ∨ SqT K H l (ns.map V.int)) := by
  match d, e, r with
  | .lst ds, e, r =>
    obtain ⟨a, vs, rfl, g1, g2⟩ := rep_lst r
    rw [← ints_rep e g2]
    exact ⟨a, rfl, .inl (rdSeq s g1)⟩
  | .tup ds, e, r =>
    obtain ⟨a, vs, rfl, g1, g2⟩ := rep_tup r
    rw [← ints_rep e g2]
    exact ⟨a, rfl, .inr (Same.sqT s g1)⟩
def sortSetE (fe : EM D) : EM D := bindM fe fun d => liftO (match seqInts d with | some ns => if ns.length < 64 then some (.lst ((sortU ns).map .int)) else none | none => none)
def lenSetE (fe : EM D) : EM D := bindM fe fun d => liftO (match seqInts d with | some ns => if ns.length < 4000 then some (.int (sortU ns).length) else none | none => none)
def tSortSet (K : PySem.W.Frag) (te : TE) : TE := fun σ H Q => te σ H fun x H1 => ∃ l ns, x = .ref l ∧ (SqL K H1 l (ns.map V.int) ∨ SqT K H1 l (ns.map V.int)) ∧ ns.length < 64 ∧ ∀ p, H1 p = none → Q (.ref p) (upd H1 p (.lst ((sortU ns).map V.int)))
def tLenSet (K : PySem.W.Frag) (te : TE) : TE := fun σ H Q => te σ H fun x H1 => ∃ l ns, x = .ref l ∧ (SqL K H1 l (ns.map V.int) ∨ SqT K H1 l (ns.map V.int)) ∧ ns.length < 4000 ∧ Q (.int ((sortU ns).length : Nat)) H1
theorem perm_uniq {l m : List Int} (h1 : l.Nodup) (h2 : m.Nodup) (h : ∀ k, k ∈ l ↔ k ∈ m) : l.length = m.length := ((List.perm_ext_iff_of_nodup h1 h2).mpr h).length_eq
theorem pe_sortSet (hg : Gl X "sorted") (hm : X.mg "sorted" = none) (hg2 : Gl X "set") (hm2 : X.mg "set" = none) (ha : PE X a te) (n1 : starEach [a] X.env = (false, eval a X.env) :: starEach [] X.env) (hc : X.calm = true := by rfl) :
    PE X (.Call (.Name "sorted" p) [.Call (.Name "set" p2) [a] [] q] [] pos) (tSortSet X.K te) := by
  refine ⟨fun pins s σ H Q I h => Call_ (ld_blt I hg hm boot_sorted (PyProof.Rows.callWith_builtin1 (PyProof.Rows.args_cons (Call_ (ld_blt I hg2 hm2 boot_set (PyProof.Rows.callWith_type1 (PyProof.Rows.args_cons (thn (ha.run pins s σ H _ I h) fun v s1 ⟨x, H1, I1, r1, l, ns, ex, hq, hn, q⟩ => PyProof.Rows.args_nil ?_) n1) n1 rfl))) rfl) rfl rfl))⟩
  subst ex
  cases r1
  refine setSeq hc I1 hq (by omega) fun b s2 c I2 R hcn => PyProof.Rows.args_nil ?_
  refine sorted_set R (I2.ok.hd hc) (by omega) fun s' p3 out c2 ms k g o hp hg3 hi hs hmm hl => ?_
  have e : ms = sortU ns := pw_uniq hs sortU_pw fun k => by rw [hmm k, mem_sortU, decide_eq_true_eq]
  subst e
  have small : ((sortU ns).map V.int).length ≤ sizeLine := by rw [List.length_map, hl, sizeLine_eq]; omega
  have free : H1 p3 = none := I2.hok.fresh hp
  have J : Inv X pins σ (upd H1 p3 (.lst ((sortU ns).map V.int))) { s2 with heap := s'.heap, gens := s'.gens, drawn := s'.drawn, toks := s'.toks } :=
    I2.call (ch := []) (Un.laid k hp free) (I2.hok.laid k hp ⟨small, out.toList, c2, vals_of_ints hi, hg3⟩) (by rw [g]; exact I2.bare) (fun _ z => nomatch z)
  have e : s' = { s2 with heap := s'.heap, gens := s'.gens, drawn := s'.drawn, toks := s'.toks } := by
    cases s'; cases s2; cases o; rfl
  rw [e]
  exact ⟨.ref p3, _, J, rfl, q p3 free⟩
theorem pe_lenSet (hg : Gl X "len") (hm : X.mg "len" = none) (hg2 : Gl X "set") (hm2 : X.mg "set" = none) (ha : PE X a te) (n1 : starEach [a] X.env = (false, eval a X.env) :: starEach [] X.env) (hc : X.calm = true := by rfl) :
    PE X (.Call (.Name "len" p) [.Call (.Name "set" p2) [a] [] q] [] pos) (tLenSet X.K te) := by
  refine ⟨fun pins s σ H Q I h => Call_ (ld_blt I hg hm boot_len (PyProof.Rows.callWith_builtin1 (PyProof.Rows.args_cons (Call_ (ld_blt I hg2 hm2 boot_set (PyProof.Rows.callWith_type1 (PyProof.Rows.args_cons (thn (ha.run pins s σ H _ I h) fun v s1 ⟨x, H1, I1, r1, l, ns, ex, hq, hn, q⟩ => PyProof.Rows.args_nil ?_) n1) n1 rfl))) rfl) rfl rfl))⟩
  subst ex
  cases r1
  refine setSeq hc I1 hq (by omega) fun b s2 c I2 R hcn => PyProof.Rows.args_nil ?_
  obtain ⟨o, es, ep, t, ho, hex, hd, _, nd, hmem, _, hf, hn2, _⟩ := R
  have e : es.size = (sortU ns).length := by
    rw [show es.size = (es.toList.map keyOf).length by simp]
    exact perm_uniq nd (List.Pairwise.imp (fun h => by omega) sortU_pw) fun k => by rw [← hmem k, mem_sortU, decide_eq_true_eq]
  exact call_len_set ho hex hd hf (by omega) ⟨.int (sortU ns).length, H1, I2.tok _, ⟨_, by rw [e]⟩, q⟩
theorem TF.sortSet (he : TD K mg W te fe) : TF K mg W (tSortSet K te) (sortSetE fe) := by
  intro Hf σ ρ H S Q h
  refine he Hf σ ρ H S _ ((Wp.bind h).mono fun d ρ1 h1 v Hf1 H1 s1 S1 r1 => ?_)
  obtain ⟨dz, e, h2⟩ := Wp.lift h1
  cases e1 : seqInts d with
  | none => rw [e1] at e; cases e
  | some ns =>
    rw [e1] at e
    simp only at e
    split at e
    · rename_i hn
      cases e
      obtain ⟨l, ev, hq⟩ := seqInts_rep S1.sub e1 r1
      refine ⟨l, ns, ev, hq, hn, fun p hp => ?_⟩
      have m : New Hf1 H1 Hf1 (upd H1 p (.lst ((sortU ns).map V.int))) := New.fresh S1.sub hp
      refine h2 p Hf1 _ (s1.trans m.stp) (m.sr S1) ?_ (none_sub S1.sub hp) ⟨_, upd_same, reps_ints⟩ (fresh_no S1 hp)
      cases e : H p with
      | none => rfl
      | some o => exact absurd hp (s1.there p (by rw [e]; simp))
    · cases e
theorem TD.lenSet (he : TD K mg W te fe) : TD K mg W (tLenSet K te) (lenSetE fe) := by
  intro Hf σ ρ H S Q h
  refine he Hf σ ρ H S _ ((Wp.bind h).mono fun d ρ1 h1 v Hf1 H1 s1 S1 r1 => ?_)
  obtain ⟨dz, e, h2⟩ := Wp.lift h1
  cases e1 : seqInts d with
  | none => rw [e1] at e; cases e
  | some ns =>
    rw [e1] at e
    simp only at e
    split at e
    · rename_i hn
      cases e
      obtain ⟨l, ev, hq⟩ := seqInts_rep S1.sub e1 r1
      exact ⟨l, ns, ev, hq, hn, h2 _ Hf1 H1 s1 S1 (by unfold Rep; rfl)⟩
    · cases e
theorem f_sortSet (hg : Gl X "sorted") (hm : X.mg "sorted" = none) (hg2 : Gl X "set") (hm2 : X.mg "set" = none) (ha : PD X W a fa) (n1 : starEach [a] X.env = (false, eval a X.env) :: starEach [] X.env) (hc : X.calm = true := by rfl) :
    PF X W (.Call (.Name "sorted" p) [.Call (.Name "set" p2) [a] [] q] [] pos) (sortSetE fa) := let ⟨_, a1, a2⟩ := ha.ex; ⟨_, pe_sortSet hg hm hg2 hm2 a1 n1 hc, TF.sortSet a2⟩
theorem d_lenSet (hg : Gl X "len") (hm : X.mg "len" = none) (hg2 : Gl X "set") (hm2 : X.mg "set" = none) (ha : PD X W a fa) (n1 : starEach [a] X.env = (false, eval a X.env) :: starEach [] X.env) (hc : X.calm = true := by rfl) :
    PD X W (.Call (.Name "len" p) [.Call (.Name "set" p2) [a] [] q] [] pos) (lenSetE fa) := let ⟨_, a1, a2⟩ := ha.ex; ⟨_, pe_lenSet hg hm hg2 hm2 a1 n1 hc, TD.lenSet a2⟩
end
/-! ### what the text's top has written -/
def Glob (K : PySem.W.Frag) (mg : Str → Option Value) (x : Str) (d : D) : Prop := ∃ (u : Value) (v : V), mg x = some u ∧ RelV v u ∧ ∀ Hf, Rep K Hf d v
def excBases : List Value := [.type "ValueError", .type "Exception", .type "BaseException", .type "object"]
def ExcOk (K : PySem.W.Frag) (mg : Str → Option Value) (x : Str) : Prop :=
  ∃ C, mg x = some (.ref C) ∧ PySem.W.excIn K C excBases "ValueError.__new__" = true ∧ PySem.W.keepIn K (.ref C) = true ∧ PySem.W.subIn K (.ref C) (.type "BaseException") = some true ∧ PySem.W.typeIn K (.ref C) = some (.type "type")
def DefAt (K : PySem.W.Frag) (mg : Str → Option Value) (x : Str) (st : Stmt) (ps : List Str) : Prop := ∃ f fd, Fun K x x st f fd ∧ mg x = some (.ref f) ∧ Binds K fd ps []
section
variable {X : Cx} {W : XK} {pos : Pos} {x : Str}
theorem d_glb {d : D} (hg : Gl X x) (h : Glob X.K X.mg x d) (hd : (x == ("__debug__" : Str)) = false := by decide) : PD X W (.Name x pos) (retE d) := let ⟨_, _, h1, h2, h3⟩ := h; d_glob hg h1 h2 h3 hd
theorem s_raiseX {m : Str} {k : Nat} {p p2 p3 : Pos} (hc : X.calm = true) (tk : Takes X fun cls d _ H => W cls d H) (h : ExcOk X.K X.mg x) (hg : Gl X x) (hdb : (x == ("__debug__" : Str)) = false := by decide) :
    PSD X W (.Raise (some (.Call (.Name x p) [.Constant (.str m) k p2] [] p3)) none pos) (raiseS x) := let ⟨_, h1, h2, h3, h4, h5⟩ := h; s_raise hc tk PySem.F.excBase_ValueError h2 h1 h3 (raises_own h4 h5) hg hdb
end
section
variable {P : Program} {w : World} {K : PySem.W.Frag} {mg : Str → Option Value} {base : Heap} {x : Str} {st : Stmt} {N ps : List Str} {k n l : Nat} {b : SM}
theorem fnD (h : DefAt K mg x st ps) (S : FnScope N ps (defScope st)) (hn : ps.length = n) (hl : N.length = l)
    (hb : ∀ (f : Addr) (cdv : Value) (A : Around) (outer : List Env) (s : Shared) (H : Hp) (E : XK), Room k (A.deeper (PyProof.Rows.envOfC x (defScope st) s.heap.objs.size f cdv)) →
      PSsD (cxOf (L2.CX P w) P w K mg base N x (defScope st) f cdv A outer s H E) E (defBody st) b) : FnD P w K mg base (k + 1) x n (runB n l b) := by
  subst hl
  obtain ⟨f, fd, F, hm, B⟩ := h
  exact ⟨f, fd, ps, fn_d F S hn (hb f), hm, F.kp, B⟩
/-- no wish at all -/
theorem fnD0 (h : DefAt K mg x st ps) (S : FnScope N ps (defScope st)) (hn : ps.length = n) : FnD P w K mg base (k + 1) x n (fun _ => .bad) := by
  obtain ⟨f, fd, F, hm, B⟩ := h
  exact ⟨f, fd, ps, F.okX S (fun vs H Q E h => h.1.trans hn.symm) (fun cdv A outer s H vs Q E hr h => by
    obtain ⟨_, _, _, _, _, w⟩ := h
    exact w.elim), hm, F.kp, B⟩
end
end DL

/-! The D layer, 13: a law: for bag in bags: body; tail. -/
namespace DL
open PySem L2

/-- a bag: three ints -/
structure Bag where
  a : Int
  b : Int
  c : Int
def Bag.d (w : Bag) : D := .lst [.int w.a, .int w.b, .int w.c]
def Bag.v (w : Bag) : List V := [.int w.a, .int w.b, .int w.c]
section
variable {K : PySem.W.Frag} {mg : Str → Option Value} {W : XK} {Hf H : Hp}
theorem bag_rep {w : Bag} {v : V} (r : Rep K Hf w.d v) : ∃ b, v = .ref b ∧ Hf b = some (.lst w.v) := by
  unfold Bag.d Rep at r
  obtain ⟨a, vs, rfl, h1, h2⟩ := r
  refine ⟨a, rfl, ?_⟩
  have : vs = w.v := by
    have e := ints_rep (ds := [.int w.a, .int w.b, .int w.c]) (ns := [w.a, w.b, w.c]) rfl h2
    exact e
  rw [h1, this]
theorem bags_rep : ∀ {ws : List Bag} {vs : List V}, Reps K Hf (ws.map Bag.d) vs → ∃ bs : List Addr, vs = bs.map V.ref ∧ bs.length = ws.length ∧ ∀ (j : Nat) (b : Addr) (w : Bag), bs[j]? = some b → ws[j]? = some w → Hf b = some (.lst w.v)
  | [], vs, r => by
    rw [List.map_nil] at r
    unfold Reps at r
    subst r
    exact ⟨[], rfl, rfl, fun j b w h => by simp at h⟩
  | w :: ws, vs, r => by
    rw [List.map_cons] at r
    unfold Reps at r
    obtain ⟨v, r', rfl, h1, h2⟩ := r
    obtain ⟨b, rfl, h3⟩ := bag_rep h1
    obtain ⟨bs, rfl, h4, h5⟩ := bags_rep h2
    refine ⟨b :: bs, rfl, by simp [h4], fun j c u e1 e2 => ?_⟩
    cases j with
    | zero => cases e1; cases e2; exact h3
    | succ j => exact h5 j c u e1 e2
theorem rep_get {n i : Nat} {x : Sl} (h : (List.replicate n Sl.u)[i]? = some x) : x = .u := List.eq_of_mem_replicate (List.mem_of_getElem? h)
theorem tail_sr {σ : L2.St} {n : Nat} (h : σ.length = n) : SR K (fun _ => none) σ (List.replicate n .u) H where
  sub := fun _ _ h => by cases h
  len := by rw [h]; simp
  val := fun i d e => by cases rep_get e
  own := fun i d e => by rcases e with e | e <;> cases rep_get e
  inj := fun i j a ⟨_, d, e⟩ _ => by rcases e with e | e <;> cases rep_get e
def bagRo (w : Bag) (n : Nat) : Ro := .u :: .o w.d :: List.replicate n .u
theorem bagRo_own {w : Bag} {n i : Nat} {d : D} (h : (bagRo w n)[i]? = some (.o d) ∨ (bagRo w n)[i]? = some (.p d)) : i = 1 ∧ d = w.d := by
  match i, h with
  | 0, h => rcases h with h | h <;> cases h
  | 1, h => rcases h with h | h <;> cases h; exact ⟨rfl, rfl⟩
  | i + 2, h => rcases h with h | h <;> cases rep_get (show (List.replicate n Sl.u)[i]? = some _ from h)
theorem bag_sr {w : Bag} {n : Nat} {σ : L2.St} {b : Addr} (hl : σ.length = n + 2) (hσ : σ[1]? = some (some (V.ref b))) (hb : H b = some (.lst w.v)) : SR K (fun _ => none) σ (bagRo w n) H where
  sub := fun _ _ h => by cases h
  len := by rw [hl]; simp [bagRo]
  val := fun i d e => by
    match i, e with
    | 0, e => cases e
    | 1, e => cases e
    | i + 2, e => cases rep_get (show (List.replicate n Sl.u)[i]? = some _ from e)
  own := fun i d e => by
    obtain ⟨rfl, rfl⟩ := bagRo_own e
    exact ⟨b, hσ, rfl, w.v, hb, by
      unfold Bag.v
      exact reps_cons (by unfold Rep; rfl) (reps_cons (by unfold Rep; rfl) (reps_cons (by unfold Rep; rfl) (by unfold Reps; rfl)))⟩
  inj := fun i j a ⟨_, d, h2⟩ ⟨_, d2, h4⟩ => (bagRo_own h2).1.trans (bagRo_own h4).1.symm
theorem law_sem {N : List Str} {n : Nat} {t : TE} {fit : EM D} {tb tt : TS} {f g : SM} {a : Addr} {ns : List Int} {ws : List Bag} (ht : TD K mg W t fit) (hb : TSD K mg W tb f) (htl : TSD K mg W tt g) (hN : N.length = n + 2) (hS : SqL K H a (ns.map V.int))
    (hfit : ∃ ρ', fit (.v (.scr ns) :: List.replicate (n + 1) .u) = .ok (.lst (ws.map Bag.d)) ρ') (hne : ∀ (i j : Nat) (w u : Bag), ws[i]? = some w → ws[j]? = some u → w.c = u.c → i = j)
    (hbody : ∀ w ∈ ws, ∃ ρ', f (bagRo w n) = .ok .nx ρ') (htail : ∃ ρ', g (List.replicate (n + 2) .u) = .ok (.ret (.bl true)) ρ') {Q : VK} {nx : L2.St → Hp → Prop} (hQ : ∀ H', Q (.bl true) H') :
    tSeq (tFor (iList K t) (gName 1) tb) tt { nx := nx, rt := Q } (L2.start N [.ref a]) H := by
  obtain ⟨ρ1, hfit⟩ := hfit
  have hst : L2.start N [V.ref a] = some (V.ref a) :: List.replicate (n + 1) none := by
    unfold L2.start
    rw [hN]; rfl
  have S0 : SR K H (L2.start N [.ref a]) (.v (.scr ns) :: List.replicate (n + 1) .u) H := by
    rw [hst]
    refine ⟨fun _ _ h => h, by simp, fun i d e => ?_, fun i d e => ?_, fun i j b ⟨_, d, e⟩ _ => ?_⟩
    · match i, e with
      | 0, e => cases e; exact ⟨_, rfl, by unfold Rep; exact ⟨a, rfl, hS⟩⟩
      | i + 1, e => cases rep_get (show (List.replicate (n + 1) Sl.u)[i]? = some _ from e)
    · match i, e with
      | 0, e => rcases e with e | e <;> cases e
      | i + 1, e => rcases e with e | e <;> cases rep_get (show (List.replicate (n + 1) Sl.u)[i]? = some _ from e)
    · match i, e with
      | 0, e => rcases e with e | e <;> cases e
      | i + 1, e => rcases e with e | e <;> cases rep_get (show (List.replicate (n + 1) Sl.u)[i]? = some _ from e)
  have hlen0 : (L2.start N [V.ref a]).length = n + 2 := by rw [hst]; simp
  refine ht H _ _ H S0 _ ?_
  rw [hfit]
  intro v Hf' H' s1 S1 r
  unfold Rep at r
  obtain ⟨l, vs, rfl, hl, rs⟩ := r
  obtain ⟨bs, rfl, hbl, hbs⟩ := bags_rep rs
  have hl' := S1.sub _ _ hl
  have apart : ∀ (j : Nat) (b : Addr) (w : Bag), bs[j]? = some b → ws[j]? = some w → l ≠ b := fun j b w e1 e2 eq => by
    have q := hbs j b w e1 e2
    rw [← eq, hl] at q
    have q' : bs.map V.ref = w.v := by simpa using q
    cases bs with
    | nil => simp at e1
    | cons x xs => simp [Bag.v] at q'
  have uniq : ∀ (i j : Nat) (b : Addr) (w u : Bag), bs[i]? = some b → bs[j]? = some b → ws[i]? = some w → ws[j]? = some u → i = j := fun i j b w u e1 e2 e3 e4 => by
    have q1 := hbs i b w e1 e3
    have q2 := hbs j b u e2 e4
    rw [q1] at q2
    have q' : w.v = u.v := by simpa using q2
    unfold Bag.v at q'
    simp at q'
    exact hne i j w u e3 e4 q'.2.2
  refine ⟨l, rfl, ⟨_, SqL.of hl'⟩, for_list (K := K) (a := l) (xs := bs.map V.ref) (fun i σ H2 => σ.length = n + 2 ∧ H2 l = some (.lst (bs.map V.ref)) ∧ ∀ (j : Nat) (b : Addr) (w : Bag), i ≤ j → bs[j]? = some b → ws[j]? = some w → H2 b = some (.lst w.v))
    ⟨hlen0, hl', fun j b w _ e1 e2 => S1.sub _ _ (hbs j b w e1 e2)⟩ (fun i σ H2 _ P => SqL.of P.2.1) ?_ ?_⟩
  · intro i x σ H2 hx ⟨P1, P2, P3⟩
    rw [List.getElem?_map] at hx
    cases eb : bs[i]? with
    | none => rw [eb] at hx; cases hx
    | some b =>
      rw [eb] at hx
      cases hx
      have hi : i < ws.length := by rw [← hbl]; exact (List.getElem?_eq_some_iff.mp eb).1
      have ew : ws[i]? = some ws[i] := List.getElem?_eq_getElem hi
      have hH := P3 i b ws[i] (Nat.le_refl _) eb ew
      have l1 : (σ.set 1 (some (V.ref b))).length = n + 2 := by rw [List.length_set]; exact P1
      have g1 : (σ.set 1 (some (V.ref b)))[1]? = some (some (V.ref b)) := by rw [List.getElem?_set_self (by omega)]
      obtain ⟨ρ', hf⟩ := hbody ws[i] (List.getElem_mem hi)
      show tb _ _ _
      refine hb (fun _ => none) (σ.set 1 (some (V.ref b))) (bagRo ws[i] n) H2 (bag_sr l1 g1 hH) _ ?_
      rw [hf]
      intro Hf3 σ3 H3 s3 S3
      have noA : ∀ c, c ≠ b → ¬ OA (σ.set 1 (some (V.ref b))) (bagRo ws[i] n) c := fun c hc ⟨k, h1, d, h2⟩ => by
        obtain ⟨rfl, _⟩ := bagRo_own h2
        rw [g1] at h1
        cases h1
        exact hc rfl
      refine ⟨?_, s3.keep l _ P2 (noA l (apart i b ws[i] eb ew)), fun j c w hj e1 e2 => ?_⟩
      · rw [S3.len, s3.len]; simp [bagRo]
      · refine s3.keep c _ (P3 j c w (by omega) e1 e2) (noA c fun z => ?_)
        subst z
        have := uniq i j c ws[i] w eb e1 ew e2
        omega
  · intro σ H2 ⟨P1, _, _⟩
    obtain ⟨ρ', hg⟩ := htail
    refine htl (fun _ => none) σ (List.replicate (n + 2) .u) H2 (tail_sr P1) _ ?_
    rw [hg]
    intro Hf3 σ3 H3 s3 S3 v r
    unfold Rep at r
    subst r
    exact hQ H3
/-- a law's promise -/
def spLaw (K : PySem.W.Frag) : Sp := fun vs H Q _ => ∃ (a : Addr) (ns : List Int), vs = [.ref a] ∧ SqL K H a (ns.map V.int) ∧ ns.length ≤ 63 ∧ ∀ H', Q (.bl true) H'
end
/-! the parts of a law's text: for target in iter: body; tail -/
def forIter (st : Stmt) : Expr := match defBody st with
  | .For _ it _ _ _ :: _ => it
  | _ => .Constant .none 0 ⟨0, 0, 0, 0⟩
def forBody (st : Stmt) : List Stmt := match defBody st with
  | .For _ _ b _ _ :: _ => b
  | _ => []
def forTail (st : Stmt) : List Stmt := (defBody st).drop 1
def p61 : Int := 2305843009213693951
/-- a bag as the laws begin with it -/
def Bag.ok (w : Bag) : Prop := 0 ≤ w.a ∧ 0 ≤ w.b ∧ w.b < p61 ∧ 0 ≤ w.c ∧ w.c ≤ 100000
theorem glob_int {K : PySem.W.Frag} {h : Heap} {mg : Str → Option Value} {x : Str} {i : Int} {t : Tok} (X : K.In h) (G : h.Ns mainGlobals mg) (e : PySem.W.nsIn K mainGlobals x = some (some (.int i t))) : Glob K mg x (.int i) :=
  ⟨_, .int i, PySem.W.mg_of X G e, ⟨t, rfl⟩, fun _ => by unfold Rep; rfl⟩
/-- a written tuple of texts -/
theorem glob_strs {K : PySem.W.Frag} {h : Heap} {mg : Str → Option Value} {x : Str} {c : Addr} {o : Obj} {its : Array Value} {n : Nat} {ss : List Str} (X : K.In h) (G : h.Ns mainGlobals mg) (e : PySem.W.nsIn K mainGlobals x = some (some (.ref c)))
    (l : K.lookup c = some o) (hc : o.cls = .type "tuple") (ho : o.dict = none) (hd : o.data = .seq its n) (hz : its.size ≤ sizeLine) (hv : Vals (ss.map V.str) its.toList) : Glob K mg x (.tup (ss.map .str)) :=
  ⟨_, .ref c, PySem.W.mg_of X G e, rfl, fun Hf => by
    unfold Rep
    refine ⟨c, ss.map V.str, rfl, .inr ⟨o, its, n, l, hc, ho, hd, hz, hv⟩, ?_⟩
    clear hv
    induction ss with
    | nil => simp [Reps]
    | cons s ss ih => exact reps_cons (by unfold Rep; rfl) ih⟩
theorem exc_mk {K : PySem.W.Frag} {h : Heap} {mg : Str → Option Value} {x : Str} {C : Addr} (X : K.In h) (G : h.Ns mainGlobals mg) (e : PySem.W.nsIn K mainGlobals x = some (some (.ref C))) (q : PySem.W.excIn K C excBases "ValueError.__new__" = true)
    (k : PySem.W.keepIn K (.ref C) = true) (b : PySem.W.subIn K (.ref C) (.type "BaseException") = some true) (t : PySem.W.typeIn K (.ref C) = some (.type "type")) : ExcOk K mg x := ⟨C, PySem.W.mg_of X G e, q, k, b, t⟩
theorem cx_no {P : Program} {w : World} {st : List Env} {H : Hp} {s s' : Shared} {e : Value} (z : L2.CX P w st H s (fun _ _ _ => False) e s') : False := by
  unfold L2.CX at z
  obtain ⟨_, _, _, _, _, _, _, _, _, _, _, _, _, _, _, k⟩ := z
end DL

/-! The D layer, 14: dicts whose keys are ints and texts. -/
namespace DL
open PySem L2

section
variable {K : PySem.W.Frag} {mg : Str → Option Value} {W : XK} {Hf H Hf' H' Hf1 H1 : Hp} {σ : L2.St} {ρ : Ro}
/-- {} -/
theorem TF.dnew : TF K mg W tDNewK (retE (.dct [])) := by
  intro Hf σ ρ H S Q h p hp
  have n : New Hf H Hf (upd H p (.dK [])) := New.fresh S.sub hp
  exact h p Hf _ n.stp (n.sr S) hp (none_sub S.sub hp) ⟨[], upd_same, by unfold Repk; rfl⟩ (fresh_no S hp)
/-- d.get(k, x) -/
def getF (d kd z : D) : Option D := match d with
  | .dct kvs => (keyD kd).map fun k => (valD kvs k).getD z
  | _ => none
def getE (fd fk fx : EM D) : EM D := bindM fd fun d => bindM fk fun k => bindM fx fun z => liftO (getF d k z)
def isDct : D → Bool
  | .dct _ => true
  | _ => false
def getE' (fd fk fx : EM D) : EM D := bindM fd fun d => if isDct d then bindM fk fun k => bindM fx fun z => liftO (getF d k z) else fun _ => .bad
theorem TD.get {td tk tx : TE} {fd fk fx : EM D} (hd : TD K mg W td fd) (hk : TD K mg W tk fk) (hx : TD K mg W tx fx) : TD K mg W (tDGet2 td tk tx) (DL.getE' fd fk fx) := by
  intro Hf σ ρ H S Q h
  refine hd Hf σ ρ H S _ ((Wp.bind h).mono fun d ρ1 h1 v Hf1 H1 s1 S1 r1 => ?_)
  cases d <;> simp only [isDct] at h1 <;> (try exact h1.elim)
  rename_i kvs
  obtain ⟨a, o, vs, rfl, g1, g2⟩ := rep_dct r1
  refine ⟨a, rfl, .inl ⟨vs, .inr ⟨o, S1.sub _ _ g1⟩⟩, hk Hf1 σ ρ1 H1 S1 _ ((Wp.bind h1).mono fun kd ρ2 h2 w Hf2 H2 s2 S2 r2 => ?_)⟩
  refine hx Hf2 σ ρ2 H2 S2 _ ((Wp.bind h2).mono fun z ρ3 h3 u Hf3 H3 s3 S3 r3 => ?_)
  obtain ⟨dz, e, h4⟩ := Wp.lift h3
  unfold getF at e
  simp only at e
  obtain ⟨key, ek, rfl⟩ := map_inv e
  have hg := S3.sub _ _ (s3.fz _ _ (s2.fz _ _ g1))
  have hkv := keyD_rep ek r2
  obtain ⟨i1, i2⟩ := repk_val (k := key) g2
  refine ⟨valV vs key, .inl ⟨vs, key, .inr ⟨o, hg⟩, hkv, rfl⟩, ?_⟩
  cases ev : valD kvs key with
  | none =>
    rw [i2 ev]
    rw [ev] at h4
    exact h4 _ Hf3 H3 ((s1.trans s2).trans s3) S3 r3
  | some y =>
    obtain ⟨q, q1, q2⟩ := i1 y ev
    rw [q1]
    rw [ev] at h4
    exact h4 _ Hf3 H3 ((s1.trans s2).trans s3) S3 (Rep.mono s3.fz (Rep.mono s2.fz q2))
/-- the dict that slot i owns -/
def ownK (i : Nat) : EM (List (D × D)) := fun ρ => match ρ[i]? with
  | some (.o (.dct kvs)) => .ok kvs ρ
  | some (.p (.dct kvs)) => .ok kvs ρ
  | _ => .bad
theorem ownK_inv {i : Nat} {α : Type} {f : List (D × D) → EM α} {k : α → Ro → Prop} (S : SR K Hf σ ρ H) (h : Wp K mg W (bindM (ownK i) f ρ) k) :
    ∃ a kvs vs, σ[i]? = some (some (V.ref a)) ∧ (ρ[i]? = some (Sl.o (.dct kvs)) ∨ ρ[i]? = some (Sl.p (.dct kvs))) ∧ Hf a = none ∧ H a = some (.dK vs) ∧ Repk K Hf kvs vs ∧ Wp K mg W (f kvs ρ) k := by
  have h := Wp.bind h
  unfold ownK at h
  cases e : ρ[i]? with
  | none => rw [e] at h; exact h.elim
  | some x =>
    rw [e] at h
    match x, e, h with
    | .o (.dct kvs), e, h =>
      obtain ⟨a, h1, h2, vs, h3, h4⟩ := S.own i _ (.inl e)
      exact ⟨a, kvs, vs, h1, .inl rfl, h2, h3, h4, h⟩
    | .p (.dct kvs), e, h =>
      obtain ⟨a, h1, h2, vs, h3, h4⟩ := S.own i _ (.inr e)
      exact ⟨a, kvs, vs, h1, .inr rfl, h2, h3, h4, h⟩
/-- d[k] = x, d owned -/
def setKF (kvs : List (D × D)) (d kd : D) : Option (List (D × D)) := match keyD kd with
  | some k => if kvs.length ≤ 1000000 then some (putD kvs kd k d) else none
  | none => none
def setK (i : Nat) (fk fv : EM D) : SM := doS (bindM fv fun d => bindM (ownS i) fun _ => bindM fk fun j => bindM (ownK i) fun kvs => bindM (liftO (setKF kvs d j)) fun es => fun ρ => .ok () (putO i (.dct es) ρ))
theorem TSD.setK {i : Nat} {ti tv : TE} {fk fv : EM D} (he : TD K mg W ti fk) (hv : TD K mg W tv fv) : TSD K mg W (tAsg tv (gSub (tVar i) ti rSetD)) (DL.setK i fk fv) := by
  intro Hf σ ρ H S E h
  have h := Wp.rbind (show Wp K mg W (Res.bind ((bindM fv fun d => bindM (ownS i) fun _ => bindM fk fun j => bindM (ownK i) fun kvs => bindM (liftO (setKF kvs d j)) fun es => fun ρ => .ok () (putO i (.dct es) ρ)) ρ) fun _ ρ1 => .ok Fl.nx ρ1) _ from h)
  refine hv Hf σ ρ H S _ ((Wp.bind h).mono fun d ρ1 h1 v Hf1 H1 s1 S1 r1 => ?_)
  obtain ⟨⟨a, d0, k1, _⟩, h2⟩ := ownS_inv S1 h1
  refine ⟨.ref a, k1, he Hf1 σ ρ1 H1 S1 _ ((Wp.bind h2).mono fun j ρ2 h3 u Hf2 H2 s2 S2 r2 => ?_)⟩
  obtain ⟨b, kvs, vs, g1, g2, g3, g4, g5, g6⟩ := ownK_inv S2 h3
  cases own_same k1 g1
  obtain ⟨es, e, h4⟩ := Wp.lift (Wp.bind g6)
  unfold setKF at e
  cases ek : keyD j with
  | none => rw [ek] at e; cases e
  | some key =>
    rw [ek] at e
    simp only at e
    split at e
    · rename_i hl
      cases e
      refine ⟨a, upd H2 a (.dK (putK vs key v)), rfl, .inl ⟨vs, key, g4, keyD_rep ek r2, ?_, rfl⟩, ?_⟩
      · rw [← repk_len g5]; exact Nat.lt_of_le_of_lt hl (by decide)
      · obtain ⟨s3, S3⟩ := own_upd (o := .dK (putK vs key v)) (d' := .dct (putD kvs j key d)) S2 g1 g2 ⟨_, upd_same, repk_put ek (Rep.mono s2.fz r1) g5⟩
        exact h4 Hf2 σ _ ((s1.trans s2).trans s3) S3
    · cases e
/-- dict(d) -/
def rDictC : List V → Hp → VK → Prop := fun xs H Q => ∃ (a : Addr) (kvs : List (Key × V)), xs = [.ref a] ∧ Rd H a (.dK kvs) ∧ ∀ p, H p = none → Q (.ref p) (upd H p (.dK kvs))
theorem cr_dictC {X : Cx} : CallR X (.type "dict") rDictC := call_dictD
def dictF : List D → Option D
  | [.dct kvs] => some (.dct kvs)
  | _ => none
theorem rdc_dictC : RDCF K rDictC dictF := by
  intro Hf H xs ds dz s r e Q k
  match ds, e, r with
  | [.dct kvs], e, r =>
    cases e
    obtain ⟨v, rfl, r1⟩ := reps1 r
    obtain ⟨a, o, vs, rfl, g1, g2⟩ := rep_dct r1
    exact ⟨a, vs, rfl, .inr ⟨o, s _ _ g1⟩, fun p hp => k p _ _ (New.fresh s hp) hp (none_sub s hp) ⟨vs, upd_same, g2⟩⟩
/-- {k: x} -/
def disp1E (fk fv : EM D) : EM D := bindM fk fun kd => bindM fv fun d => liftO ((keyD kd).map fun _ => .dct [(kd, d)])
theorem TF.disp1 {tk tv : TE} {fk fv : EM D} (hk : TD K mg W tk fk) (hv : TD K mg W tv fv) : TF K mg W (tDisp [(tk, tv)]) (disp1E fk fv) := by
  intro Hf σ ρ H S Q h p hp
  have n : New Hf H Hf (upd H p (.dK [])) := New.fresh S.sub hp
  have S0 := n.sr S
  have no0 : ¬ OA σ ρ p := fresh_no S hp
  refine hk Hf σ ρ _ S0 _ ((Wp.bind h).mono fun kd ρ1 h1 w Hf1 H1 s1 S1 r1 => ?_)
  refine hv Hf1 σ ρ1 H1 S1 _ ((Wp.bind h1).mono fun d ρ2 h2 u Hf2 H2 s2 S2 r2 => ?_)
  obtain ⟨dz, e, h3⟩ := Wp.lift h2
  obtain ⟨key, ek, rfl⟩ := map_inv e
  have s12 := s1.trans s2
  have hp2 : H2 p = some (.dK []) := s12.keep p _ upd_same no0
  have hf2 : Hf2 p = none := s12.out p (by rw [upd_same]; simp) (none_sub S.sub hp) fun z => no0 z.oa
  have no2 : ¬ OA σ ρ2 p := fun z => by
    rcases s12.oa z with z | z
    · rw [upd_same] at z; cases z
    · exact no0 z
  refine ⟨hp2, [(key, u)], by rw [keyD_rep ek r1]; rfl, by simp, ?_⟩
  have me : mergeK [] [(key, u)] = [(key, u)] := rfl
  rw [me]
  have st : Stp Hf σ ρ H Hf2 σ ρ2 H2 := n.stp.trans s12
  refine h3 p Hf2 (upd H2 p (.dK [(key, u)])) ⟨st.fz, fun b o z1 z2 => ?_, fun b z => ?_, st.out, st.pin, st.pin', st.oo, st.len⟩ ⟨fun b o z => ?_, S2.len, S2.val, fun i x z => ?_, S2.inj⟩ hp hf2 ⟨[(key, u)], upd_same, ?_⟩ no2
  · rw [upd_ne (fun eb => by rw [eb, hp] at z1; cases z1)]; exact st.keep b o z1 z2
  · by_cases eb : b = p
    · rw [eb, upd_same]; simp
    · rw [upd_ne eb]; exact st.there b z
  · rw [upd_ne (fun eb => by rw [eb, hf2] at z; cases z)]; exact S2.sub b o z
  · obtain ⟨a, g1, g2, g3⟩ := S2.own i x z
    have na : a ≠ p := fun ea => no2 ⟨i, by rw [← ea]; exact g1, x, z⟩
    exact ⟨a, g1, g2, RepO.mono (fun _ _ h => h) (upd_ne na) g3⟩
  · unfold Repk
    exact ⟨key, u, [], rfl, ek, r2, by unfold Repk; rfl⟩
/-- x in range(n) -/
def rRng1 : List V → Hp → VK → Prop := fun vs H Q => ∃ j, vs = [V.int j] ∧ ∀ p, H p = none → Q (.ref p) (upd H p (.rng 0 j))
theorem cr_rng1 {X : Cx} : CallR X (.type "range") rRng1 := by
  intro pins s σ H vs us Q I r ⟨j, e, q⟩
  subst e
  cases r with
  | cons h t =>
  cases t
  obtain ⟨t, rfl⟩ := h
  refine PySem.call_range_1 ⟨.ref s.heap.objs.size, upd H s.heap.objs.size (.rng 0 j), I.laid (t' := s.toks + 1 + 1) (fun b o e => Heap.get?_push_of_some _ e) (Nat.le_refl _) ?_, rfl, q _ (I.hok.fresh (Nat.le_refl _))⟩
  exact ⟨s.toks, t, s.toks + 1, Heap.get?_push_size _ rfl⟩
def rInRng : R2 := fun x y H Q => ∃ i a lo hi, x = V.int i ∧ y = V.ref a ∧ H a = some (.rng lo hi) ∧ Q (.bl (decide (lo ≤ i ∧ i < hi))) H
def inRgE (fa fb : EM D) : EM D := bindM fa fun x => bindM fb fun y => liftO (match x, y with | .int i, .int n => some (.bl (decide (0 ≤ i) && decide (i < n))) | _, _ => none)
theorem TD.inRg {ta tb : TE} {fa fb : EM D} (ha : TD K mg W ta fa) (hb : TD K mg W tb fb) : TD K mg W (tOp rInRng ta (tCB rRng1 (tCons tb tNil))) (inRgE fa fb) := by
  intro Hf σ ρ H S Q h
  refine ha Hf σ ρ H S _ ((Wp.bind h).mono fun x ρ1 h1 v Hf1 H1 s1 S1 r1 => ?_)
  refine hb Hf1 σ ρ1 H1 S1 _ ((Wp.bind h1).mono fun y ρ2 h2 u Hf2 H2 s2 S2 r2 => ?_)
  obtain ⟨dz, e, h3⟩ := Wp.lift h2
  match x, y, e, r1, r2 with
  | .int i, .int n, e, r1, r2 =>
    cases e
    cases rep_int r1
    cases rep_int r2
    refine ⟨n, rfl, fun p hp => ?_⟩
    have m : New Hf2 H2 Hf2 (upd H2 p (.rng 0 n)) := New.fresh S2.sub hp
    refine ⟨i, p, 0, n, rfl, rfl, upd_same, ?_⟩
    have eb : decide (0 ≤ i ∧ i < n) = (decide (0 ≤ i) && decide (i < n)) := by simp
    rw [eb]
    exact h3 _ Hf2 _ ((s1.trans s2).trans m.stp) (m.sr S2) (by unfold Rep; rfl)
end
section
variable {X : Cx} {W : XK} {a b c e : Expr} {fa fb fc fe : EM D} {pos pos' : Pos} {x y : Str}
theorem d_inRg {p q : Pos} (hg : Gl X "range") (hm : X.mg "range" = none) (ha : PD X W a fa) (hb : PD X W b fb) (n1 : starEach [b] X.env = (false, eval b X.env) :: starEach [] X.env) (h1 : behindInMarks .In (.Call (.Name "range" p) [b] [] q) = false) :
    PD X W (.Compare a [.In] [.Call (.Name "range" p) [b] [] q] pos) (inRgE fa fb) :=
  let ⟨_, a1, a2⟩ := ha.ex; let ⟨_, b1, b2⟩ := hb.ex; ⟨_, pe_cmpR op_in_rng a1 (pe_callTy cr_rng1 hg hm bb_range (pa_cons b1 pa_nil n1) (by decide) (by decide) n1 rfl) h1, TD.inRg a2 b2⟩
theorem f_disp1 (ha : PD X W a fa) (hb : PD X W b fb) : PF X W (.Dict [some a] [b] pos) (disp1E fa fb) := let ⟨_, a1, a2⟩ := ha.ex; let ⟨_, b1, b2⟩ := hb.ex; ⟨_, pe_disp (pps_cons a1 b1 pps_nil) rfl rfl (by simp) (by simp), TF.disp1 a2 b2⟩
theorem f_dnew : PF X W (.Dict [] [] pos) (retE (.dct [])) := ⟨_, pe_dnewK, TF.dnew⟩
theorem d_get {apos cpos : Pos} (hu : X.A.units + 64 < cLine) (ha : PD X W a fa) (hb : PD X W b fb) (hc : PD X W c fc) (m : M2 X a "get" apos b c cpos) : PD X W (.Call (.Attribute a "get" apos) [b, c] [] cpos) (getE' fa fb fc) :=
  let ⟨_, a1, a2⟩ := ha.ex; let ⟨_, b1, b2⟩ := hb.ex; let ⟨_, c1, c2⟩ := hc.ex; ⟨_, pe_dget2 (by omega) a1 b1 c1 m, TD.get a2 b2 c2⟩
theorem s_setK (i : Nat) {p2 : Pos} (hu : X.A.units + 64 < cLine) (hN : X.N[i]? = some y) (hv : Vis X.env.scope y) (hb : PD X W b fb) (he : PD X W e fe)
    (ha : ∀ v, assign (.Subscript (.Name y p2) b pos) X.env v = (do
      let ov ← holding [v] (eval (.Name y p2) X.env)
      let iv ← holding [v, ov] (eval b X.env)
      standAt pos
      holding [v, ov, iv] (setItem ov iv v)
      release [v, ov, iv] []))
    (hs : swapsWithSole [.Subscript (.Name y p2) b pos] e pos'.line X.env = pure false) (hw : swappedStores [.Subscript (.Name y p2) b pos] e X.env = pure none) (h1 : (assignEach [.Subscript (.Name y p2) b pos] X.env).map (·.2) = [assign (.Subscript (.Name y p2) b pos) X.env])
    (hd : (y == ("__debug__" : Str)) = false := by decide) (hcd : (y == ("__classdict__" : Str)) = false := by decide) :
    PSD X W (.Assign [.Subscript (.Name y p2) b pos] e pos') (setK i fb fe) := let ⟨_, b1, b2⟩ := hb.ex; let ⟨_, e1, e2⟩ := he.ex; ⟨_, ps_asg e1 (pg_sub (pe_var hN hv hd hcd) b1 (set_dict (by omega)) ha) hs hw h1, TSD.setK b2 e2⟩
end
end DL

/-! The D layer, 15: list(d.values()). -/
namespace DL
open PySem L2 PySem.W PySem.Calls

section
variable {X : Cx} {e : Expr} {td : TE} {p pos apos cpos : Pos}
def tListVals (td : TE) : TE := fun σ H Q => td σ H fun x H1 => ∃ d o kvs, x = .ref d ∧ H1 d = some (.frz o (.dK kvs)) ∧ kvs.length ≤ 1000000 ∧ ∀ q, H1 q = none → Q (.ref q) (upd H1 q (.lst (kvs.map (·.2))))
theorem kv_vals : ∀ {kvs : List (Key × V)} {vs : List (Key × Value)}, KV kvs vs → Vals (kvs.map (·.2)) (vs.map (·.2))
  | _, _, .nil => .nil
  | _, _, .cons h t => .cons h.2 (kv_vals t)
theorem pe_listVals (hc : X.calm = true) (he : PE X e td) (hg : Gl X "list") (hm : X.mg "list" = none) (hbase : attributeBase e "values" X.env (eval e X.env) = eval e X.env) (hline : (apos.endLine == cpos.line) = true)
    (na : starEach [.Call (.Attribute e "values" apos) [] [] cpos] X.env = (false, eval (.Call (.Attribute e "values" apos) [] [] cpos) X.env) :: starEach [] X.env) :
    PE X (.Call (.Name "list" p) [.Call (.Attribute e "values" apos) [] [] cpos] [] pos) (tListVals td) := by
  refine ⟨fun pins s σ H Q I h => PyProof.Rows.Call_ (ld_blt I hg hm PyProof.Rows.boot_list (PyProof.Rows.callWith_type1 (PyProof.Rows.args_cons ?_ na) na rfl))⟩
  refine wpAny_Call_method (T := "dict") (id := "dict.values") hbase rfl hline F.plainAttrs_dict F.slot_dict_values F.type_dict_values (thn (he.run pins s σ H _ I h) fun u s1 ⟨x, H1, I1, rx, d, o, kvs, ex, hd, hn, q⟩ => ?_)
  subst ex
  cases rx
  obtain ⟨g1, g2, g3, es, ep, vs, g4, g5, g6, g7⟩ := I1.frzK hd
  refine ⟨g7.dictOf.typeIs, g7.dictOf.mapOf.noDict, ?_⟩
  have I2 : Inv X pins σ H1 { s1 with heap := s1.heap.push { cls := .type "dict_values", data := .fields #[.ref d] } } := I1.kept (t' := s1.toks) fun b ob z => Heap.get?_push_of_some _ z
  show wpAny _ _ (callWith cpos (.builtin "dict.values") [.ref d] [] []) _ X.xe s1
  refine method_meetsIn F.slot_dict_values F.entry_dict_values rfl (PySem.evalArgs_none ⟨rfl, g7.dictOf.typeIs, F.args_dict_values_1 _, _, meets_dict_values (mixKind X.prog X.w) d g1, ⟨vs, g7.dictOf⟩, PyProof.Rows.args_nil ?_⟩)
  have hlen : vs.length = kvs.length := (Paired.length g6).symm
  refine kdl_call (kdl_values (knd := mixKind X.prog X.w) (kvs := vs) (ep := ep) (d := d)) (I2.ok.hd hc) ⟨⟨_, Heap.get?_push_size _ rfl, rfl, rfl⟩, g7.push _⟩ (by rw [hlen, sizeLine_eq]; omega) fun h' tk acc c k hD hacc => ?_
  have ea : acc.toList = vs.map (·.2) := by
    apply List.ext_getElem?
    intro j
    rcases Nat.lt_or_ge j vs.length with hj | hj
    · have hj2 : j < acc.size := by rw [hacc.1]; exact hj
      obtain ⟨key, hk⟩ := hacc.2 j acc[j] (Array.getElem?_eq_getElem hj2)
      rw [List.getElem?_map, hk, Array.getElem?_toList, Array.getElem?_eq_getElem hj2]; rfl
    · rw [List.getElem?_eq_none (by rw [Array.length_toList, hacc.1]; exact hj), List.getElem?_eq_none (by simpa using hj)]
  have J := I2.laid (t' := tk) (h' := h') (o := .lst (kvs.map (·.2))) k (Nat.le_refl _) ⟨by rw [List.length_map, sizeLine_eq]; omega, acc.toList, c, by rw [ea]; exact kv_vals g6, by rw [Array.toArray_toList]; exact hD⟩
  exact ⟨.ref _, _, J, rfl, q _ (I2.hok.fresh (Nat.le_refl _))⟩
end
section
variable {K : PySem.W.Frag} {mg : Str → Option Value} {W : XK} {Hf H : Hp} {td : TE} {fe : EM D}
theorem repk_vals : ∀ {kvs : List (D × D)} {vs : List (Key × V)}, Repk K Hf kvs vs → Reps K Hf (kvs.map (·.2)) (vs.map (·.2))
  | [], vs, r => by unfold Repk at r; subst r; simp [Reps]
  | (k, d) :: kvs, vs, r => by
    unfold Repk at r
    obtain ⟨k', v, r', rfl, h1, h2, h3⟩ := r
    rw [List.map_cons, List.map_cons]
    exact reps_cons h2 (repk_vals h3)
def valsE (fe : EM D) : EM D := bindM fe fun d => liftO (match d with | .dct kvs => if kvs.length ≤ 1000000 then some (.lst (kvs.map (·.2))) else none | _ => none)
theorem TF.vals (he : TD K mg W td fe) : TF K mg W (tListVals td) (valsE fe) := by
  intro Hf σ ρ H S Q h
  refine he Hf σ ρ H S _ ((Wp.bind h).mono fun d ρ1 h1 v Hf1 H1 s1 S1 r1 => ?_)
  obtain ⟨dz, e, h2⟩ := Wp.lift h1
  match d, e, r1 with
  | .dct kvs, e, r1 =>
    simp only at e
    split at e
    · rename_i hl
      cases e
      obtain ⟨a, o, vs, rfl, g1, g2⟩ := rep_dct r1
      refine ⟨a, o, vs, rfl, S1.sub _ _ g1, by rw [← repk_len g2]; exact hl, fun p hp => ?_⟩
      have m : New Hf1 H1 Hf1 (upd H1 p (.lst (vs.map (·.2)))) := New.fresh S1.sub hp
      refine h2 p Hf1 _ (s1.trans m.stp) (m.sr S1) ?_ (none_sub S1.sub hp) ⟨_, upd_same, repk_vals g2⟩ (fresh_no S1 hp)
      cases e : H p with
      | none => rfl
      | some o => exact absurd hp (s1.there p (by rw [e]; simp))
    · cases e
end
section
variable {X : Cx} {W : XK} {a : Expr} {fa : EM D} {p pos apos cpos : Pos}
theorem f_vals (hg : Gl X "list") (hm : X.mg "list" = none) (ha : PD X W a fa) (hbase : attributeBase a "values" X.env (eval a X.env) = eval a X.env) (hline : (apos.endLine == cpos.line) = true)
    (na : starEach [.Call (.Attribute a "values" apos) [] [] cpos] X.env = (false, eval (.Call (.Attribute a "values" apos) [] [] cpos) X.env) :: starEach [] X.env) (hc : X.calm = true := by rfl) :
    PF X W (.Call (.Name "list" p) [.Call (.Attribute a "values" apos) [] [] cpos] [] pos) (valsE fa) := let ⟨_, a1, a2⟩ := ha.ex; ⟨_, pe_listVals hc a1 hg hm hbase hline na, TF.vals a2⟩
end
end DL

/-! The D layer, 16: a, b = new, x. -/
namespace DL
open PySem L2

section
variable {K : PySem.W.Frag} {mg : Str → Option Value} {W : XK} {Hf H : Hp}
/-- a, b = a new list or dict, x: a owns it -/
def parNewS (i j : Nat) (fa fb : EM D) : SM := fun ρ => (fa ρ).bind fun d ρ1 => (fb ρ1).bind fun e ρ2 => match ρ2[i]? with
  | none => .bad
  | some (.p _) => .bad
  | some _ => match setT j e (ρ2.set i (.o d)) with
    | some ρ3 => .ok .nx ρ3
    | none => .bad
theorem TSD.parNew {i j : Nat} {ta tb : TE} {fa fb : EM D} (ha : TF K mg W ta fa) (hb : TD K mg W tb fb) : TSD K mg W (tPar i j (tCons ta (tCons tb tNil))) (parNewS i j fa fb) := by
  intro Hf σ ρ H S E h
  refine ha Hf σ ρ H S _ ((Wp.rbind h).mono fun d ρ1 h1 a Hf1 H1 s1 S1 ha0 hf1 ro no1 => ?_)
  refine hb Hf1 σ ρ1 H1 S1 _ ((Wp.rbind h1).mono fun e ρ2 h2 v Hf2 H2 s2 S2 r2 => ?_)
  refine ⟨.ref a, v, rfl, ?_⟩
  obtain ⟨o, ea⟩ : ∃ o, H1 a = some o := by
    cases e : H1 a with
    | none => exact absurd e ro.there
    | some o => exact ⟨o, rfl⟩
  have k2 : H2 a = some o := s2.keep a o ea no1
  have hf2 : Hf2 a = none := s2.out a ro.there hf1 fun z => no1 z.oa
  have ro2 : RepO K Hf2 H2 d a := RepO.mono s2.fz (by rw [k2, ea]) ro
  have no2 : ¬ OA σ ρ2 a := fun z => by
    rcases s2.oa z with z | z
    · exact ro.there z
    · exact no1 z
  cases e1 : ρ2[i]? with
  | none => rw [e1] at h2; exact h2.elim
  | some x =>
    have hl : i < ρ2.length := (List.getElem?_eq_some_iff.mp e1).1
    rw [e1] at h2
    have go : (∀ d' : D, x ≠ Sl.p d') → Wp K mg W ((match setT j e (ρ2.set i (.o d)) with | some ρ3 => .ok .nx ρ3 | none => .bad : Res Fl)) (Cont K E Hf σ ρ H) → E.nx ((σ.set i (some (.ref a))).set j (some v)) H2 := fun hx h2 => by
      obtain ⟨s3, S3⟩ := set_o S2 hf2 ro2 no2 hl (fun d' z => by rw [e1] at z; exact hx d' (Option.some.inj z)) (s1.trans s2) ha0
      cases e2 : setT j e (ρ2.set i (.o d)) with
      | none => rw [e2] at h2; exact h2.elim
      | some ρ3 =>
        rw [e2] at h2
        obtain ⟨b1, b2, rfl⟩ := setT_inv e2
        obtain ⟨s4, S4⟩ := set_v S3 r2 b1 b2
        exact h2 Hf2 _ H2 (s3.trans s4) S4
    cases x with
    | p d' => exact h2.elim
    | u => exact go (fun _ z => by cases z) h2
    | v d' => exact go (fun _ z => by cases z) h2
    | o d' => exact go (fun _ z => by cases z) h2
end
section
variable {X : Cx} {W : XK} {a b : Expr} {fa fb : EM D} {pos : Pos}
theorem s_parNew (i j : Nat) {x y : Str} {px py pt : Pos} {kt k2 pt2} (hc : X.calm = true) (hN : X.N.Nodup) (hi : X.N[i]? = some x) (hj : X.N[j]? = some y) (hij : i ≠ j)
    (hx : X.env.scope.names.lookup x = some .local) (hy : X.env.scope.names.lookup y = some .local) (ha : PF X W a fa) (hb : PD X W b fb) (n1 : starEach [a, b] X.env = (false, eval a X.env) :: starEach [b] X.env) (n2 : starEach [b] X.env = (false, eval b X.env) :: starEach [] X.env)
    (hw : swappedStores [.Tuple [.Name x px, .Name y py] kt pt] (.Tuple [a, b] k2 pt2) X.env = pure (some [x, y]))
    (hs : swapsWithSole [.Tuple [.Name x px, .Name y py] kt pt] (.Tuple [a, b] k2 pt2) pos.line X.env = pure false) :
    PSD X W (.Assign [.Tuple [.Name x px, .Name y py] kt pt] (.Tuple [a, b] k2 pt2) pos) (parNewS i j fa fb) := let ⟨_, a1, a2⟩ := ha.ex; let ⟨_, b1, b2⟩ := hb.ex; ⟨_, ps_par hc hN hi hj hij hx hy (pa_cons a1 (pa_cons b1 pa_nil n2) n1) hw hs, TSD.parNew a2 b2⟩
end
end DL

/-! The D layer, 17: enumerate(tuple), dict(tuple of pairs). -/
namespace DL
open PySem L2 PySem.W PySem.Calls PyProof.Rows
open Sem (wp)
open AutoSeq1 (wpAny_loadPart')

theorem meets_enumT (l : Addr) (items : Array Value) (n : Nat) (dct : Option Addr) (sl : Array (Option Value)) :
    Meets (Builtin.«enumerate.__new__» ⟨[.type "enumerate", .ref l], []⟩) (fun _ R s => s.heap.get? l = some { cls := .type "tuple", dict := dct, data := .seq items n, slots := sl } ∧
      R (.ok (.ret (.ref (s.heap.push { cls := .type "tuple_iterator", data := .fields #[.ref l, .int 0 0] }).objs.size)))
        { s with heap := (s.heap.push { cls := .type "tuple_iterator", data := .fields #[.ref l, .int 0 0] }).push { cls := .type "enumerate", data := .fields #[.none, .bool false, .ref s.heap.objs.size, rawInt 0, .none, .none] } }) :=
  .of_wp fun prog w A R s h => by
    obtain ⟨hp, g, d, tk, os⟩ := s; obtain ⟨hl, h⟩ := h
    have hsub := sub_enumerate
    have hL : Heap.IsTuple (Shared.heap ⟨hp, g, d, tk, os⟩) l items := ⟨_, hl, rfl, n, rfl⟩
    wp_walk using wpAny_loadPart' hl
    refine wpAny_stack_any fun st => wpAny_pure ?_
    split
    · rename_i c _ _ _ _ _
      cases (c == Value.type "enumerate")
      · wp_walk using wpAny_loadPart' hl, wpAny_pyIter_tuple hL
        exact ⟨_, rfl, h⟩
      · wp_walk using wpAny_loadPart' hl, wpAny_pyIter_tuple hL
        exact ⟨_, rfl, h⟩
    · wp_walk using wpAny_loadPart' hl, wpAny_pyIter_tuple hL
      exact ⟨_, rfl, h⟩
section
variable {prog : Program} {w : World} {A : Around} {E : Value → Shared → Prop} {s : Shared}
theorem call_enumT {l : Addr} {items : Array Value} {Q : Value → Shared → Prop} (hL : s.heap.IsTuple l items)
    (h : ∀ h', IsEnum h' (s.heap.objs.size + 1) s.heap.objs.size 0 .none → h'.IsTupleIter s.heap.objs.size l 0 → h'.objs.size = s.heap.objs.size + 2 →
      (∀ b o, s.heap.get? b = some o → h'.get? b = some o) → Q (.ref (s.heap.objs.size + 1)) { s with heap := h' }) :
    wpAny (model prog w) A (call (.type "enumerate") [.ref l]) Q E s := by
  obtain ⟨⟨c, dct, dt, sl⟩, hl, hc, n, hd⟩ := hL
  replace hc : c = .type "tuple" := hc
  replace hd : dt = .seq items n := hd
  subst hc hd
  refine callType_new F.called_enumerate (by decide) (F.typeCall_enumerate_1 _) (F.newCall_enumerate_1 _) (fun obj => F.args_object_init_2 obj _) F.entry_enumerate_new
    (meets_enumT l items n dct sl) ⟨hl, ?_⟩
  have hz : (s.heap.push { cls := .type "tuple_iterator", data := .fields #[.ref l, .int 0 0] }).objs.size = s.heap.objs.size + 1 := Heap.size_push ..
  show _ ∧ _
  rw [hz]
  have he : IsEnum ((s.heap.push { cls := .type "tuple_iterator", data := .fields #[.ref l, .int 0 0] }).push
      { cls := .type "enumerate", data := .fields #[.none, .bool false, .ref s.heap.objs.size, rawInt 0, .none, .none] }) (s.heap.objs.size + 1) s.heap.objs.size 0 .none := by
    have := Heap.get?_push_size (s.heap.push { cls := .type "tuple_iterator", data := .fields #[.ref l, .int 0 0] })
      (o := { cls := .type "enumerate", data := .fields #[.none, .bool false, .ref s.heap.objs.size, rawInt 0, .none, .none] }) rfl
    rw [hz] at this; exact this
  exact ⟨⟨_, he, rfl⟩, h _ he ⟨_, Heap.get?_push_of_some _ (Heap.get?_push_size _ rfl), rfl, rfl⟩ (by rw [Heap.size_push, hz]) fun b o x => Heap.get?_push_of_some _ (Heap.get?_push_of_some _ x)⟩
end

/-- the tuple at a as it stands at each turn, each item in a new pair -/
def IteT (K : PySem.W.Frag) (a : Addr) : It :=
  ⟨fun i H => ∃ (xs : List V) (x : V), SqT K H a xs ∧ xs[i]? = some x, fun i H v H' => ∃ T x, v = .ref T ∧ H T = none ∧ H' = upd H T (.tup [.int (i : Nat), x]) ∧ ∀ xs, SqT K H a xs → xs[i]? = some x, fun i H => ∃ xs : List V, SqT K H a xs ∧ xs.length ≤ i⟩
theorem turn_enumT {P : Program} {w : World} {K : PySem.W.Frag} {elts : List Expr} {kk : Nat} {tpos : Pos} (a e it : Addr) :
    Turn P w K (.Tuple elts kk tpos) (IteT K a) [e, it] e (fun i h => (∃ old, IsEnum h e it ((i : Nat) : Int) old) ∧ h.IsTupleIter it a i ∧ e ≠ it) where
  mem := by simp
  obj := fun i h st b hb => by
    obtain ⟨⟨old, he⟩, ⟨o, ho, hc, hd⟩, _⟩ := st
    have e' : b = e ∨ b = it := by simpa using hb
    rcases e' with z | z
    · rw [z]; exact ⟨_, he, fun v q => nomatch q⟩
    · rw [z]; exact ⟨o, ho, fun v q => by rw [hd] at q; cases q⟩
  keep := fun i h h' st k => let ⟨⟨old, he⟩, hi, hne⟩ := st; ⟨⟨old, k e (by simp) _ he⟩, hi.at fun o q => k it (by simp) o q, hne⟩
  item := by
    intro X hP hw hK hc i pins s σ H E I hf st hg
    subst hP hw hK
    obtain ⟨⟨old, he⟩, hit, hne⟩ := st
    obtain ⟨xs, x, hq, hx⟩ := hg
    obtain ⟨its, rv, p, hz⟩ := I.tuple hq
    obtain ⟨u, hu, ru⟩ := rv.get hx
    have hp : s.heap.IsTuple a its.toArray := p
    have hel : e < s.heap.objs.size := Heap.lt_size he
    have hil : it < s.heap.objs.size := by obtain ⟨_, q, _⟩ := hit; exact Heap.lt_size q
    have hai : a ≠ it := fun z => by
      obtain ⟨o, q1, q2, _⟩ := p
      obtain ⟨o', q3, q4, _⟩ := hit
      rw [z, q3] at q1; cases q1; rw [q4] at q2; simp at q2
    have hae : e ≠ a := fun z => by
      obtain ⟨o, q1, q2, _⟩ := p
      rw [← z, he] at q1; cases q1; simp at q2
    have hlt : i < its.toArray.size := by
      have := (List.getElem?_eq_some_iff.mp hu).1
      simpa using this
    refine wpAny_pyNext_enum_itemD (Draws.tuple (A := X.A.in1) (I.ok.hd hc) it a hai its.toArray) he ⟨hit, hp⟩ hlt hne (by simp [hne, hae]) fun x' h' tk hx' ho hst' hT hsz hk => ?_
    have ex : x' = u := by
      have h1 : its.toArray[i]? = some u := by simpa using hu
      rw [h1] at hx'; exact (Option.some.inj hx').symm
    subst ex
    refine ⟨_, rfl, wpAny_letOwnedTupleGo_enum (s := { s with heap := h', toks := tk + 1 }) ho fun h'' he' sb => ?_⟩
    have hT2 : h''.get? s.heap.objs.size = some { cls := .type "tuple", data := .seq #[.int i tk, x'] } := (sb.2 _ (Nat.ne_of_gt hel)).trans hT
    have new : ObjOk X.prog X.w (upd H s.heap.objs.size (.tup [.int (i : Nat), x])) h'' s.heap.objs.size (.tup [.int (i : Nat), x]) :=
      ⟨by show 2 ≤ sizeLine; decide, [.int i tk, x'], .cons ⟨_, rfl⟩ (.cons ru .nil), ⟨_, hT2, rfl, _, rfl⟩⟩
    have I1 : Inv X pins σ (upd H s.heap.objs.size (.tup [.int (i : Nat), x])) { s with heap := h'', toks := tk + 1 } :=
      I.turnedNew (ch := [e, it]) (fun b ob hb q => (sb.2 b (fun z => hb (by simp [z]))).trans (hk b ob (fun z => hb (by simp [z])) (fun z => hb (by simp [z])) q)) hf (Nat.le_refl _) new
    refine ⟨.ref s.heap.objs.size, _, I1, rfl, ⟨_, x, rfl, I.hok.fresh (Nat.le_refl _), rfl, fun ys hy => by rw [I.tuple_inj hy hq]; exact hx⟩, ⟨⟨x', ?_⟩, hst'.1.at fun o q => (sb.2 it (Ne.symm hne)).trans q, hne⟩, fun b hb => ?_⟩
    · have e1 : ((i + 1 : Nat) : Int) = (i : Int) + 1 := by omega
      rw [e1]; exact he'
    · have hb' : b < s.heap.objs.size := by
        have e' : b = e ∨ b = it := by simpa using hb
        rcases e' with z | z
        · rw [z]; exact hel
        · rw [z]; exact hil
      rw [upd_ne (Nat.ne_of_lt hb')]
      exact (hf b hb).1
  done := by
    intro X hP hw hK hc i pins s σ H E I hf st hg
    subst hP hw hK
    obtain ⟨⟨old, he⟩, hit, hne⟩ := st
    obtain ⟨xs, hq, hx⟩ := hg
    obtain ⟨its, rv, p, hz⟩ := I.tuple hq
    have hp : s.heap.IsTuple a its.toArray := p
    obtain ⟨f0, f1, f2, f3, f4, f5⟩ := hf it (by simp)
    have hl := rv.length
    have hT : s.TypeIs (.ref e) "enumerate" := ⟨_, he, rfl⟩
    unfold pyNext
    refine wpAny_bind (wpAny_attempt (wpAny_callSpecial?_slot (name := Str.ofString "__next__") hT F.slot_enumerate_next
      (wpAny_call_entry F.slot_enumerate_next hT F.entry_enumerate_next ?_ (F.args_enumerate_next_1 _))))
    show wpAny _ _ (field (.ref e) 2 >>= _) _ _ _
    refine wpAny_bind (wpAny_field he rfl (x := .ref it) rfl ?_)
    refine wpAny_bind (wpAny_nextOf_tuple_end (I.ok.hd hc) hit hp (by simp; omega) fun h' x he' hx' => ?_)
    obtain ⟨o, ho, hcc⟩ := hx'
    refine wpAny_bind (wpAny_isInstance (T := "StopIteration") (b := true) ⟨o, ho, hcc⟩ isSubtype_stop ?_)
    exact wpAny_pure ⟨rfl, I.turned (t' := s.toks) (fun b o hb q => he' b o hb q) f0 f1 f3 f4 f5⟩
  self := fun A i s Q E st h => let ⟨⟨_, he⟩, _⟩ := st; wpAny_pyIter_enum he h
/-- enumerate of a list or tuple -/
def iEnumA (K : PySem.W.Frag) (ta : TA) : TI := fun σ H R => ta σ H fun vs H1 => ∃ a xs, vs = [.ref a] ∧ ((SqL K H1 a xs ∧ R (Ite K a) H1) ∨ (SqT K H1 a xs ∧ R (IteT K a) H1))
theorem pi_enumA {X : Cx} {e : Expr} {ta : TA} {p pos tpos : Pos} {elts : List Expr} {kk : Nat} (hg : Gl X "enumerate") (hm : X.mg "enumerate" = none) (ha : PA X [e] ta) (hs : starEach [e] X.env = [(false, eval e X.env)] := by rfl) :
    PI X (.Tuple elts kk tpos) (.Call (.Name "enumerate" p) [e] [] pos) (iEnumA X.K ta) := by
  refine ⟨fun pins s σ H R I h => ?_⟩
  refine Call_ (ld_blt I hg hm boot_enumerate (PyProof.Rows.callWith_type1 (thn (ha.run pos pins s σ H _ I h) fun us s1 ⟨vs, H1, I1, r1, q1⟩ => ?_) hs rfl))
  obtain ⟨a, xs, ex, hq⟩ := q1
  subst ex
  cases r1 with
  | cons r rr =>
    cases rr
    cases r
    have fin : ∀ b, b = s1.heap.objs.size + 1 ∨ b = s1.heap.objs.size → s1.heap.objs.size ≤ b := fun b e' => by
      rcases e' with z | z
      · rw [z]; exact Nat.le_add_right _ _
      · rw [z]; exact Nat.le_refl _
    rcases hq with ⟨hq, q⟩ | ⟨hq, q⟩
    · obtain ⟨its, rv, p', hz⟩ := I1.list hq
      refine call_enumerate_list p'.isList fun h' he hit hsz hk => wpAny_pyIter_enum he ?_
      have I2 : Inv X pins σ H1 { s1 with heap := h' } := I1.kept (t' := s1.toks) hk
      refine ⟨s1.heap.objs.size + 1, [s1.heap.objs.size + 1, s1.heap.objs.size], _, _, H1, rfl, I2, turn_enum a (s1.heap.objs.size + 1) s1.heap.objs.size, ⟨⟨.none, he⟩, hit, Nat.succ_ne_self _⟩, fun b hb => ?_, q⟩
      have hle := fin b (by simpa using hb)
      exact I1.fpOk hle (I1.hok.fresh hle)
    · obtain ⟨its, rv, p', hz⟩ := I1.tuple hq
      have hp : s1.heap.IsTuple a its.toArray := p'
      refine call_enumT hp fun h' he hit hsz hk => wpAny_pyIter_enum he ?_
      have I2 : Inv X pins σ H1 { s1 with heap := h' } := I1.kept (t' := s1.toks) hk
      refine ⟨s1.heap.objs.size + 1, [s1.heap.objs.size + 1, s1.heap.objs.size], _, _, H1, rfl, I2, turn_enumT a (s1.heap.objs.size + 1) s1.heap.objs.size, ⟨⟨.none, he⟩, hit, Nat.succ_ne_self _⟩, fun b hb => ?_, q⟩
      have hle := fin b (by simpa using hb)
      exact I1.fpOk hle (I1.hok.fresh hle)
section
variable {K : PySem.W.Frag} {mg : Str → Option Value} {W : XK} {Hf H : Hp}
theorem itd_enumT {a : Addr} {vs : List V} {ds : List D} (h : SqT K Hf a vs) (r : Reps K Hf ds vs) : Itd K (IteT K a) Hf (enumD ds) where
  go := fun i d Hf1 H1 s1 s2 e => by
    unfold enumD at e
    rw [List.getElem?_map, List.getElem?_zipIdx] at e
    cases e1 : ds[i]? with
    | none => rw [e1] at e; cases e
    | some d0 =>
      rw [e1] at e
      simp only [Option.map_some, Nat.zero_add] at e
      cases e
      obtain ⟨v, g1, g2⟩ := reps_get r e1
      have q : SqT K H1 a vs := Same.sqT s2 (Same.sqT s1 h)
      refine ⟨⟨vs, v, q, g1⟩, fun x H2 ⟨T, x', e2, hT, e3, hx⟩ => ?_⟩
      subst e2; subst e3
      have := hx vs q
      rw [g1] at this; cases this
      obtain ⟨n, r3⟩ := pair_rep (K := K) s2 hT (show Rep K Hf1 (.int (i : Nat)) (.int (i : Nat)) by unfold Rep; rfl) (Rep.mono s1 g2)
      exact ⟨_, n, r3⟩
  stop := fun Hf1 H1 s1 s2 => ⟨vs, Same.sqT s2 (Same.sqT s1 h), by unfold enumD; simp [reps_len r]⟩
def enumA (fa : EM (List D)) : EM (List D) := bindM fa fun ds => liftO (match ds with | [.lst es] => some (enumD es) | [.tup es] => some (enumD es) | _ => none)
theorem TID.enumA {ta : TA} {fa : EM (List D)} (ha : TAD K mg W ta fa) : TID K mg W (iEnumA K ta) (enumA fa) := by
  intro Hf σ ρ H S R h
  refine ha Hf σ ρ H S _ ((Wp.bind h).mono fun ds ρ1 h1 vs Hf1 H1 s1 S1 r1 => ?_)
  obtain ⟨es, e, h2⟩ := Wp.lift h1
  match ds, e, r1 with
  | [.lst xs], e, r1 =>
    obtain ⟨v, rfl, r2⟩ := reps1 r1
    obtain ⟨a, us, rfl, g1, g2⟩ := rep_lst r2
    cases e
    exact ⟨a, us, rfl, .inl ⟨rdSeq S1.sub g1, h2 _ Hf1 H1 s1 S1 (itd_enumL g1 g2)⟩⟩
  | [.tup xs], e, r1 =>
    obtain ⟨v, rfl, r2⟩ := reps1 r1
    obtain ⟨a, us, rfl, g1, g2⟩ := rep_tup r2
    cases e
    exact ⟨a, us, rfl, .inr ⟨Same.sqT S1.sub g1, h2 _ Hf1 H1 s1 S1 (itd_enumT g1 g2)⟩⟩
end
theorem i_enumA {X : Cx} {W : XK} {a : Expr} {fr : EM (List D)} {p pos : Pos} {elts : List Expr} {kk : Nat} {tpos : Pos} (hg : Gl X "enumerate") (hm : X.mg "enumerate" = none) (ha : PAD X W [a] fr) (hs : starEach [a] X.env = [(false, eval a X.env)]) :
    PID X W (.Tuple elts kk tpos) (.Call (.Name "enumerate" p) [a] [] pos) (enumA fr) := let ⟨_, a1, a2⟩ := ha.ex; ⟨_, pi_enumA hg hm a1 hs, TID.enumA a2⟩

/-! ### dict(tuple of pairs) -/
section
variable {X : Cx}
theorem pairs_of2 {pins : List (Addr × Obj)} {σ : L2.St} {H : Hp} {s : Shared} (I : Inv X pins σ H s) : ∀ {ps : List Addr} {kvs : List (Key × V)}, Paired (fun p kv => SqT X.K H p [kV kv.1, kv.2]) ps kvs →
    ∃ (prs : List (Key × Value)) (vps : List (Value × Value)), KV kvs prs ∧ prs.length = ps.length ∧ vps.length = ps.length ∧
      ∀ (j : Nat) (u y : Value), vps[j]? = some (u, y) → ∃ (b : Addr) (key : Key), ps[j]? = some b ∧ IsTup s.heap b #[u, y] ∧ prs[j]? = some (key, y) ∧ keyIs key u = true
  | _, _, .nil => ⟨[], [], .nil, rfl, rfl, fun j u y e => by simp at e⟩
  | _, _, .cons (a := p) (b := kv) h t => by
    obtain ⟨prs, vps, r, hl, hl2, hp⟩ := pairs_of2 I t
    obtain ⟨its, rv, ht, _⟩ := I.tuple h
    obtain ⟨u, y, ei, ru, ry⟩ := vals2 rv
    subst ei
    refine ⟨(kv.1, y) :: prs, (u, y) :: vps, .cons ⟨rfl, ry⟩ r, by rw [List.length_cons, List.length_cons, hl], by rw [List.length_cons, List.length_cons, hl2], fun j u' y' e => ?_⟩
    cases j with
    | zero =>
      have e' : (u, y) = (u', y') := Option.some.inj e
      cases e'
      exact ⟨p, kv.1, rfl, ht, rfl, kV_is (P := X.prog) (w := X.w) ru⟩
    | succ j =>
      obtain ⟨b, key, e1, e2, e3, e4⟩ := hp j u' y' (by simpa using e)
      exact ⟨b, key, by simpa using e1, e2, by simpa using e3, e4⟩
/-- dict(t), t a plain tuple of pairs: later pairs win, the place is the first one's -/
def rDictT (K : PySem.W.Frag) : List V → Hp → VK → Prop := fun xs H Q => ∃ (a : Addr) (ps : List Addr) (kvs : List (Key × V)), xs = [.ref a] ∧ ExT K H a (ps.map V.ref) ∧ Paired (fun p kv => SqT K H p [kV kv.1, kv.2]) ps kvs ∧
  ∀ p, H p = none → Q (.ref p) (upd H p (.dK (mergeK [] kvs)))
theorem exT_at {pins : List (Addr × Obj)} {σ : L2.St} {H : Hp} {s : Shared} (I : Inv X pins σ H s) {a : Addr} {vs : List V} (h : ExT X.K H a vs) : ∃ (o : Obj) (its : List Value) (n : Nat), s.heap.get? a = some o ∧ o.cls = .type "tuple" ∧ o.dict = none ∧ o.data = .seq its.toArray n ∧ Vals vs its ∧ vs.length ≤ sizeLine := by
  rcases h with ⟨o, h, ho⟩ | ⟨o, its, n, h1, h2, h3, h4, h5, h6⟩
  · obtain ⟨e, z, its, r, o', e', c, n, d⟩ := I.hok a _ h
    rw [e] at e'; cases e'
    exact ⟨o, its, n, e, c, ho, d, r, z⟩
  · refine ⟨o, its.toList, n, I.kIn a o h1, h2, h3, by simpa using h4, h6, ?_⟩
    rw [h6.length]; simpa using h5
theorem call_dictT (hcalm : X.calm = true) : CallR X (.type "dict") (rDictT X.K) := by
  intro pins s σ H xs us Q I r q
  obtain ⟨a, ps, kvs, ex, hq, hp, q⟩ := q
  subst ex
  obtain ⟨u, eu, rx⟩ := vals1 r
  subst eu
  cases rx
  obtain ⟨o, its, n, ho, hc, hd, hdat, rv, hz⟩ := exT_at I hq
  have ei := refs_at rv
  subst ei
  rw [List.length_map] at hz
  obtain ⟨prs, vps, rel, hl, hl2, hpr⟩ := pairs_of2 I hp
  refine PySem.call_dict_pairs (knd := mixKind X.prog X.w) (kvs := prs) (PySem.PairArg.tuple a (ps.map Value.ref).toArray (fun j => ps.getD j 0) vps) (I.ok.hd hcalm)
    ⟨⟨o, n, ho, hc, hd, hdat⟩, by simp [hl2], fun j k v e => ?_⟩ ⟨by rw [hl, hl2], fun i key v e => ?_⟩ (by rw [hl2]; exact hz) fun h' tk hd' k => ?_
  · obtain ⟨b, key, e1, e2, e3, e4⟩ := hpr j k v e
    have e5 : ps.getD j 0 = b := by rw [List.getD_eq_getElem?_getD, e1]; rfl
    show (ps.map Value.ref).toArray[j]? = some (.ref (ps.getD j 0)) ∧ PairAt s.heap (ps.getD j 0) k v
    rw [e5]
    exact ⟨by simp [e1], .inl e2⟩
  · obtain ⟨b, key', e1, e2, e3, e4⟩ := hpr i key v e
    exact ⟨key', e3, e4⟩
  · have hm : (s.heap.objs.size == sysModules) = false := beq_eq_false_iff_ne.mpr (Nat.ne_of_gt I.big)
    have hlen : (mergeK [] kvs).length ≤ sizeLine := by
      refine Nat.le_trans (length_mergeK kvs []) ?_
      rw [List.length_nil, Nat.zero_add, rel.length, hl]
      exact hz
    exact ⟨.ref s.heap.objs.size, upd H s.heap.objs.size (.dK (mergeK [] kvs)), I.laid (t' := tk) (fun b o e => k b o (by simp) e) (Nat.le_refl _) (show ObjOk X.prog X.w _ _ _ (.dK (mergeK [] kvs)) from ⟨hlen, hm, merged [] prs, KV.merge rel .nil, hd'⟩), rfl, q _ (I.hok.fresh (Nat.le_refl _))⟩
end
section
variable {K : PySem.W.Frag} {mg : Str → Option Value} {W : XK} {Hf H : Hp}
def mergeD : List (D × D) → List D → Option (List (D × D))
  | acc, [] => some acc
  | acc, d :: ds => match d with
    | .tup [k, x] => match keyD k with
      | some key => mergeD (putD acc k key x) ds
      | none => none
    | _ => none
theorem merge_rep (s : Same Hf H) : ∀ {ds : List D} {vs : List V} {acc out : List (D × D)} {av : List (Key × V)}, Reps K Hf ds vs → Repk K Hf acc av → mergeD acc ds = some out →
    ∃ (ps : List Addr) (kvs : List (Key × V)), vs = ps.map V.ref ∧ Paired (fun p kv => SqT K H p [kV kv.1, kv.2]) ps kvs ∧ Repk K Hf out (mergeK av kvs)
  | [], vs, acc, out, av, r, ra, e => by
    unfold Reps at r
    subst r
    cases e
    exact ⟨[], [], rfl, .nil, ra⟩
  | d :: ds, vs, acc, out, av, r, ra, e => by
    unfold Reps at r
    obtain ⟨v, vr, rfl, r1, r2⟩ := r
    match d, e, r1 with
    | .tup [k, x], e, r1 =>
      unfold mergeD at e
      simp only at e
      cases ek : keyD k with
      | none => rw [ek] at e; cases e
      | some key =>
        rw [ek] at e
        obtain ⟨b, us, rfl, g1, g2⟩ := rep_tup r1
        obtain ⟨u, y, rfl, g3, g4⟩ := reps2 g2
        have hk := keyD_rep ek g3
        subst hk
        obtain ⟨ps, kvs, rfl, hp, hr⟩ := merge_rep s r2 (repk_put ek g4 ra) e
        exact ⟨b :: ps, (key, y) :: kvs, rfl, .cons (Same.sqT s g1) hp, hr⟩
def dictF2 : List D → Option D
  | [.dct kvs] => some (.dct kvs)
  | [.tup ds] => (mergeD [] ds).map .dct
  | _ => none
def rDictA (K : PySem.W.Frag) : List V → Hp → VK → Prop := fun xs H Q => rDictC xs H Q ∨ rDictT K xs H Q
theorem cr_dictA {X : Cx} (hc : X.calm = true) : CallR X (.type "dict") (rDictA X.K) := CallR.or cr_dictC (call_dictT hc)
theorem rdc_dictA : RDCF K (rDictA K) dictF2 := by
  intro Hf H xs ds dz s r e Q k
  match ds, e, r with
  | [.dct kvs], e, r => exact .inl (rdc_dictC Hf H xs _ dz s r e Q k)
  | [.tup es], e, r =>
    obtain ⟨out, e1, rfl⟩ := map_inv e
    obtain ⟨v, rfl, r1⟩ := reps1 r
    obtain ⟨a, vs, rfl, g1, g2⟩ := rep_tupX r1
    obtain ⟨ps, kvs, rfl, hp, hr⟩ := merge_rep s g2 (show Repk K Hf [] [] by unfold Repk; rfl) e1
    exact .inr ⟨a, ps, kvs, rfl, Same.exT s g1, hp, fun p hz => k p _ _ (New.fresh s hz) hz (none_sub s hz) ⟨_, upd_same, hr⟩⟩
end
end DL

/-! The D layer, 18: x in range(n) as a test; a, b = new, x of names that a block reads. -/
namespace DL
open PySem L2 PySem.W

section
variable {X : Cx} {W : XK} {a b : Expr} {fa fb : EM D} {pos : Pos}
theorem b_inRg {p q : Pos} (hg : Gl X "range") (hm : X.mg "range" = none) (ha : PD X W a fa) (hb : PD X W b fb) (n1 : starEach [b] X.env = (false, eval b X.env) :: starEach [] X.env) (h1 : behindInMarks .In (.Call (.Name "range" p) [b] [] q) = false) :
    PB X W (.Compare a [.In] [.Call (.Name "range" p) [b] [] q] pos) (testE (inRgE fa fb)) :=
  let ⟨_, a1, a2⟩ := ha.ex; let ⟨_, b1, b2⟩ := hb.ex; ⟨_, pt_cmpR op_in_rng a1 (pe_callTy cr_rng1 hg hm bb_range (pa_cons b1 pa_nil n1) (by decide) (by decide) n1 rfl) h1, TB.test (TD.inRg a2 b2)⟩
end

section
variable {K : PySem.W.Frag} {mg : Str → Option Value} {W : XK} {Hf H Hf2 H2 : Hp} {σ : L2.St} {ρ ρ2 : Ro}
/-- the end of a, b = new, x -/
theorem parNew_end {i j : Nat} {a : Addr} {d e : D} {v : V} {E : Ends} (S2 : SR K Hf2 σ ρ2 H2) (hf2 : Hf2 a = none) (ro2 : RepO K Hf2 H2 d a) (no2 : ¬ OA σ ρ2 a) (ha0 : H a = none) (s1 : Stp Hf σ ρ H Hf2 σ ρ2 H2) (r2 : Rep K Hf2 e v)
    (h2 : Wp K mg W ((match ρ2[i]? with
      | none => .bad
      | some (.p _) => .bad
      | some _ => match setT j e (ρ2.set i (.o d)) with
        | some ρ3 => .ok .nx ρ3
        | none => .bad : Res Fl)) (Cont K E Hf σ ρ H)) : E.nx ((σ.set i (some (.ref a))).set j (some v)) H2 := by
  cases e1 : ρ2[i]? with
  | none => rw [e1] at h2; exact h2.elim
  | some x =>
    have hl : i < ρ2.length := (List.getElem?_eq_some_iff.mp e1).1
    rw [e1] at h2
    have go : (∀ d' : D, x ≠ Sl.p d') → Wp K mg W ((match setT j e (ρ2.set i (.o d)) with | some ρ3 => .ok .nx ρ3 | none => .bad : Res Fl)) (Cont K E Hf σ ρ H) → E.nx ((σ.set i (some (.ref a))).set j (some v)) H2 := fun hx h2 => by
      obtain ⟨s3, S3⟩ := set_o S2 hf2 ro2 no2 hl (fun d' z => by rw [e1] at z; exact hx d' (Option.some.inj z)) s1 ha0
      cases e2 : setT j e (ρ2.set i (.o d)) with
      | none => rw [e2] at h2; exact h2.elim
      | some ρ3 =>
        rw [e2] at h2
        obtain ⟨b1, b2, rfl⟩ := setT_inv e2
        obtain ⟨s4, S4⟩ := set_v S3 r2 b1 b2
        exact h2 Hf2 _ H2 (s3.trans s4) S4
    cases x with
    | p d' => exact h2.elim
    | u => exact go (fun _ z => by cases z) h2
    | v d' => exact go (fun _ z => by cases z) h2
    | o d' => exact go (fun _ z => by cases z) h2
theorem TSD.parNewT {i j : Nat} {ta tb : TE} {fa fb : EM D} (ha : TF K mg W ta fa) (hb : TD K mg W tb fb) : TSD K mg W (tAsg (tTup (tCons ta (tCons tb tNil))) (gTup K 2 (gCons (gName i) (gCons (gName j) gNil)))) (parNewS i j fa fb) := by
  intro Hf σ ρ H S E h
  refine ha Hf σ ρ H S _ ((Wp.rbind h).mono fun d ρ1 h1 a Hf1 H1 s1 S1 ha0 hf1 ro no1 => ?_)
  refine hb Hf1 σ ρ1 H1 S1 _ ((Wp.rbind h1).mono fun e ρ2 h2 v Hf2 H2 s2 S2 r2 => ?_)
  obtain ⟨o, ea⟩ : ∃ o, H1 a = some o := by
    cases e : H1 a with
    | none => exact absurd e ro.there
    | some o => exact ⟨o, rfl⟩
  have k2 : H2 a = some o := s2.keep a o ea no1
  have hf2 : Hf2 a = none := s2.out a ro.there hf1 fun z => no1 z.oa
  have ro2 : RepO K Hf2 H2 d a := RepO.mono s2.fz (by rw [k2, ea]) ro
  have no2 : ¬ OA σ ρ2 a := fun z => by
    rcases s2.oa z with z | z
    · exact ro.there z
    · exact no1 z
  refine ⟨show 2 ≤ sizeLine by decide, fun p hp => ?_⟩
  have na : a ≠ p := fun z => by rw [z, hp] at k2; cases k2
  have n : New Hf2 H2 Hf2 (upd H2 p (.tup [.ref a, v])) := New.fresh S2.sub hp
  refine ⟨p, _, rfl, SqT.of upd_same, rfl, _, _, rfl, _, _, rfl, rfl, ?_⟩
  exact parNew_end (n.sr S2) hf2 (RepO.mono (fun _ _ h => h) (upd_ne na) ro2) no2 ha0 ((s1.trans s2).trans n.stp) r2 h2
end
section
variable {X : Cx} {W : XK} {a b : Expr} {fa fb : EM D} {pos : Pos}
theorem s_parNewT (i j : Nat) {x y : Str} {px py pt : Pos} {kt k2 pt2} (hc : X.calm = true) (hN : X.N.Nodup) (hi : X.N[i]? = some x) (hj : X.N[j]? = some y)
    (hx : Loc X.env.scope x) (hy : Loc X.env.scope y) (hfx : X.fn x = true ∨ X.env.scope.names.lookup x = some .local) (hfy : X.fn y = true ∨ X.env.scope.names.lookup y = some .local)
    (ha : PF X W a fa) (hb : PD X W b fb) (n1 : starEach [a, b] X.env = (false, eval a X.env) :: starEach [b] X.env) (n2 : starEach [b] X.env = (false, eval b X.env) :: starEach [] X.env)
    (g1 : (assignEach [.Name x px, .Name y py] X.env).map (·.2) = assign (.Name x px) X.env :: (assignEach [.Name y py] X.env).map (·.2)) (g2 : (assignEach [.Name y py] X.env).map (·.2) = assign (.Name y py) X.env :: (assignEach [] X.env).map (·.2))
    (hn : (assignEach [.Name x px, .Name y py] X.env).length = 2) (hst : (assignEach [.Name x px, .Name y py] X.env).findIdx? (·.1) = none)
    (hs : swapsWithSole [.Tuple [.Name x px, .Name y py] kt pt] (.Tuple [a, b] k2 pt2) pos.line X.env = pure false)
    (hw : swappedStores [.Tuple [.Name x px, .Name y py] kt pt] (.Tuple [a, b] k2 pt2) X.env = pure none)
    (h1 : (assignEach [.Tuple [.Name x px, .Name y py] kt pt] X.env).map (·.2) = [assign (.Tuple [.Name x px, .Name y py] kt pt) X.env]) :
    PSD X W (.Assign [.Tuple [.Name x px, .Name y py] kt pt] (.Tuple [a, b] k2 pt2) pos) (parNewS i j fa fb) := let ⟨_, a1, a2⟩ := ha.ex; let ⟨_, b1, b2⟩ := hb.ex;
  ⟨_, ps_asg (pe_tup (pa_cons a1 (pa_cons b1 pa_nil n2) n1)) (pg_tup hc (pgs_cons (pg_name hN hi hx hfx) (pgs_cons (pg_name hN hj hy hfy) pgs_nil g2) g1) hn hst) hs hw h1, TSD.parNewT a2 b2⟩
end
end DL

/-! The D layer, 19: dict(zip(t, u)) of two tuples or two lists. -/
namespace DL
open PySem L2 PySem.W PySem.Calls PyProof.Rows
open Sem (wp)

section
variable {prog : Program} {w : World} {A : Around} {E : Value → Shared → Prop} {s : Shared}
/-- the next pair while the one before is still held -/
theorem zt_item {z TI TO T i1 i2 t1 t2 : Addr} {f : Bool} {oT : Obj} {k1 k2 : Nat} {xs ys : Array Value} {x y : Value} {Q : Option Value → Shared → Prop} (D : ZipApart z TI TO i1 i2 t1 t2)
    (hz : IsZipHeld s.heap z TI TO T f) (hT : s.heap.get? T = some oT) (hTI : IsPair s.heap TI (.ref i1) (.ref i2))
    (j1 : s.heap.IsTupleIter i1 t1 k1) (j2 : s.heap.IsTupleIter i2 t2 k2) (ht1 : s.heap.IsTuple t1 xs) (ht2 : s.heap.IsTuple t2 ys) (hx : xs[k1]? = some x) (hy : ys[k2]? = some y)
    (hQ : ∀ g, IsZipHeld g z TI TO T true → g.IsTupleIter i1 t1 (k1 + 1) → g.IsTupleIter i2 t2 (k2 + 1) → IsPair g s.heap.objs.size x y → g.objs.size = s.heap.objs.size + 1 →
      (∀ c o, c ≠ z → c ≠ i1 → c ≠ i2 → s.heap.get? c = some o → g.get? c = some o) → Q (some (.ref s.heap.objs.size)) { s with heap := g }) :
    wpAny (model prog w) A (pyNext (.ref z)) Q E s := by
  have ty : s.TypeIs (.ref z) "zip" := ⟨_, hz, rfl⟩
  unfold pyNext
  refine wpAny_bind (wpAny_attempt (wpAny_callSpecial?_slot (name := Str.ofString "__next__") ty F.slot_zip_next (wpAny_call_entry F.slot_zip_next ty F.entry_zip_next ?_ (F.args_zip_next_1 _))))
  show wpAny _ _ (field (.ref z) 2 >>= _) _ _ _
  refine wpAny_bind (wpAny_field hz rfl (x := .bool false) rfl ?_)
  show wpAny _ _ (field (.ref z) 3 >>= _) _ _ _
  refine wpAny_bind (wpAny_field hz rfl (x := .ref TI) rfl (wpAny_bind (wpAny_seqItems hTI rfl ?_)))
  show wpAny _ _ (Builtin.SmallTypes.ownedTupleIsFree (.ref z) >>= _) _ _ _
  refine wpAny_bind (wpAny_tupleHeld_zip hz hT fun g1 z1 b1 => ?_)
  simp only [Bool.false_eq_true, if_false]
  refine wpAny_bind ?_
  rw [← Array.forIn_toList]
  simp only [List.forIn_cons, List.forIn_nil]
  refine wpAny_bind (wpAny_bind (wpAny_holding ?_))
  show wpAny _ _ (Builtin.SmallTypes.nextOf (.ref i1) >>= _) _ _ _
  refine wpAny_bind (RZ.nextOf_tuple_item (s := { s with heap := g1 }) (j1.extBut b1.extBut D.i1z) (ht1.extBut b1.extBut D.l1z) hx fun g2 j1' b2 => wpAny_pure ?_)
  refine wpAny_pure (wpAny_bind (wpAny_bind (wpAny_holding ?_)))
  show wpAny _ _ (Builtin.SmallTypes.nextOf (.ref i2) >>= _) _ _ _
  refine wpAny_bind (RZ.nextOf_tuple_item (s := { s with heap := g2 }) ((j2.extBut b1.extBut D.i2z).extBut b2.extBut D.i12.symm) ((ht2.extBut b1.extBut D.l2z).extBut b2.extBut D.l2i1) hy fun g3 j2' b3 => wpAny_pure ?_)
  refine wpAny_pure (wpAny_pure ?_)
  show wpAny _ _ (newTuple [x, y] >>= _) _ _ _
  refine wpAny_bind (wpAny_newTuple ?_)
  have sz : g3.objs.size = s.heap.objs.size := by rw [b3.1, b2.1, b1.1]
  have z3 : IsZipHeld g3 z TI TO T true := b3.extBut _ _ D.i2z.symm (b2.extBut _ _ D.i1z.symm z1)
  have kp : ∀ c o, c ≠ z → c ≠ i1 → c ≠ i2 → s.heap.get? c = some o → g3.get? c = some o := fun c o n1 n2 n3 e => b3.extBut _ _ n3 (b2.extBut _ _ n2 (b1.extBut _ _ n1 e))
  have j13 : g3.IsTupleIter i1 t1 (k1 + 1) := j1'.extBut b3.extBut D.i12
  refine wpAny_pure ⟨_, rfl, ?_⟩
  have pr : IsPair (g3.push { cls := .type "tuple", data := .seq #[x, y] }) g3.objs.size x y := Heap.get?_push_size _ rfl
  have s4 : (g3.push { cls := .type "tuple", data := .seq #[x, y] }).objs.size = g3.objs.size + 1 := Heap.size_push ..
  refine wpAny_pure ?_
  rw [sz] at pr s4
  show Q (some (.ref g3.objs.size)) _
  rw [sz]
  exact hQ _ (Heap.get?_push_of_some _ z3) (j13.at fun o e => Heap.get?_push_of_some _ e) (j2'.at fun o e => Heap.get?_push_of_some _ e) pr s4 fun c o n1 n2 n3 e => Heap.get?_push_of_some _ (kp c o n1 n2 n3 e)
theorem zt_end {z TI TO T i1 i2 t1 t2 : Addr} {f : Bool} {oT : Obj} {k1 k2 : Nat} {xs ys : Array Value} {Q : Option Value → Shared → Prop} (hh : A.handled = none) (D : ZipApart z TI TO i1 i2 t1 t2)
    (hz : IsZipHeld s.heap z TI TO T f) (hT : s.heap.get? T = some oT) (hTI : IsPair s.heap TI (.ref i1) (.ref i2))
    (j1 : s.heap.IsTupleIter i1 t1 k1) (j2 : s.heap.IsTupleIter i2 t2 k2) (ht1 : s.heap.IsTuple t1 xs) (ht2 : s.heap.IsTuple t2 ys) (over : xs[k1]? = none ∨ ys[k2]? = none)
    (hQ : ∀ g, (∀ c o, c ≠ z → c ≠ i1 → c ≠ i2 → s.heap.get? c = some o → g.get? c = some o) → Q none { s with heap := g }) : wpAny (model prog w) A (pyNext (.ref z)) Q E s := by
  have ty : s.TypeIs (.ref z) "zip" := ⟨_, hz, rfl⟩
  have fin : ∀ (g : Heap) (e : Addr), (∀ c o, c ≠ z → c ≠ i1 → c ≠ i2 → s.heap.get? c = some o → g.get? c = some o) → (∃ o, g.get? e = some o ∧ o.cls = .type "StopIteration") →
      wpAny (model prog w) A ((isInstance (.ref e) (.type "StopIteration")) >>= fun b => if b then pure none else throw (.ref e)) Q E { s with heap := g } := fun g e k ⟨o, ho, hc⟩ => by
    refine wpAny_bind (wpAny_isInstance (T := "StopIteration") (b := true) ⟨o, ho, hc⟩ isSubtype_stop ?_)
    exact wpAny_pure (hQ _ k)
  unfold pyNext
  refine wpAny_bind (wpAny_attempt (wpAny_callSpecial?_slot (name := Str.ofString "__next__") ty F.slot_zip_next (wpAny_call_entry F.slot_zip_next ty F.entry_zip_next ?_ (F.args_zip_next_1 _))))
  show wpAny _ _ (field (.ref z) 2 >>= _) _ _ _
  refine wpAny_bind (wpAny_field hz rfl (x := .bool false) rfl ?_)
  show wpAny _ _ (field (.ref z) 3 >>= _) _ _ _
  refine wpAny_bind (wpAny_field hz rfl (x := .ref TI) rfl (wpAny_bind (wpAny_seqItems hTI rfl ?_)))
  show wpAny _ _ (Builtin.SmallTypes.ownedTupleIsFree (.ref z) >>= _) _ _ _
  refine wpAny_bind (wpAny_tupleHeld_zip hz hT fun g1 z1 b1 => ?_)
  simp only [Bool.false_eq_true, if_false]
  refine wpAny_bind ?_
  rw [← Array.forIn_toList]
  simp only [List.forIn_cons, List.forIn_nil]
  refine wpAny_bind (wpAny_bind (wpAny_holding ?_))
  show wpAny _ _ (Builtin.SmallTypes.nextOf (.ref i1) >>= _) _ _ _
  cases hx : xs[k1]? with
  | none =>
    refine wpAny_bind (RZ.nextOf_tuple_end (s := { s with heap := g1 }) hh (j1.extBut b1.extBut D.i1z) (ht1.extBut b1.extBut D.l1z) hx fun g2 e b2 he => ?_)
    exact fin g2 e (fun c o n1 n2 _ q => b2 _ _ n2 (b1.extBut _ _ n1 q)) he
  | some x =>
    have hy : ys[k2]? = none := by
      rcases over with h | h
      · rw [hx] at h; cases h
      · exact h
    refine wpAny_bind (RZ.nextOf_tuple_item (s := { s with heap := g1 }) (j1.extBut b1.extBut D.i1z) (ht1.extBut b1.extBut D.l1z) hx fun g2 j1' b2 => wpAny_pure ?_)
    refine wpAny_pure (wpAny_bind (wpAny_bind (wpAny_holding ?_)))
    show wpAny _ _ (Builtin.SmallTypes.nextOf (.ref i2) >>= _) _ _ _
    refine wpAny_bind (RZ.nextOf_tuple_end (s := { s with heap := g2 }) hh ((j2.extBut b1.extBut D.i2z).extBut b2.extBut D.i12.symm) ((ht2.extBut b1.extBut D.l2z).extBut b2.extBut D.l2i1) hy fun g3 e b3 he => ?_)
    exact fin g3 e (fun c o n1 n2 n3 q => b3 _ _ n3 (b2.extBut _ _ n2 (b1.extBut _ _ n1 q))) he
end

/-- zip of two tuples as what dict() is given -/
theorem zipArg {prog : Program} {w : World} (z TI TO i1 i2 t1 t2 : Addr) (D : ZipApart z TI TO i1 i2 t1 t2) (xs ys : Array Value) :
    PySem.PairArg prog w "zip" z [z, TI, TO, i1, i2, t1, t2] [z, TO, i1, i2] (min xs.size ys.size) (fun i k v => xs[i]? = some k ∧ ys[i]? = some v)
      (fun h => IsZip h z TI TO .none ∧ IsPair h TI (.ref i1) (.ref i2) ∧ (∃ a b, IsPair h TO a b) ∧ h.IsTupleIter i1 t1 0 ∧ h.IsTupleIter i2 t2 0 ∧ h.IsTuple t1 xs ∧ h.IsTuple t2 ys) where
  type := fun _ ok => ⟨_, ok.1, rfl⟩
  notDict := by decide
  keep := fun g g' ok kp => by
    obtain ⟨q1, q2, ⟨a, b, q3⟩, q4, q5, q6, q7⟩ := ok
    exact ⟨kp _ _ q1, kp _ _ q2, ⟨a, b, kp _ _ q3⟩, q4.at fun o e => kp _ o e, q5.at fun o e => kp _ o e, q6.at fun o e => kp _ o e, q7.at fun o e => kp _ o e⟩
  there := fun g ok b hb => by
    obtain ⟨q1, q2, ⟨a, c, q3⟩, ⟨o1, q4, _⟩, ⟨o2, q5, _⟩, ⟨o3, q6, _⟩, ⟨o4, q7, _⟩⟩ := ok
    simp only [List.mem_cons, List.not_mem_nil, or_false] at hb
    rcases hb with rfl | rfl | rfl | rfl | rfl | rfl | rfl
    · exact ⟨_, q1⟩
    · exact ⟨_, q2⟩
    · exact ⟨_, q3⟩
    · exact ⟨_, q4⟩
    · exact ⟨_, q5⟩
    · exact ⟨_, q6⟩
    · exact ⟨_, q7⟩
  sub := fun b hb => by
    simp only [List.mem_cons, List.not_mem_nil, or_false] at hb ⊢
    rcases hb with q | q | q | q <;> simp [q]
  noKeys := fun A s Q E hA ok h => getAttrOr_miss_zip ok.1 rfl rfl rfl zip_no_keys (by decide +kernel) hA h
  iter := fun A s d Q E hA ok hd off h => by
    obtain ⟨q1, q2, ⟨a, b, q3⟩, q4, q5, q6, q7⟩ := ok
    simp only [List.mem_cons, List.not_mem_nil, or_false, not_or] at off
    obtain ⟨dz, dTI, dTO, di1, di2, dt1, dt2⟩ := off
    refine wpAny_pyIter_zip q1 (h z [z, TO, i1, i2] (fun i g => IsPair g TI (.ref i1) (.ref i2) ∧ g.IsTupleIter i1 t1 i ∧ g.IsTupleIter i2 t2 i ∧ g.IsTuple t1 xs ∧ g.IsTuple t2 ys ∧
      ((IsZip g z TI TO .none ∧ ∃ a b, IsPair g TO a b) ∨ ∃ T f oT, IsZipHeld g z TI TO T f ∧ g.get? T = some oT ∧ T ≠ z ∧ T ≠ i1 ∧ T ≠ i2 ∧ T ≠ d)) s.heap s.toks ?_
      ⟨q2, q4, q5, q6, q7, .inl ⟨q1, a, b, q3⟩⟩ (fun _ _ e => e) fun b hb => .inl hb)
    exact {
      off := fun hm => by
        simp only [List.mem_cons, List.not_mem_nil, or_false] at hm
        rcases hm with e | e | e | e
        · exact dz e
        · exact dTO e
        · exact di1 e
        · exact di2 e
      frame := fun i g g' st kp => by
        obtain ⟨p2, p4, p5, p6, p7, pz⟩ := st
        refine ⟨kp _ _ (Ne.symm dTI) p2, p4.at fun o e => kp _ o (Ne.symm di1) e, p5.at fun o e => kp _ o (Ne.symm di2) e, p6.at fun o e => kp _ o (Ne.symm dt1) e, p7.at fun o e => kp _ o (Ne.symm dt2) e, ?_⟩
        rcases pz with ⟨p1, a, b, p3⟩ | ⟨T, f, oT, p1, pT, r1, r2, r3, r4⟩
        · exact .inl ⟨kp _ _ (Ne.symm dz) p1, a, b, kp _ _ (Ne.symm dTO) p3⟩
        · exact .inr ⟨T, f, oT, kp _ _ (Ne.symm dz) p1, kp _ _ r4 pT, r1, r2, r3, r4⟩
      item := fun i st Q1 E1 hi ok hds hQ => by
        obtain ⟨p2, p4, p5, p6, p7, pz⟩ := ok
        have e1 := Array.getElem?_eq_getElem (show i < xs.size by omega)
        have e2 := Array.getElem?_eq_getElem (show i < ys.size by omega)
        have lt : ∀ {c o}, st.heap.get? c = some o → st.heap.objs.size ≠ c := fun e => Nat.ne_of_gt (Heap.lt_size e)
        have n1 : st.heap.objs.size ≠ i1 := let ⟨_, e, _⟩ := p4; lt e
        have n2 : st.heap.objs.size ≠ i2 := let ⟨_, e, _⟩ := p5; lt e
        rcases pz with ⟨p1, a, b, p3⟩ | ⟨T, f, oT, p1, pT, r1, r2, r3, r4⟩
        · refine RZ.pyNext_zipT_item D p1 p2 p3 p4 p5 p6 p7 e1 e2 fun g a1 a2 a3 a4 a5 a6 kp => ?_
          refine hQ st.heap.objs.size _ _ g st.toks ⟨e1, e2⟩ (.inl ⟨_, a5, rfl, _, rfl⟩) ⟨kp _ _ D.TIz D.TITO D.TIi1 D.TIi2 p2, a3, a4, p6.at fun o e => kp _ o D.l1z D.l1TO D.l1i1 D.l1i2 e, p7.at fun o e => kp _ o D.l2z D.l2TO D.l2i1 D.l2i2 e,
            .inr ⟨st.heap.objs.size, false, _, a1, a5, lt p1, n1, n2, Nat.ne_of_gt hds⟩⟩ fun c o hc e => ?_
          simp only [List.mem_cons, List.not_mem_nil, or_false, not_or] at hc
          exact kp c o hc.1 hc.2.1 hc.2.2.1 hc.2.2.2 e
        · refine zt_item D p1 pT p2 p4 p5 p6 p7 e1 e2 fun g a1 a3 a4 a5 a6 kp => ?_
          refine hQ st.heap.objs.size _ _ g st.toks ⟨e1, e2⟩ (.inl ⟨_, a5, rfl, _, rfl⟩) ⟨kp _ _ D.TIz D.TIi1 D.TIi2 p2, a3, a4, p6.at fun o e => kp _ o D.l1z D.l1i1 D.l1i2 e, p7.at fun o e => kp _ o D.l2z D.l2i1 D.l2i2 e,
            .inr ⟨T, true, oT, a1, kp _ _ r1 r2 r3 pT, r1, r2, r3, r4⟩⟩ fun c o hc e => ?_
          simp only [List.mem_cons, List.not_mem_nil, or_false, not_or] at hc
          exact kp c o hc.1 hc.2.2.1 hc.2.2.2 e
      done := fun st Q1 E1 ok hQ => by
        obtain ⟨p2, p4, p5, p6, p7, pz⟩ := ok
        have over : xs[min xs.size ys.size]? = none ∨ ys[min xs.size ys.size]? = none := by
          rcases Nat.le_total xs.size ys.size with h | h
          · exact .inl (Array.getElem?_eq_none (by omega))
          · exact .inr (Array.getElem?_eq_none (by omega))
        rcases pz with ⟨p1, a, b, p3⟩ | ⟨T, f, oT, p1, pT, r1, r2, r3, r4⟩
        · refine RZ.pyNext_zipT_end hA D p1 p2 p3 p4 p5 p6 p7 over fun g kp => hQ g st.toks fun c o hc e => ?_
          simp only [List.mem_cons, List.not_mem_nil, or_false, not_or] at hc
          exact kp c o hc.1 hc.2.1 hc.2.2.1 hc.2.2.2 e
        · refine zt_end hA D p1 pT p2 p4 p5 p6 p7 over fun g kp => hQ g st.toks fun c o hc e => ?_
          simp only [List.mem_cons, List.not_mem_nil, or_false, not_or] at hc
          exact kp c o hc.1 hc.2.2.1 hc.2.2.2 e }
/-- dict(zip(a, b)) -/
def tDictZip (K : PySem.W.Frag) (ta : TA) : TE := fun σ H Q => ta σ H fun vs H1 => ∃ (a b : Addr) (ks : List Key) (us : List V), vs = [.ref a, .ref b] ∧ ((SqL K H1 a (ks.map kV) ∧ SqL K H1 b us) ∨ (SqT K H1 a (ks.map kV) ∧ SqT K H1 b us)) ∧
  ∀ p, H1 p = none → Q (.ref p) (upd H1 p (.dK (mergeK [] (ks.zip us))))
theorem key_pairs {P : Program} {w : World} : ∀ {ks : List Key} {us : List V} {its its2 : List Value}, Vals (ks.map kV) its → Vals us its2 → ∃ prs : List (Key × Value), KV (ks.zip us) prs ∧ prs.length = min its.length its2.length ∧
    ∀ (i : Nat) (u y : Value), its[i]? = some u → its2[i]? = some y → ∃ k, prs[i]? = some (k, y) ∧ keyIs k u = true
  | [], us, its, its2, r1, r2 => by
    cases r1
    exact ⟨[], .nil, by simp, fun i u y h => by simp at h⟩
  | k :: ks, [], its, its2, r1, r2 => by
    cases r2
    exact ⟨[], .nil, by simp, fun i u y _ h => by simp at h⟩
  | k :: ks, v :: us, its, its2, r1, r2 => by
    rw [List.map_cons] at r1
    cases r1 with
    | cons h1 t1 =>
      cases r2 with
      | cons h2 t2 =>
        rename_i u0 _ y0 _
        obtain ⟨prs, a1, a2, a3⟩ := key_pairs (P := P) (w := w) t1 t2
        refine ⟨(k, y0) :: prs, .cons ⟨rfl, h2⟩ a1, by simp only [List.length_cons]; omega, fun i u y e1 e2 => ?_⟩
        cases i with
        | zero =>
          simp at e1 e2
          subst e1 e2
          exact ⟨k, rfl, kV_is (P := P) (w := w) h1⟩
        | succ i =>
          obtain ⟨k', b1, b2⟩ := a3 i u y (by simpa using e1) (by simpa using e2)
          exact ⟨k', by simpa using b1, b2⟩
theorem pe_dictZip {X : Cx} {e e2 : Expr} {ta : TA} {p p2 pos pos2 : Pos} (hc : X.calm = true) (hg : Gl X "dict") (hm : X.mg "dict" = none) (hg2 : Gl X "zip") (hm2 : X.mg "zip" = none) (ha : PA X [e, e2] ta)
    (hs : starEach [e, e2] X.env = (false, eval e X.env) :: starEach [e2] X.env) (hpl : (backTo pos2 (starEach [e2] X.env)).any (·.1) = false)
    (na : starEach [.Call (.Name "zip" p2) [e, e2] [] pos2] X.env = (false, eval (.Call (.Name "zip" p2) [e, e2] [] pos2) X.env) :: starEach [] X.env) :
    PE X (.Call (.Name "dict" p) [.Call (.Name "zip" p2) [e, e2] [] pos2] [] pos) (tDictZip X.K ta) := by
  refine ⟨fun pins s σ H Q I h => Call_ (ld_blt I hg hm boot_dict (PyProof.Rows.callWith_type1 (PyProof.Rows.args_cons (Call_ (ld_blt I hg2 hm2 boot_zip (PyProof.Rows.callWith_type1 (thn (ha.run pos2 pins s σ H _ I h) fun us s1 ⟨vs, H1, I1, r1, a, b, ks, ws, ex, hq, q⟩ => ?_) hs hpl))) na) na rfl))⟩
  subst ex
  cases r1 with
  | cons r rr =>
    cases rr with
    | cons r' rr =>
      cases rr
      cases r
      cases r'
      have ends : ∀ (g : Heap) (its its2 : List Value) (OK : Heap → Prop) (wr fp : List Addr), (∀ c o, s1.heap.get? c = some o → g.get? c = some o) → Inv X pins σ H1 { s1 with heap := g } → its.length ≤ sizeLine → Vals (ks.map kV) its → Vals ws its2 →
          (∀ b ∈ wr, s1.heap.get? b = none) → s1.heap.objs.size ≤ g.objs.size →
          PySem.PairArg X.prog X.w "zip" (s1.heap.objs.size + 4) fp wr (min its.toArray.size its2.toArray.size) (fun i k v => its.toArray[i]? = some k ∧ its2.toArray[i]? = some v) OK → OK g →
          wpAny (model X.prog X.w) X.A (call (.type "dict") [.ref (s1.heap.objs.size + 4)]) (EP X pins σ Q) X.xe { s1 with heap := g } := fun g its its2 OK wr fp kp I2 hz v1 v2 hwr hsz P ok => by
        obtain ⟨prs, rel, hl, hp⟩ := key_pairs (P := X.prog) (w := X.w) v1 v2
        refine PySem.call_dict_pairs (knd := mixKind X.prog X.w) (kvs := prs) P (I2.ok.hd hc) ok ⟨by rw [hl]; simp, fun i key v e => ?_⟩ (by simp; omega) fun h' tk hd' k => ?_
        · obtain ⟨key', e3, e4⟩ := hp i key v (by simpa using e.1) (by simpa using e.2)
          exact ⟨key', e3, e4⟩
        · have hm : (g.objs.size == sysModules) = false := beq_eq_false_iff_ne.mpr (Nat.ne_of_gt I2.big)
          have hlen : (mergeK [] (ks.zip ws)).length ≤ sizeLine := by
            refine Nat.le_trans (length_mergeK (ks.zip ws) []) ?_
            rw [List.length_nil, Nat.zero_add, rel.length, hl]
            omega
          have J : Inv X pins σ (upd H1 g.objs.size (.dK (mergeK [] (ks.zip ws)))) { s1 with heap := h', toks := tk } :=
            I1.laid (t' := tk) (fun c o z => k c o (fun hm' => by rw [hwr c hm'] at z; cases z) (kp c o z)) hsz (show ObjOk X.prog X.w _ _ _ (.dK (mergeK [] (ks.zip ws))) from ⟨hlen, hm, merged [] prs, KV.merge rel .nil, hd'⟩)
          exact ⟨.ref g.objs.size, _, J, rfl, q _ (I2.hok.fresh (Nat.le_refl _))⟩
      have fresh : ∀ c, s1.heap.objs.size ≤ c → s1.heap.get? c = none := fun c hc => Heap.get?_none_of_le hc
      rcases hq with ⟨hx, hy⟩ | ⟨hx, hy⟩
      · obtain ⟨its, v1, g1, z1⟩ := I1.list hx
        obtain ⟨its2, v2, g2, _⟩ := I1.list hy
        refine call_zip_2 g1.isList g2.isList fun h' hz hTI hTO j1 j2 hsz hk => args_nil ?_
        have I2 : Inv X pins σ H1 { s1 with heap := h' } := I1.kept (t' := s1.toks) hk
        refine ends h' its its2 _ _ _ hk I2 (by rw [← v1.length]; exact z1) v1 v2 ?_ (by show _ ≤ h'.objs.size; omega) (PySem.PairArg.zip _ _ _ _ _ a b (PySem.W.ktu_apart s1.heap.objs.size a b g1.lt g2.lt) its.toArray its2.toArray) ⟨hz, hTI, ⟨_, _, hTO⟩, j1, j2, g1.isList.at fun o e => hk _ _ e, g2.isList.at fun o e => hk _ _ e⟩
        intro c hcm
        simp only [List.mem_cons, List.not_mem_nil, or_false] at hcm
        exact fresh c (by rcases hcm with e | e | e | e <;> rw [e] <;> omega)
      · obtain ⟨its, v1, g1, z1⟩ := I1.tuple hx
        obtain ⟨its2, v2, g2, _⟩ := I1.tuple hy
        have u1 : s1.heap.IsTuple a its.toArray := g1
        have u2 : s1.heap.IsTuple b its2.toArray := g2
        refine RZ.call_zipT u1 u2 fun h' hz hTI hTO j1 j2 hsz hk => args_nil ?_
        have I2 : Inv X pins σ H1 { s1 with heap := h' } := I1.kept (t' := s1.toks) hk
        refine ends h' its its2 _ _ _ hk I2 (by rw [← v1.length]; exact z1) v1 v2 ?_ (by show _ ≤ h'.objs.size; omega) (zipArg _ _ _ _ _ a b (PySem.W.ktu_apart s1.heap.objs.size a b g1.lt g2.lt) its.toArray its2.toArray) ⟨hz, hTI, ⟨_, _, hTO⟩, j1, j2, u1.at fun o e => hk _ _ e, u2.at fun o e => hk _ _ e⟩
        intro c hcm
        simp only [List.mem_cons, List.not_mem_nil, or_false] at hcm
        exact fresh c (by rcases hcm with e | e | e | e <;> rw [e] <;> omega)
end DL

/-! The D layer, 20: dict(zip(a, b)) on data; k in d; a, b, c = x, new, y. -/
namespace DL
open PySem L2 PySem.W

section
variable {K : PySem.W.Frag} {mg : Str → Option Value} {W : XK} {Hf H : Hp}
def keysD : List D → Option (List Key)
  | [] => some []
  | d :: ds => match keyD d, keysD ds with
    | some k, some ks => some (k :: ks)
    | _, _ => none
def mergeZ : List (D × D) → List D → List D → Option (List (D × D))
  | acc, k :: ks, v :: vs => match keyD k with
    | some key => mergeZ (putD acc k key v) ks vs
    | none => none
  | acc, _, _ => some acc
theorem keys_rep : ∀ {ds : List D} {ks : List Key} {vs : List V}, keysD ds = some ks → Reps K Hf ds vs → vs = ks.map kV
  | [], ks, vs, e, r => by
    unfold Reps at r
    cases e
    exact r
  | d :: ds, ks, vs, e, r => by
    unfold Reps at r
    obtain ⟨v, vr, rfl, r1, r2⟩ := r
    unfold keysD at e
    cases e1 : keyD d with
    | none => rw [e1] at e; cases e
    | some k =>
      cases e2 : keysD ds with
      | none => rw [e1, e2] at e; cases e
      | some kr =>
        rw [e1, e2] at e
        cases e
        rw [List.map_cons, ← keyD_rep e1 r1, ← keys_rep e2 r2]
theorem mergeZ_rep : ∀ {xs ys : List D} {ks : List Key} {us : List V} {acc out : List (D × D)} {av : List (Key × V)}, keysD xs = some ks → Reps K Hf ys us → Repk K Hf acc av → mergeZ acc xs ys = some out → Repk K Hf out (mergeK av (ks.zip us))
  | [], ys, ks, us, acc, out, av, e, r, ra, em => by
    cases e
    cases em
    exact ra
  | x :: xs, [], ks, us, acc, out, av, e, r, ra, em => by
    unfold Reps at r
    subst r
    cases em
    rw [List.zip_nil_right]
    exact ra
  | x :: xs, y :: ys, ks, us, acc, out, av, e, r, ra, em => by
    unfold Reps at r
    obtain ⟨v, vr, rfl, r1, r2⟩ := r
    unfold keysD at e
    unfold mergeZ at em
    cases e1 : keyD x with
    | none => rw [e1] at em; cases em
    | some k =>
      cases e2 : keysD xs with
      | none => rw [e1, e2] at e; cases e
      | some kr =>
        rw [e1, e2] at e
        cases e
        rw [e1] at em
        have := mergeZ_rep e2 r2 (repk_put e1 r1 ra) em
        exact this
def zipF (xs ys : List D) : Option D := match keysD xs with
  | some _ => (mergeZ [] xs ys).map .dct
  | none => none
def dictZipE (fa : EM (List D)) : EM D := bindM fa fun ds => liftO (match ds with | [.tup xs, .tup ys] => zipF xs ys | [.lst xs, .lst ys] => zipF xs ys | _ => none)
theorem TF.dictZip {ta : TA} {fa : EM (List D)} (ha : TAD K mg W ta fa) : TF K mg W (tDictZip K ta) (dictZipE fa) := by
  intro Hf σ ρ H S Q h
  refine ha Hf σ ρ H S _ ((Wp.bind h).mono fun ds ρ1 h1 vs Hf1 H1 s1 S1 r1 => ?_)
  obtain ⟨dz, e, h2⟩ := Wp.lift h1
  have key : ∀ (xs ys : List D) (a b : Addr) (us ws : List V), vs = [.ref a, .ref b] → zipF xs ys = some dz → Reps K Hf1 xs us → Reps K Hf1 ys ws → ((SqL K H1 a us ∧ SqL K H1 b ws) ∨ (SqT K H1 a us ∧ SqT K H1 b ws)) →
      ∃ (a b : Addr) (ks : List Key) (us : List V), vs = [.ref a, .ref b] ∧ ((SqL K H1 a (ks.map kV) ∧ SqL K H1 b us) ∨ (SqT K H1 a (ks.map kV) ∧ SqT K H1 b us)) ∧ ∀ p, H1 p = none → Q (.ref p) (upd H1 p (.dK (mergeK [] (ks.zip us)))) := fun xs ys a b us ws ev e g1 g2 hq => by
    unfold zipF at e
    cases ek : keysD xs with
    | none => rw [ek] at e; cases e
    | some ks =>
      rw [ek] at e
      obtain ⟨out, e1, rfl⟩ := map_inv e
      have hr := mergeZ_rep ek g2 (show Repk K Hf1 [] [] by unfold Repk; rfl) e1
      have hk := keys_rep ek g1
      subst hk
      refine ⟨a, b, ks, ws, ev, hq, fun p hp => ?_⟩
      have m : New Hf1 H1 Hf1 (upd H1 p (.dK (mergeK [] (ks.zip ws)))) := New.fresh S1.sub hp
      refine h2 p Hf1 _ (s1.trans m.stp) (m.sr S1) ?_ (none_sub S1.sub hp) ⟨_, upd_same, hr⟩ (fresh_no S1 hp)
      cases e : H p with
      | none => rfl
      | some o => exact absurd hp (s1.there p (by rw [e]; simp))
  match ds, e, r1 with
  | [.tup xs, .tup ys], e, r1 =>
    obtain ⟨v, u, rfl, r2, r3⟩ := reps2 r1
    obtain ⟨a, us, rfl, g1, g2⟩ := rep_tup r2
    obtain ⟨b, ws, rfl, g3, g4⟩ := rep_tup r3
    exact key xs ys a b us ws rfl e g2 g4 (.inr ⟨Same.sqT S1.sub g1, Same.sqT S1.sub g3⟩)
  | [.lst xs, .lst ys], e, r1 =>
    obtain ⟨v, u, rfl, r2, r3⟩ := reps2 r1
    obtain ⟨a, us, rfl, g1, g2⟩ := rep_lst r2
    obtain ⟨b, ws, rfl, g3, g4⟩ := rep_lst r3
    exact key xs ys a b us ws rfl e g2 g4 (.inl ⟨rdSeq S1.sub g1, rdSeq S1.sub g3⟩)
/-- k in d -/
def rInK : R2 := fun x y H Q => ∃ a kvs k, y = .ref a ∧ Rd H a (.dK kvs) ∧ x = kV k ∧ Q (.bl (valV kvs k).isSome) H
theorem op_inK {X : Cx} (hu : X.A.units + 64 < cLine) : OpR X (compareOp .In) rInK := by
  intro pins s σ H x y v u Q I rx ry ⟨a, kvs, k, e1, g, e2, q⟩
  subst e1
  cases ry
  exact d_in (by omega) I (.inl ⟨kvs, k, g, e2, rfl⟩) rx fun s' I' => ⟨.bl (valV kvs k).isSome, H, I', rfl, q⟩
def inK (x y : D) : Option D := match y with
  | .dct kvs => (keyD x).map fun k => .bl (valD kvs k).isSome
  | _ => none
theorem rd_inK : RD K rInK inK := by
  intro Hf H x y dx dy dz s rx ry e Q k
  match dy, e, ry with
  | .dct kvs, e, ry =>
    obtain ⟨key, ek, rfl⟩ := map_inv e
    obtain ⟨a, o, vs, rfl, g1, g2⟩ := rep_dct ry
    obtain ⟨i1, i2⟩ := repk_val (k := key) g2
    have hs : (valV vs key).isSome = (valD kvs key).isSome := by
      cases ev : valD kvs key with
      | none => rw [i2 ev]; rfl
      | some d => obtain ⟨w, q1, _⟩ := i1 d ev; rw [q1]; rfl
    exact ⟨a, vs, key, rfl, .inr ⟨o, s _ _ g1⟩, keyD_rep ek rx, by rw [hs]; exact k _ H Hf (New.refl s) (by unfold Rep; rfl)⟩
end
section
variable {X : Cx} {W : XK} {e e2 : Expr} {fr : EM (List D)}
theorem f_dictZip {p p2 pos pos2 : Pos} (hc : X.calm = true) (hg : Gl X "dict") (hm : X.mg "dict" = none) (hg2 : Gl X "zip") (hm2 : X.mg "zip" = none) (ha : PAD X W [e, e2] fr)
    (hs : starEach [e, e2] X.env = (false, eval e X.env) :: starEach [e2] X.env) (hpl : (backTo pos2 (starEach [e2] X.env)).any (·.1) = false)
    (na : starEach [.Call (.Name "zip" p2) [e, e2] [] pos2] X.env = (false, eval (.Call (.Name "zip" p2) [e, e2] [] pos2) X.env) :: starEach [] X.env) :
    PF X W (.Call (.Name "dict" p) [.Call (.Name "zip" p2) [e, e2] [] pos2] [] pos) (dictZipE fr) := let ⟨_, a1, a2⟩ := ha.ex; ⟨_, pe_dictZip hc hg hm hg2 hm2 a1 hs hpl na, TF.dictZip a2⟩
end
section
variable {K : PySem.W.Frag} {mg : Str → Option Value} {W : XK} {Hf H : Hp}
/-- a, b, c = x, a new list or dict, y: b owns it -/
def parNew3S (i j l : Nat) (fa fb fc : EM D) : SM := fun ρ => (fa ρ).bind fun d ρ1 => (fb ρ1).bind fun e ρ2 => (fc ρ2).bind fun f ρ3 => match ρ3[j]? with
  | none => .bad
  | some (.p _) => .bad
  | some _ => match setT i d (ρ3.set j (.o e)) with
    | none => .bad
    | some ρ4 => match setT l f ρ4 with
      | some ρ5 => .ok .nx ρ5
      | none => .bad
theorem TSD.parNew3 {i j l : Nat} (hij : i ≠ j) {ta tb tc : TE} {fa fb fc : EM D} (ha : TD K mg W ta fa) (hb : TF K mg W tb fb) (hc : TD K mg W tc fc) : TSD K mg W (tPar3 i j l (tCons ta (tCons tb (tCons tc tNil)))) (parNew3S i j l fa fb fc) := by
  intro Hf σ ρ H S E h
  refine ha Hf σ ρ H S _ ((Wp.rbind h).mono fun d ρ1 h1 u Hf1 H1 s1 S1 r1 => ?_)
  refine hb Hf1 σ ρ1 H1 S1 _ ((Wp.rbind h1).mono fun e ρ2 h2 a Hf2 H2 s2 S2 ha0 hf2 ro no2 => ?_)
  refine hc Hf2 σ ρ2 H2 S2 _ ((Wp.rbind h2).mono fun f ρ3 h3 w Hf3 H3 s3 S3 r3 => ?_)
  refine ⟨u, .ref a, w, rfl, ?_⟩
  obtain ⟨o, ea⟩ : ∃ o, H2 a = some o := by
    cases e : H2 a with
    | none => exact absurd e ro.there
    | some o => exact ⟨o, rfl⟩
  have k3 : H3 a = some o := s3.keep a o ea no2
  have hf3 : Hf3 a = none := s3.out a ro.there hf2 fun z => no2 z.oa
  have ro3 : RepO K Hf3 H3 e a := RepO.mono s3.fz (by rw [k3, ea]) ro
  have no3 : ¬ OA σ ρ3 a := fun z => by
    rcases s3.oa z with z | z
    · exact ro.there z
    · exact no2 z
  have h0 : H a = none := by
    cases q : H a with
    | none => rfl
    | some o' => exact absurd ha0 (s1.there a (by rw [q]; simp))
  cases e1 : ρ3[j]? with
  | none => rw [e1] at h3; exact h3.elim
  | some x =>
    have hl : j < ρ3.length := (List.getElem?_eq_some_iff.mp e1).1
    rw [e1] at h3
    have go : (∀ d' : D, x ≠ Sl.p d') → Wp K mg W ((match setT i d (ρ3.set j (.o e)) with | none => .bad | some ρ4 => match setT l f ρ4 with | some ρ5 => .ok .nx ρ5 | none => .bad : Res Fl)) (Cont K E Hf σ ρ H) → E.nx (((σ.set i (some u)).set j (some (.ref a))).set l (some w)) H3 := fun hx h3 => by
      obtain ⟨s4, S4⟩ := set_o S3 hf3 ro3 no3 hl (fun d' z => by rw [e1] at z; exact hx d' (Option.some.inj z)) ((s1.trans s2).trans s3) h0
      cases e2 : setT i d (ρ3.set j (.o e)) with
      | none => rw [e2] at h3; exact h3.elim
      | some ρ4 =>
        rw [e2] at h3
        obtain ⟨b1, b2, rfl⟩ := setT_inv e2
        obtain ⟨s5, S5⟩ := set_v S4 (Rep.mono (Same.trans s2.fz s3.fz) r1) b1 b2
        simp only at h3
        cases e3 : setT l f ((ρ3.set j (.o e)).set i (.v d)) with
        | none => rw [e3] at h3; exact h3.elim
        | some ρ5 =>
          rw [e3] at h3
          obtain ⟨b3, b4, rfl⟩ := setT_inv e3
          obtain ⟨s6, S6⟩ := set_v S5 r3 b3 b4
          have := h3 Hf3 _ H3 ((s4.trans s5).trans s6) S6
          rw [List.set_comm _ _ (Ne.symm hij)] at this
          exact this
    cases x with
    | p d' => exact h3.elim
    | u => exact go (fun _ z => by cases z) h3
    | v d' => exact go (fun _ z => by cases z) h3
    | o d' => exact go (fun _ z => by cases z) h3
end
section
variable {X : Cx} {W : XK} {a b c : Expr} {fa fb fc : EM D} {pos : Pos}
theorem s_parNew3 (i j l : Nat) {x y z : Str} {px py pz pt : Pos} {kt k2 pt2} (hc : X.calm = true) (hN : X.N.Nodup) (hi : X.N[i]? = some x) (hj : X.N[j]? = some y) (hl : X.N[l]? = some z) (hij : i ≠ j) (hil : i ≠ l) (hjl : j ≠ l)
    (hx : X.env.scope.names.lookup x = some .local) (hy : X.env.scope.names.lookup y = some .local) (hz : X.env.scope.names.lookup z = some .local) (ha : PD X W a fa) (hb : PF X W b fb) (hc' : PD X W c fc)
    (n1 : starEach [a, b, c] X.env = (false, eval a X.env) :: starEach [b, c] X.env) (n2 : starEach [b, c] X.env = (false, eval b X.env) :: starEach [c] X.env) (n3 : starEach [c] X.env = (false, eval c X.env) :: starEach [] X.env)
    (hw : swappedStores [.Tuple [.Name x px, .Name y py, .Name z pz] kt pt] (.Tuple [a, b, c] k2 pt2) X.env = pure (some [x, y, z]))
    (hs : swapsWithSole [.Tuple [.Name x px, .Name y py, .Name z pz] kt pt] (.Tuple [a, b, c] k2 pt2) pos.line X.env = pure false) :
    PSD X W (.Assign [.Tuple [.Name x px, .Name y py, .Name z pz] kt pt] (.Tuple [a, b, c] k2 pt2) pos) (parNew3S i j l fa fb fc) := let ⟨_, a1, a2⟩ := ha.ex; let ⟨_, b1, b2⟩ := hb.ex; let ⟨_, c1, c2⟩ := hc'.ex;
  ⟨_, ps_par3 hc hN hi hj hl hij hil hjl hx hy hz (pa_cons a1 (pa_cons b1 (pa_cons c1 pa_nil n3) n2) n1) hw hs, TSD.parNew3 hij a2 b2 c2⟩
end
end DL

/-! The D layer, 21: a, b = new, new; k in an owned dict. -/
namespace DL
open PySem L2 PySem.W

section
variable {K : PySem.W.Frag} {mg : Str → Option Value} {W : XK} {Hf H : Hp} {σ : L2.St} {ρ : Ro}
/-- slot i gets a thing of its own, other slots may have got theirs before -/
theorem set_o2 {Hf H : Hp} {σ σ0 : L2.St} {ρ : Ro} {i : Nat} {d : D} {a : Addr} (S : SR K Hf σ ρ H) (hf : Hf a = none) (r : RepO K Hf H d a) (no : ¬ OA σ ρ a) (hl : i < ρ.length) (np : ∀ d : D, ρ[i]? ≠ some (Sl.p d)) {H0 Hf0 : Hp} {ρ0 : Ro} (s : Stp Hf0 σ0 ρ0 H0 Hf σ ρ H) (ha : H0 a = none) :
    Stp Hf0 σ0 ρ0 H0 Hf (σ.set i (some (.ref a))) (ρ.set i (.o d)) H ∧ SR K Hf (σ.set i (some (.ref a))) (ρ.set i (.o d)) H := by
  have hls : i < σ.length := by rw [S.len]; exact hl
  have old : ∀ (j : Nat) (d' : D), ((ρ.set i (.o d))[j]? = some (Sl.o d') → (i = j ∧ d' = d) ∨ (i ≠ j ∧ ρ[j]? = some (Sl.o d'))) ∧ ((ρ.set i (.o d))[j]? = some (Sl.p d') → i ≠ j ∧ ρ[j]? = some (Sl.p d')) := fun j d' => by
    rw [get_set]
    by_cases h : i = j
    · rw [if_pos h, if_pos hl]; simp [h, eq_comm]
    · rw [if_neg h]; exact ⟨fun e => .inr ⟨h, e⟩, fun e => ⟨h, e⟩⟩
  have own2 : ∀ (j : Nat) (b : Addr), OwnAt (σ.set i (some (.ref a))) (ρ.set i (.o d)) j b → (i = j ∧ b = a) ∨ (i ≠ j ∧ OwnAt σ ρ j b) := fun j b ⟨h1, d1, h2⟩ => by
    by_cases e : i = j
    · subst e
      rw [get_set, if_pos rfl, if_pos hls] at h1
      cases h1
      exact .inl ⟨rfl, rfl⟩
    · rw [get_set, if_neg e] at h1
      rw [get_set, if_neg e] at h2
      exact .inr ⟨e, h1, d1, h2⟩
  refine ⟨⟨s.fz, s.keep, s.there, s.out, fun j d' h => ?_, fun j d' h => s.pin' j d' ((old j d').2 h).2, fun b ⟨j, d', h1, h2⟩ => ?_, by simp [s.len]⟩, ⟨S.sub, by simp [S.len], fun j d' h => ?_, fun j d' h => ?_, fun j l b h1 h2 => ?_⟩⟩
  · obtain ⟨⟨d2, p1⟩, p2⟩ := s.pin j d' h
    have ne : i ≠ j := fun e => np d2 (e ▸ p1)
    exact ⟨⟨d2, by rw [get_set, if_neg ne]; exact p1⟩, by rw [get_set, if_neg ne]; exact p2⟩
  · by_cases e : i = j
    · subst e
      rw [get_set, if_pos rfl, if_pos hls] at h1
      cases h1
      exact .inl ha
    · rw [get_set, if_neg e] at h1
      rw [get_set, if_neg e] at h2
      exact s.oo b ⟨j, d', h1, h2⟩
  · rw [get_set] at h
    by_cases e : i = j
    · rw [if_pos e, if_pos hl] at h; cases h
    · rw [if_neg e] at h
      obtain ⟨w, g1, g2⟩ := S.val j d' h
      exact ⟨w, by rw [get_set, if_neg e]; exact g1, g2⟩
  · by_cases e : i = j
    · subst e
      have : d' = d := by
        rw [get_set, if_pos rfl, if_pos hl] at h
        rcases h with h | h <;> cases h <;> rfl
      subst this
      exact ⟨a, by rw [get_set, if_pos rfl, if_pos hls], hf, r⟩
    · rw [get_set, if_neg e] at h
      obtain ⟨b, g1, g2, g3⟩ := S.own j d' h
      exact ⟨b, by rw [get_set, if_neg e]; exact g1, g2, g3⟩
  · rcases own2 j b h1 with ⟨e1, e2⟩ | ⟨e1, k1⟩ <;> rcases own2 l b h2 with ⟨f1, f2⟩ | ⟨f1, k2⟩
    · rw [← e1, ← f1]
    · subst e2; exact absurd ⟨l, k2⟩ no
    · subst f2; exact absurd ⟨j, k1⟩ no
    · exact S.inj j l b k1 k2
theorem oa_set {i : Nat} {a c : Addr} {d : D} (h : OA (σ.set i (some (.ref a))) (ρ.set i (.o d)) c) : c = a ∨ OA σ ρ c := by
  obtain ⟨k, h1, d', h2⟩ := h
  by_cases e : i = k
  · subst e
    rw [get_set, if_pos rfl] at h1
    split at h1
    · have := Option.some.inj (Option.some.inj h1)
      exact .inl (V.ref.inj this).symm
    · cases h1
  · rw [get_set, if_neg e] at h1
    rw [get_set, if_neg e] at h2
    exact .inr ⟨k, h1, d', h2⟩
/-- a, b = two new lists or dicts: each owns its own -/
def parNNS (i j : Nat) (fa fb : EM D) : SM := fun ρ => (fa ρ).bind fun d ρ1 => (fb ρ1).bind fun e ρ2 => match ρ2[i]? with
  | none => .bad
  | some (.p _) => .bad
  | some _ => match (ρ2.set i (.o d))[j]? with
    | none => .bad
    | some (.p _) => .bad
    | some _ => .ok .nx ((ρ2.set i (.o d)).set j (.o e))
theorem TSD.parNN {i j : Nat} {ta tb : TE} {fa fb : EM D} (ha : TF K mg W ta fa) (hb : TF K mg W tb fb) : TSD K mg W (tPar i j (tCons ta (tCons tb tNil))) (parNNS i j fa fb) := by
  intro Hf σ ρ H S E h
  refine ha Hf σ ρ H S _ ((Wp.rbind h).mono fun d ρ1 h1 a Hf1 H1 s1 S1 ha0 hf1 ro no1 => ?_)
  refine hb Hf1 σ ρ1 H1 S1 _ ((Wp.rbind h1).mono fun e ρ2 h2 c Hf2 H2 s2 S2 hc0 hf2 ro' no2' => ?_)
  refine ⟨.ref a, .ref c, rfl, ?_⟩
  obtain ⟨o, ea⟩ : ∃ o, H1 a = some o := by
    cases e : H1 a with
    | none => exact absurd e ro.there
    | some o => exact ⟨o, rfl⟩
  have k2 : H2 a = some o := s2.keep a o ea no1
  have hfa : Hf2 a = none := s2.out a ro.there hf1 fun z => no1 z.oa
  have roa : RepO K Hf2 H2 d a := RepO.mono s2.fz (by rw [k2, ea]) ro
  have noa : ¬ OA σ ρ2 a := fun z => by
    rcases s2.oa z with z | z
    · exact ro.there z
    · exact no1 z
  have hca : c ≠ a := fun z => by rw [z, ea] at hc0; cases hc0
  have hc : H c = none := by
    cases q : H c with
    | none => rfl
    | some o' => exact absurd hc0 (s1.there c (by rw [q]; simp))
  cases e1 : ρ2[i]? with
  | none => rw [e1] at h2; exact h2.elim
  | some x =>
    have hl : i < ρ2.length := (List.getElem?_eq_some_iff.mp e1).1
    rw [e1] at h2
    have go : (∀ d' : D, x ≠ Sl.p d') → Wp K mg W ((match (ρ2.set i (.o d))[j]? with | none => .bad | some (.p _) => .bad | some _ => .ok .nx ((ρ2.set i (.o d)).set j (.o e)) : Res Fl)) (Cont K E Hf σ ρ H) → E.nx ((σ.set i (some (.ref a))).set j (some (.ref c))) H2 := fun hx h2 => by
      obtain ⟨s3, S3⟩ := set_o S2 hfa roa noa hl (fun d' z => by rw [e1] at z; exact hx d' (Option.some.inj z)) (s1.trans s2) ha0
      have noc : ¬ OA (σ.set i (some (.ref a))) (ρ2.set i (.o d)) c := fun z => by
        rcases oa_set z with z | z
        · exact hca z
        · exact no2' z
      cases e2 : (ρ2.set i (.o d))[j]? with
      | none => rw [e2] at h2; exact h2.elim
      | some y =>
        have hl2 : j < (ρ2.set i (.o d)).length := (List.getElem?_eq_some_iff.mp e2).1
        rw [e2] at h2
        have go2 : (∀ d' : D, y ≠ Sl.p d') → Wp K mg W (.ok .nx ((ρ2.set i (.o d)).set j (.o e)) : Res Fl) (Cont K E Hf σ ρ H) → E.nx ((σ.set i (some (.ref a))).set j (some (.ref c))) H2 := fun hy h2 => by
          obtain ⟨s4, S4⟩ := set_o2 S3 hf2 ro' noc hl2 (fun d' z => by rw [e2] at z; exact hy d' (Option.some.inj z)) s3 hc
          exact h2 Hf2 _ H2 s4 S4
        cases y with
        | p d' => exact h2.elim
        | u => exact go2 (fun _ z => by cases z) h2
        | v d' => exact go2 (fun _ z => by cases z) h2
        | o d' => exact go2 (fun _ z => by cases z) h2
    cases x with
    | p d' => exact h2.elim
    | u => exact go (fun _ z => by cases z) h2
    | v d' => exact go (fun _ z => by cases z) h2
    | o d' => exact go (fun _ z => by cases z) h2
end
end DL

/-! The D layer, 22: x in d.values(). -/
namespace DL
open PySem L2 PySem.W PySem.Calls PyProof.Rows
open Sem (wp)

theorem ci_entry : entryFor table "proto.contains_iter" = some Builtin.«proto.contains_iter» := entryFor_of_tree (by kernel_rfl)
theorem ci_plain : plainId "proto.contains_iter" = true := by decide +kernel
theorem no_contains : typeLookup (.type "dict_values") "__contains__" = pure none := am_miss_of_fast (by decide +kernel)
section
variable {prog : Program} {w : World} {A : Around} {E : Value → Shared → Prop} {s : Shared}
theorem ci_loop {KK : Type} [DecidableEq KK] {knd : KeyKind prog w KK} {it d : Addr} {x : Int} {tx : Tok} {ep : Nat} {kvs : List (KK × Value)} {vals : List Int} (hh : A.handled = none) (hne : d ≠ it)
    (hv : ∀ (j : Nat) (p : KK × Value), kvs[j]? = some p → ∃ i t, vals[j]? = some i ∧ p.2 = .int i t) (hlen : vals.length = kvs.length) {h0 : Heap} {R : Result → Shared → Prop}
    (hR : ∀ (g : Heap), (∀ b o, b ≠ it → h0.get? b = some o → g.get? b = some o) → R (.ok (.ret (.bool (vals.any fun y => y == x)))) { s with heap := g }) :
    ∀ (n i : Nat) (g : Heap), kvs.length - i = n → i ≤ kvs.length → (∀ y ∈ vals.take i, (y == x) = false) → g.IsValIter it d i kvs.length ep → g.DictAt knd d kvs ep → (∀ b o, b ≠ it → h0.get? b = some o → g.get? b = some o) →
      codeAny (model prog w) A (.builtin "proto.contains_iter" ⟨[.ref it, .int x tx], []⟩) R { s with heap := g } := by
  intro n
  induction n with
  | zero =>
    intro i g hn hi hno hit hm kp
    have hie : i = kvs.length := by omega
    refine codeAny_builtin ci_entry ?_
    rw [Around.under_plainId ci_plain _]
    show wpAny _ A.in1 (pyNext (.ref it) >>= _) _ _ _
    refine wpAny_bind (wpAny_pyNext_values_end (A := A.in1) hh hit hm (by simp; omega) fun g' eb => ?_)
    have hf : (vals.any fun y => y == x) = false := by
      rw [List.any_eq_false]
      intro y hy
      rw [List.take_of_length_le (by omega)] at hno
      rw [hno y hy]
      simp
    refine wpAny_bind (wpAny_rule ?_)
    have := hR g' fun b o hb e => eb b o hb (kp b o hb e)
    rw [hf] at this
    exact wpAny_pure this
  | succ n ih =>
    intro i g hn hi hno hit hm kp
    have hlt : i < kvs.length := by omega
    obtain ⟨p, hp⟩ : ∃ p, kvs[i]? = some p := ⟨kvs[i], List.getElem?_eq_getElem hlt⟩
    obtain ⟨y, t, hy, ev⟩ := hv i p hp
    refine codeAny_builtin ci_entry ?_
    rw [Around.under_plainId ci_plain _]
    show wpAny _ A.in1 (pyNext (.ref it) >>= _) _ _ _
    refine wpAny_bind (wpAny_pyNext_values_item hit hm (k := p.1) (v := p.2) hp fun g' hit' sb => ?_)
    rw [ev]
    show wpAny _ _ (eqBool (.int y t) (.int x tx) >>= _) _ _ _
    refine wpAny_bind (wpAny_eqBool_int ?_)
    cases q : (y == x) with
    | true =>
      have ht : (vals.any fun y => y == x) = true := by
        rw [List.any_eq_true]
        exact ⟨y, List.mem_of_getElem? hy, q⟩
      refine wpAny_bind (wpAny_rule ?_)
      have := hR g' fun b o hb e => sb.extBut b o hb (kp b o hb e)
      rw [ht] at this
      exact wpAny_pure this
    | false =>
      have tk : vals.take (i + 1) = vals.take i ++ [y] := by rw [List.take_add_one, hy]; rfl
      refine wpAny_pure ⟨plainId_quiet ci_plain _, ih (i + 1) g' (by omega) (by omega) (fun z hz => ?_) hit' (hm.extBut sb.extBut hne) fun b o hb e => sb.extBut b o hb (kp b o hb e)⟩
      rw [tk] at hz
      rcases List.mem_append.mp hz with hz | hz
      · exact hno z hz
      · rw [List.mem_singleton.mp hz]; exact q
/-- x in a view of a dict's values, all of them ints -/
theorem contains_vals {KK : Type} [DecidableEq KK] {knd : KeyKind prog w KK} {v d : Addr} {x : Int} {tx : Tok} {ep : Nat} {kvs : List (KK × Value)} {vals : List Int} {Q : Bool → Shared → Prop} (hh : A.handled = none)
    (hview : s.heap.IsValuesView v d) (hm : s.heap.DictAt knd d kvs ep) (hv : ∀ (j : Nat) (p : KK × Value), kvs[j]? = some p → ∃ i t, vals[j]? = some i ∧ p.2 = .int i t) (hlen : vals.length = kvs.length)
    (hQ : ∀ (g : Heap), (∀ b o, s.heap.get? b = some o → g.get? b = some o) → Q (vals.any fun y => y == x) { s with heap := g }) : wpAny (model prog w) A (contains (.ref v) (.int x tx)) Q E s := by
  unfold contains
  refine wpAny_holding ?_
  rw [stdlibNamesSay?_of_typeIs hview.typeIs]
  refine wpAny_bind (wpAny_specialOf hview.typeIs no_contains ?_)
  rw [if_neg (by simp)]
  refine wpAny_bind (wpAny_callSpecialUnlessNone?_none hview.typeIs no_contains ?_)
  refine wpAny_bind (wpAny_rule ?_)
  refine wpAny_bind (wpAny_tryCatch (wpAny_pyIter_values hview hm ?_))
  have hn : (s.heap.push { cls := .type "dict_valueiterator", data := .fields #[.ref d, .int 0 0, .int kvs.length 0, .int ep 0] }).get? s.heap.objs.size = some { cls := .type "dict_valueiterator", data := .fields #[.ref d, .int 0 0, .int kvs.length 0, .int ep 0] } := Heap.get?_push_size _ rfl
  have hm2 : (s.heap.push { cls := .type "dict_valueiterator", data := .fields #[.ref d, .int 0 0, .int kvs.length 0, .int ep 0] }).DictAt knd d kvs ep := hm.push _
  have hdn : d ≠ s.heap.objs.size := fun e => by
    obtain ⟨o, es, ho, _⟩ := id hm
    exact Nat.lt_irrefl _ (e ▸ Heap.lt_size ho)
  refine wpAny_bind (wpAny_runValue (ci_loop (x := x) (h0 := s.heap) hh hdn hv hlen (fun g k => ?_) kvs.length 0 _ rfl (Nat.zero_le _) (by simp) ⟨_, hn, rfl, rfl⟩ hm2 fun b o hb e => Heap.get?_push_of_some _ e))
  exact wpAny_pure (hQ g fun b o e => k b o (fun z => Nat.lt_irrefl _ (z ▸ Heap.lt_size e)) e)
end
end DL

/-! The D layer, 23: owned dicts: k not in d, x not in d.values(), d.update(e); a, b = new, new. -/
namespace DL
open PySem L2 PySem.W PySem.Calls PyProof.Rows

section
variable {X : Cx} {W : XK} {a b : Expr} {fa fb : EM D} {pos : Pos}
theorem s_parNN (i j : Nat) {x y : Str} {px py pt : Pos} {kt k2 pt2} (hc : X.calm = true) (hN : X.N.Nodup) (hi : X.N[i]? = some x) (hj : X.N[j]? = some y) (hij : i ≠ j)
    (hx : X.env.scope.names.lookup x = some .local) (hy : X.env.scope.names.lookup y = some .local) (ha : PF X W a fa) (hb : PF X W b fb) (n1 : starEach [a, b] X.env = (false, eval a X.env) :: starEach [b] X.env) (n2 : starEach [b] X.env = (false, eval b X.env) :: starEach [] X.env)
    (hw : swappedStores [.Tuple [.Name x px, .Name y py] kt pt] (.Tuple [a, b] k2 pt2) X.env = pure (some [x, y]))
    (hs : swapsWithSole [.Tuple [.Name x px, .Name y py] kt pt] (.Tuple [a, b] k2 pt2) pos.line X.env = pure false) :
    PSD X W (.Assign [.Tuple [.Name x px, .Name y py] kt pt] (.Tuple [a, b] k2 pt2) pos) (parNNS i j fa fb) := let ⟨_, a1, a2⟩ := ha.ex; let ⟨_, b1, b2⟩ := hb.ex; ⟨_, ps_par hc hN hi hj hij hx hy (pa_cons a1 (pa_cons b1 pa_nil n2) n1) hw hs, TSD.parNN a2 b2⟩
end

section
variable {X : Cx}
def rNotInK : R2 := fun x y H Q => ∃ a kvs k, y = .ref a ∧ Rd H a (.dK kvs) ∧ x = kV k ∧ Q (.bl (!(valV kvs k).isSome)) H
theorem op_notInK (hu : X.A.units + 64 < cLine) : OpR X (compareOp .NotIn) rNotInK := by
  intro pins s σ H x y v u Q I rx ry ⟨a, kvs, k, e1, g, e2, q⟩
  subst e1
  cases ry
  exact d_notIn (by omega) I (.inl ⟨kvs, k, g, e2, rfl⟩) rx fun s' I' => ⟨.bl (!(valV kvs k).isSome), H, I', rfl, q⟩
/-- the view d.values() at p -/
def valsO (p d : Addr) : HO := .ext fun h => h.IsValuesView p d
theorem valsO_ok {P : Program} {w : World} {H : Hp} {h : Heap} {p d : Addr} (e : h.get? p = some { cls := .type "dict_values", data := .fields #[.ref d] }) : ObjOk P w H h p (valsO p d) :=
  ⟨⟨_, e, rfl, rfl⟩, ⟨_, e⟩, fun h1 h2 x k => let ⟨o, ho, r⟩ := x; ⟨o, k o ho, r⟩⟩
/-- d.values() of a dict, as it stands -/
def rVals : V → List V → Hp → VK → Prop := fun x xs H Q => ∃ (a : Addr) (kvs : List (Key × V)), x = .ref a ∧ xs = [] ∧ H a = some (.dK kvs) ∧ ∀ p, H p = none → Q (.ref p) (upd H p (valsO p a))
theorem mt_values : MtR X "dict.values" rVals := by
  intro pins s σ H x xs v us Q I rx rxs h
  obtain ⟨a, kvs, rfl, rfl, ha, q⟩ := h
  cases rx
  cases rxs
  obtain ⟨z, hd, vs, rel, dd⟩ := dk_of I.hok ha
  refine call_meetsIn PySem.F.slot_dict_values dd.typeIs PySem.F.entry_dict_values (PySem.F.args_dict_values_1 _) (meets_dict_values (mixKind X.prog X.w) a hd) ⟨⟨vs, dd⟩, ?_⟩
  exact ⟨.ref s.heap.objs.size, upd H s.heap.objs.size (valsO s.heap.objs.size a), I.laid (t' := s.toks) (fun b u e => Heap.get?_push_of_some _ e) (Nat.le_refl _) (valsO_ok (Heap.get?_push_size _ rfl)), rfl, q _ (I.hok.fresh (Nat.le_refl _))⟩
theorem kv_at : ∀ {kvs : List (Key × V)} {vs : List (Key × Value)} {j : Nat} {p : Key × V} {q : Key × Value}, KV kvs vs → kvs[j]? = some p → vs[j]? = some q → p.1 = q.1 ∧ RelV p.2 q.2
  | _, _, j, _, _, .nil, h, _ => by simp at h
  | _, _, 0, _, _, .cons h t, h1, h2 => by
    simp at h1 h2
    subst h1 h2
    exact h
  | _, _, j + 1, _, _, .cons h t, h1, h2 => by
    simp at h1 h2
    exact kv_at t h1 h2
/-- x not in the values, all of them ints -/
def rNotInVals : R2 := fun x y H Q => ∃ p a kvs, ∃ ns : List Int, ∃ k, y = .ref p ∧ H p = some (valsO p a) ∧ H a = some (.dK kvs) ∧ kvs.map (·.2) = ns.map V.int ∧ x = .int k ∧ Q (.bl (!(ns.any fun y => y == k))) H
theorem op_notInVals (hc : X.calm = true) : OpR X (compareOp .NotIn) rNotInVals := by
  intro pins s σ H x y v u Q I rx ry ⟨p, a, kvs, ns, k, e1, hp, ha, hns, e2, q⟩
  subst e1 e2
  cases ry
  obtain ⟨tk, rfl⟩ := rx
  obtain ⟨z, hd, vs, rel, dd⟩ := dk_of I.hok ha
  have hv : s.heap.IsValuesView p a := (show ObjOk X.prog X.w H s.heap p (valsO p a) from I.hok p _ hp).1
  obtain ⟨ep, dat⟩ : ∃ ep, s.heap.DictAt (mixKind X.prog X.w) a vs ep := by
    obtain ⟨o, es, ep, h1, h2, h3, h4⟩ := dd
    exact ⟨ep, o, es, h1, h2, h3, h4⟩
  have hl : vs.length = kvs.length := (Paired.length rel).symm
  have hl2 : ns.length = kvs.length := by
    have := congrArg List.length hns
    rw [List.length_map, List.length_map] at this
    exact this.symm
  show wpAny _ _ (do return Value.bool (!(← contains (.ref p) (.int k tk)))) _ _ s
  refine wpAny_bind (contains_vals (I.ok.hd hc) hv dat (vals := ns) (fun j pr e => ?_) (by omega) fun g kp => ?_)
  · have hj : j < kvs.length := by rw [← hl]; exact (List.getElem?_eq_some_iff.mp e).1
    obtain ⟨kv, e3⟩ : ∃ kv, kvs[j]? = some kv := ⟨kvs[j], List.getElem?_eq_getElem hj⟩
    have rr : RelV kv.2 pr.2 := (kv_at rel e3 e).2
    have e4 : (ns.map V.int)[j]? = some kv.2 := by rw [← hns, List.getElem?_map, e3]; rfl
    rw [List.getElem?_map] at e4
    cases e5 : ns[j]? with
    | none => rw [e5] at e4; cases e4
    | some i =>
      rw [e5] at e4
      have e6 : V.int i = kv.2 := Option.some.inj e4
      rw [← e6] at rr
      obtain ⟨t, rr⟩ := rr
      exact ⟨i, t, rfl, rr⟩
  · exact wpAny_pure ⟨.bl _, H, I.kept (t' := s.toks) kp, rfl, q⟩
/-- d.update(e) -/
def rUpdK : V → List V → Hp → VK → Prop := fun x xs H Q => ∃ (a b : Addr) (kvs more : List (Key × V)), x = .ref a ∧ xs = [.ref b] ∧ H a = some (.dK kvs) ∧ H b = some (.dK more) ∧ a ≠ b ∧ kvs.length + more.length ≤ sizeLine ∧ Q .non (upd H a (.dK (mergeK kvs more)))
theorem mt_updK : MtR X "dict.update" rUpdK := by
  intro pins s σ H x xs v us Q I rx rxs h
  obtain ⟨a, b, kvs, more, rfl, rfl, ha, hb, ne, hz, q⟩ := h
  cases rx
  obtain ⟨u, rfl, ru⟩ := L2.vals1 rxs
  cases ru
  obtain ⟨z, hd, vs, rel, dd⟩ := dk_of I.hok ha
  obtain ⟨z2, hd2, vs2, rel2, dd2⟩ := dk_of I.hok hb
  refine call_meetsIn PySem.F.slot_dict_update dd.typeIs PySem.F.entry_dict_update (PySem.F.args_dict_update_2 _ _) (meets_dict_update (mixKind X.prog X.w) a b ne hd2)
    ⟨vs, vs2, dd, dd2, by rw [← Paired.length rel, ← Paired.length rel2]; exact hz, fun h' dd' dd2' hs => ?_⟩
  have he : ∃ q, h'.get? a = some q := let ⟨q, _, _, hq, _⟩ := dd'; ⟨q, hq⟩
  have hl : (mergeK kvs more).length ≤ sizeLine := Nat.le_trans (length_mergeK more kvs) (by omega)
  exact ⟨.non, _, d_write (t' := s.toks) I (by rw [ha]; exact True.intro) hs he (dk_new hl hd (KV.merge rel2 rel) dd'), rfl, q⟩
end
end DL

/-! The D layer, 24: owned dicts on data: k not in d, x not in d.values(), d.update(e). -/
namespace DL
open PySem L2 PySem.W

section
variable {K : PySem.W.Frag} {mg : Str → Option Value} {W : XK} {Hf H : Hp}
/-- k not in d, d owned -/
def notInKO (fe : EM D) (i : Nat) : EM D := bindM fe fun x => bindM (ownK i) fun kvs => liftO ((keyD x).map fun k => .bl (!(valD kvs k).isSome))
theorem TD.notInKO {i : Nat} {te : TE} {fe : EM D} (he : TD K mg W te fe) : TD K mg W (tOp rNotInK te (tVar i)) (DL.notInKO fe i) := by
  intro Hf σ ρ H S Q h
  refine he Hf σ ρ H S _ ((Wp.bind h).mono fun x ρ1 h2 v Hf1 H1 s1 S1 r1 => ?_)
  obtain ⟨b, kvs, vs, g1, g2, g3, g4, g5, g6⟩ := ownK_inv S1 h2
  obtain ⟨d, e, h4⟩ := Wp.lift g6
  refine ⟨.ref b, g1, ?_⟩
  obtain ⟨key, ek, rfl⟩ := map_inv e
  obtain ⟨i1, i2⟩ := repk_val (k := key) g5
  have hs : (valV vs key).isSome = (valD kvs key).isSome := by
    cases ev : valD kvs key with
    | none => rw [i2 ev]; rfl
    | some d => obtain ⟨w, q1, _⟩ := i1 d ev; rw [q1]; rfl
  exact ⟨b, vs, key, rfl, .inl g4, keyD_rep ek r1, by rw [hs]; exact h4 _ Hf1 H1 s1 S1 (by unfold Rep; rfl)⟩
/-- x not in d.values(), d owned, ints -/
def notInVO (fe : EM D) (i : Nat) : EM D := bindM fe fun x => bindM (ownK i) fun kvs => liftO (match x, intsD (kvs.map (·.2)) with
  | .int k, some ns => some (.bl (!(ns.any fun y => y == k)))
  | _, _ => none)
theorem TD.notInVO {i : Nat} {te : TE} {fe : EM D} (he : TD K mg W te fe) : TD K mg W (tOp rNotInVals te (tBM0 K "dict" rVals (tVar i))) (DL.notInVO fe i) := by
  intro Hf σ ρ H S Q h
  refine he Hf σ ρ H S _ ((Wp.bind h).mono fun x ρ1 h2 v Hf1 H1 s1 S1 r1 => ?_)
  obtain ⟨b, kvs, vs, g1, g2, g3, g4, g5, g6⟩ := ownK_inv S1 h2
  obtain ⟨d, e, h4⟩ := Wp.lift g6
  refine ⟨.ref b, g1, .inr (.inr (.inl ⟨rfl, .inl ⟨vs, g4⟩⟩)), b, vs, rfl, rfl, g4, fun p hp => ?_⟩
  match x, e, r1 with
  | .int k, e, r1 =>
    cases en : intsD (kvs.map (·.2)) with
    | none => rw [en] at e; cases e
    | some ns =>
      rw [en] at e
      cases e
      cases rep_int r1
      have n := New.fresh (o := valsO p b) S1.sub hp
      have ne : b ≠ p := fun e => by rw [e, hp] at g4; cases g4
      exact ⟨p, b, vs, ns, k, rfl, upd_same, by rw [upd_ne ne]; exact g4, ints_rep en (repk_vals g5), rfl, h4 _ Hf1 _ (s1.trans n.stp) (n.sr S1) (by unfold Rep; rfl)⟩
/-- d.update(e), e a new dict -/
def mergeKD : List (D × D) → List (D × D) → Option (List (D × D))
  | acc, [] => some acc
  | acc, (k, x) :: r => match keyD k with
    | some key => mergeKD (putD acc k key x) r
    | none => none
theorem mergeKD_rep : ∀ {more acc out : List (D × D)} {av mv : List (Key × V)}, Repk K Hf more mv → Repk K Hf acc av → mergeKD acc more = some out → Repk K Hf out (mergeK av mv)
  | [], acc, out, av, mv, r, ra, e => by
    unfold Repk at r
    subst r
    cases e
    exact ra
  | (k, x) :: more, acc, out, av, mv, r, ra, e => by
    unfold Repk at r
    obtain ⟨k', v, r', rfl, h1, h2, h3⟩ := r
    unfold mergeKD at e
    rw [h1] at e
    have := mergeKD_rep h3 (repk_put h1 h2 ra) e
    exact this
def updE (i : Nat) (fe : EM D) : EM Unit := bindM (ownK i) fun _ => bindM fe fun d => bindM (ownK i) fun kvs => bindM (liftO (match d with
  | .dct more => if kvs.length + more.length ≤ 1000000 then mergeKD kvs more else none
  | _ => none)) fun out => fun ρ => .ok () (putO i (.dct out) ρ)
def updO (i : Nat) (fe : EM D) : SM := doS (updE i fe)
theorem tyV_dict {a : Addr} {vs : List (Key × V)} (h : H a = some (.dK vs)) : tyV K "dict" (.ref a) H := .inr (.inr (.inl ⟨rfl, .inl ⟨vs, h⟩⟩))
theorem TSD.updO {i : Nat} {te : TE} {fe : EM D} (he : TF K mg W te fe) : TSD K mg W (tDrop (tBM K "dict" rUpdK (tVar i) (tCons te tNil))) (updO i fe) := by
  intro Hf σ ρ H S E h
  obtain ⟨a, ds0, vs0, k1, _, _, k2, _, h1⟩ := ownK_inv S (Wp.rbind (show Wp K mg W (Res.bind (updE i fe ρ) fun _ ρ1 => .ok Fl.nx ρ1) _ from h))
  refine ⟨.ref a, k1, tyV_dict k2, he Hf σ ρ H S _ ((Wp.bind h1).mono fun d ρ1 h2 c Hf1 H1 s1 S1 hc0 hcf ro no => ?_)⟩
  obtain ⟨b, kvs, vs, g1, g2, g3, g4, g5, g6⟩ := ownK_inv S1 h2
  cases own_same k1 g1
  obtain ⟨out, e, h4⟩ := Wp.lift (Wp.bind g6)
  match d, e, ro with
  | .dct more, e, ro =>
    simp only at e
    split at e
    · rename_i hl
      obtain ⟨mv, q1, q2⟩ := ro
      have ne : a ≠ c := fun z => no ⟨i, by rw [← z]; exact g1, _, g2⟩
      refine ⟨a, c, vs, mv, rfl, rfl, g4, q1, ne, ?_, ?_⟩
      · rw [← repk_len g5, ← repk_len q2]; exact Nat.le_of_lt (big_line hl)
      · obtain ⟨s3, S3⟩ := own_upd (o := .dK (mergeK vs mv)) (d' := .dct out) S1 g1 g2 ⟨mergeK vs mv, upd_same, mergeKD_rep q2 g5 e⟩
        exact h4 Hf1 σ _ (s1.trans s3) S3
    · cases e
end
section
variable {X : Cx} {W : XK} {a e : Expr} {fa fe : EM D} {pos : Pos} {y : Str}
theorem d_notInKO (i : Nat) {p2 : Pos} (hu : X.A.units + 64 < cLine) (hN : X.N[i]? = some y) (hv : Vis X.env.scope y) (ha : PD X W a fa) (hm : behindInMarks .NotIn (.Name y p2) = false) (hd : (y == ("__debug__" : Str)) = false := by decide) (hcd : (y == ("__classdict__" : Str)) = false := by decide) :
    PD X W (.Compare a [.NotIn] [.Name y p2] pos) (notInKO fa i) := let ⟨_, a1, a2⟩ := ha.ex; ⟨_, pe_cmpR (op_notInK hu) a1 (pe_var hN hv hd hcd) hm, TD.notInKO a2⟩
theorem b_notInKO (i : Nat) {p2 : Pos} (hu : X.A.units + 64 < cLine) (hN : X.N[i]? = some y) (hv : Vis X.env.scope y) (ha : PD X W a fa) (hm : behindInMarks .NotIn (.Name y p2) = false) (hd : (y == ("__debug__" : Str)) = false := by decide) (hcd : (y == ("__classdict__" : Str)) = false := by decide) :
    PB X W (.Compare a [.NotIn] [.Name y p2] pos) (testE (notInKO fa i)) := let ⟨_, a1, a2⟩ := ha.ex; ⟨_, pt_cmpR (op_notInK hu) a1 (pe_var hN hv hd hcd) hm, TB.test (TD.notInKO a2)⟩
theorem b_notInVO (i : Nat) {p2 apos cpos : Pos} (hc : X.calm = true) (hN : X.N[i]? = some y) (hv : Vis X.env.scope y) (ha : PD X W a fa) (hbase : attributeBase (.Name y p2) "values" X.env (eval (.Name y p2) X.env) = eval (.Name y p2) X.env) (hline : (apos.endLine == cpos.line) = true)
    (hm : behindInMarks .NotIn (.Call (.Attribute (.Name y p2) "values" apos) [] [] cpos) = false) (hd : (y == ("__debug__" : Str)) = false := by decide) (hcd : (y == ("__classdict__" : Str)) = false := by decide) :
    PB X W (.Compare a [.NotIn] [.Call (.Attribute (.Name y p2) "values" apos) [] [] cpos] pos) (testE (notInVO fa i)) := let ⟨_, a1, a2⟩ := ha.ex;
  ⟨_, pt_cmpR (op_notInVals hc) a1 (pe_bm0 PySem.F.plainAttrs_dict PySem.F.slot_dict_values PySem.F.type_dict_values mt_values (pe_var hN hv hd hcd) hbase hline) hm, TB.test (TD.notInVO a2)⟩
theorem s_updO (i : Nat) {p2 p3 p4 : Pos} (hN : X.N[i]? = some y) (hv : Vis X.env.scope y) (he : PF X W e fe) (hbase : attributeBase (.Name y p2) "update" X.env (eval (.Name y p2) X.env) = eval (.Name y p2) X.env)
    (hfew : ((backTo p4 (starEach [e] X.env)).all (fun x => !x.1) && (backToKw p4 (keywordEach [] X.env)).all (fun x => x.1.isSome) && decide (([e] : List Expr).length + ([] : List Keyword).length + (if ([] : List Keyword).isEmpty then 0 else 1) < 30)) = true)
    (hline : (p3.endLine == p4.line) = true) (hs : starEach [e] X.env = (false, eval e X.env) :: starEach [] X.env) (hplain : (backTo p4 (starEach [] X.env)).any (·.1) = false)
    (hsw : swapsWith (.Call (.Attribute (.Name y p2) "update" p3) [e] [] p4) none pos.line X.env = pure false) (hd : (y == ("__debug__" : Str)) = false := by decide) (hcd : (y == ("__classdict__" : Str)) = false := by decide) :
    PSD X W (.Expr (.Call (.Attribute (.Name y p2) "update" p3) [e] [] p4) pos) (updO i fe) :=
  let ⟨_, e1, e2⟩ := he.ex; ⟨_, ps_expr (pe_bm PySem.F.plainAttrs_dict PySem.F.slot_dict_update PySem.F.type_dict_update mt_updK (pe_var hN hv hd hcd) (pa_cons e1 pa_nil hs) hbase hfew hline hs hplain) hsw, TSD.updO e2⟩
end
end DL

/-! The D layer, 25: dicts whose keys are tuples (of ints, bools, None, tuples): the machine's side. -/
namespace DL
open PySem L2 PySem.W PySem.Calls PyProof.Rows

section
variable {X : Cx} {pins : List (Addr × Obj)} {σ : L2.St} {Hf H : Hp} {s : Shared}
mutual
theorem rep_nested (I : Inv X pins σ H s) (sm : Same Hf H) : ∀ {d : D} {v : V} {u : Value} {k : NestedKey}, nkD d = some k → Rep X.K Hf d v → RelV v u → NestedIs s.heap k u
  | .non, v, u, k, h, r, rv => by
    unfold nkD at h
    cases h
    unfold Rep at r
    subst r
    cases rv
    exact .none
  | .bl b, v, u, k, h, r, rv => by
    unfold nkD at h
    cases h
    unfold Rep at r
    subst r
    cases rv
    exact .bool rfl
  | .int i, v, u, k, h, r, rv => by
    unfold nkD at h
    cases h
    unfold Rep at r
    subst r
    obtain ⟨t, rfl⟩ := rv
    exact .int _ _
  | .tup ds, v, u, k, h, r, rv => by
    unfold nkD at h
    cases e : nksD ds with
    | none => rw [e] at h; cases h
    | some ks =>
      rw [e] at h
      cases h
      unfold Rep at r
      obtain ⟨a, vs, rfl, r1, r2⟩ := r
      cases rv
      obtain ⟨its, rv, ht, _⟩ := I.tuple (Same.sqT sm r1.sqT)
      obtain ⟨o, h1, h2, n, h3⟩ := ht
      exact .tup h1 h2 h3 (by simpa using reps_nested I sm e r2 rv)
  | .str _, _, _, _, h, _, _ => by unfold nkD at h; cases h
  | .ref _, _, _, _, h, _, _ => by unfold nkD at h; cases h
  | .prt _, _, _, _, h, _, _ => by unfold nkD at h; cases h
  | .lst _, _, _, _, h, _, _ => by unfold nkD at h; cases h
  | .dct _, _, _, _, h, _, _ => by unfold nkD at h; cases h
  | .dcn _, _, _, _, h, _, _ => by unfold nkD at h; cases h
  | .ty _, _, _, _, h, _, _ => by unfold nkD at h; cases h
  | .ins _ _, _, _, _, h, _, _ => by unfold nkD at h; cases h
  | .scr _, _, _, _, h, _, _ => by unfold nkD at h; cases h
theorem reps_nested (I : Inv X pins σ H s) (sm : Same Hf H) : ∀ {ds : List D} {vs : List V} {us : List Value} {ks : List NestedKey}, nksD ds = some ks → Reps X.K Hf ds vs → Vals vs us → NestedAll s.heap ks us
  | [], vs, us, ks, h, r, rv => by
    unfold nksD at h
    cases h
    unfold Reps at r
    subst r
    cases rv
    exact .nil
  | d :: ds, vs, us, ks, h, r, rv => by
    unfold nksD at h
    cases e1 : nkD d with
    | none => rw [e1] at h; cases h
    | some k =>
      cases e2 : nksD ds with
      | none => rw [e1, e2] at h; cases h
      | some kr =>
        rw [e1, e2] at h
        cases h
        unfold Reps at r
        obtain ⟨v, r', rfl, r1, r2⟩ := r
        cases rv with
        | cons q1 q2 => exact .cons (rep_nested I sm e1 r1 q1) (reps_nested I sm e2 r2 q2)
end
end

/-! ### entries -/
def valE (es : List NEnt) (k : NestedKey) : Option V := (es.find? fun e => decide (e.1 = k)).map (·.2.2)
def putEs (es : List NEnt) (k : NestedKey) (b : Addr) (v : V) : List NEnt :=
  if (es.any fun e => decide (e.1 = k)) = true then es.map (fun e => if e.1 = k then (e.1, e.2.1, v) else e) else es ++ [(k, b, v)]
theorem putEs_len (es : List NEnt) (k : NestedKey) (b : Addr) (v : V) : (putEs es k b v).length ≤ es.length + 1 := by
  unfold putEs
  split
  · rw [List.length_map]; omega
  · rw [List.length_append, List.length_singleton]; exact Nat.le_refl _
abbrev EX3 : List NEnt → List (NestedKey × Addr × Value) → Prop := Paired fun e x => e.1 = x.1 ∧ e.2.1 = x.2.1 ∧ RelV e.2.2 x.2.2
theorem ex3_at : ∀ {es : List NEnt} {xs : List (NestedKey × Addr × Value)} (k : NestedKey), EX3 es xs → ((es.any fun e => decide (e.1 = k)) = (atKey xs k).isSome) ∧ RelO (valE es k) ((atKey xs k).map (·.2))
  | _, _, k, .nil => ⟨rfl, True.intro⟩
  | _, _, k, .cons (a := e) (b := x) h t => by
    obtain ⟨h1, h2, h3⟩ := h
    obtain ⟨i1, i2⟩ := ex3_at k t
    by_cases q : e.1 = k
    · have q' : x.1 = k := h1.symm.trans q
      refine ⟨by simp [atKey, List.find?_cons, q, q'], ?_⟩
      unfold valE atKey
      rw [List.find?_cons, List.find?_cons, decide_eq_true q, decide_eq_true q']
      exact h3
    · have q' : ¬ x.1 = k := fun z => q (h1.trans z)
      unfold valE atKey at *
      rw [List.find?_cons, List.find?_cons, decide_eq_false q, decide_eq_false q', List.any_cons, decide_eq_false q, Bool.false_or]
      exact ⟨i1, i2⟩
theorem ex3_map {es : List NEnt} {xs : List (NestedKey × Addr × Value)} {k : NestedKey} {v : V} {u : Value} (r : RelV v u) (h : EX3 es xs) : EX3 (es.map fun e => if e.1 = k then (e.1, e.2.1, v) else e) (xs.map (putAt k u)) := by
  induction h with
  | nil => exact .nil
  | @cons e x es xs h t ih =>
    obtain ⟨h1, h2, h3⟩ := h
    rw [List.map_cons, List.map_cons]
    refine .cons ?_ ih
    unfold putAt
    by_cases q : e.1 = k
    · rw [if_pos q, if_pos (h1.symm.trans q)]
      exact ⟨h1, h2, r⟩
    · rw [if_neg q, if_neg (fun z => q (h1.trans z))]
      exact ⟨h1, h2, h3⟩
theorem ex3_put {es : List NEnt} {xs : List (NestedKey × Addr × Value)} {k : NestedKey} {b : Addr} {v : V} {u : Value} (r : RelV v u) (h : EX3 es xs) : EX3 (putEs es k b v) (storedH xs k b u) := by
  unfold putEs storedH
  rw [(ex3_at k h).1]
  split
  · exact ex3_map r h
  · exact Paired.snoc h ⟨rfl, rfl, r⟩
/-- keys that may stand in a dict here -/
def keysOk (w : World) (es : List NEnt) : Prop := ∀ e ∈ es, e.1.hash w = hashN e.1 ∧ e.1.depth ≤ 8
theorem putEs_mem {es : List NEnt} {k : NestedKey} {b : Addr} {v : V} {e : NEnt} (h : e ∈ putEs es k b v) : e.1 = k ∨ ∃ e' ∈ es, e.1 = e'.1 := by
  unfold putEs at h
  split at h
  · obtain ⟨e', h1, rfl⟩ := List.mem_map.mp h
    right
    refine ⟨e', h1, ?_⟩
    split <;> rfl
  · rcases List.mem_append.mp h with h | h
    · exact .inr ⟨e, h, rfl⟩
    · rw [List.mem_singleton.mp h]; exact .inl rfl
section
variable {P : Program} {w : World} {h : Heap} {a : Addr}
theorem ents_of : ∀ {es : List NEnt} {us : List Value}, Vals (es.map (·.2.2)) us → EX3 es (List.zipWith (fun (e : NEnt) u => (e.1, e.2.1, u)) es us)
  | [], us, r => by cases r; exact .nil
  | e :: es, us, r => by
    rw [List.map_cons] at r
    cases r with
    | cons r1 r2 => exact .cons ⟨rfl, rfl, r1⟩ (ents_of r2)
theorem ents_map (hk : keysOk w es) : ∀ {us : List Value}, es.length = us.length → List.zipWith (fun (e : NEnt) u => (⟨hashN e.1, .ref e.2.1, u⟩ : DictEntry)) es us = (List.zipWith (fun (e : NEnt) u => (e.1, e.2.1, u)) es us).map (entryOfKey (nestedKind P w)) := by
  induction es with
  | nil => intro us _; simp
  | cons e es ih =>
    intro us hl
    cases us with
    | nil => simp at hl
    | cons u us =>
      rw [List.zipWith_cons_cons, List.zipWith_cons_cons, List.map_cons, ih (fun e he => hk e (List.mem_cons_of_mem _ he)) (by simpa using hl)]
      congr 1
      show (⟨hashN e.1, .ref e.2.1, u⟩ : DictEntry) = ⟨e.1.hash w, .ref e.2.1, u⟩
      rw [(hk e List.mem_cons_self).1]
theorem ex3_vals {es : List NEnt} {xs : List (NestedKey × Addr × Value)} (h : EX3 es xs) : Vals (es.map (·.2.2)) (xs.map (·.2.2)) := by
  induction h with
  | nil => exact .nil
  | cons h t ih => exact .cons h.2.2 ih
theorem ex3_keys {es : List NEnt} {xs : List (NestedKey × Addr × Value)} (h : EX3 es xs) : es.map (·.1) = xs.map (·.1) := by
  induction h with
  | nil => rfl
  | cons h t ih => rw [List.map_cons, List.map_cons, ih, h.1]
theorem ex3_ents {es : List NEnt} {xs : List (NestedKey × Addr × Value)} (hk : keysOk w es) (h : EX3 es xs) : xs.map (entryOfKey (nestedKind P w)) = List.zipWith (fun (e : NEnt) u => (⟨hashN e.1, .ref e.2.1, u⟩ : DictEntry)) es (xs.map (·.2.2)) := by
  induction h with
  | nil => rfl
  | @cons e x es xs h t ih =>
    rw [List.map_cons, List.map_cons, List.zipWith_cons_cons, ih (fun e he => hk e (List.mem_cons_of_mem _ he))]
    congr 1
    show (⟨x.1.hash w, .ref x.2.1, x.2.2⟩ : DictEntry) = ⟨hashN e.1, .ref e.2.1, x.2.2⟩
    rw [← (hk e List.mem_cons_self).1, h.1, h.2.1]
/-- out of the model's dict -/
theorem dn_into {es : List NEnt} {xs : List (NestedKey × Addr × Value)} (hk : keysOk w es) (hs : (a == sysModules) = false) (hz : es.length ≤ sizeLine) (r : EX3 es xs) (hd : h.DictOfH (nestedKind P w) a xs) : dnP a es h := by
  obtain ⟨o, ents, ep, ho, hx, hdat, he, _, hn⟩ := hd
  exact ⟨hs, hz, by rw [ex3_keys r]; exact hn, o, ents, ep, xs.map (·.2.2), ho, hx, hdat, ex3_vals r, by rw [he, ex3_ents hk r]⟩
theorem dn_mono {es : List NEnt} {h1 h2 : Heap} (x : dnP a es h1) (k : ∀ o, h1.get? a = some o → h2.get? a = some o) : dnP a es h2 := by
  obtain ⟨x1, x2, x3, o, ents, ep, us, ho, r⟩ := x
  exact ⟨x1, x2, x3, o, ents, ep, us, k o ho, r⟩
theorem dn_obj {es : List NEnt} (x : dnP a es h) (H : Hp) : ObjOk P w H h a (dnO a es) := ⟨x, let ⟨_, _, _, o, _, _, _, ho, _⟩ := x; ⟨o, ho⟩, fun _ _ x k => dn_mono x k⟩
end
section
variable {X : Cx} {pins : List (Addr × Obj)} {σ : L2.St} {Hf H : Hp} {s : Shared} {a : Addr} {es : List NEnt}
theorem dn_rd (I : Inv X pins σ H s) (g : Rd H a (dnO a es)) : dnP a es s.heap := by
  rcases g with g | ⟨o, g⟩
  · exact (show ObjOk X.prog X.w H s.heap a (dnO a es) from I.hok a _ g).1
  · exact (show ObjOk X.prog X.w H s.heap a (.frz o (dnO a es)) from I.hok a _ g).2.1
theorem repn_keys (w : World) {K : PySem.W.Frag} : ∀ {kvs : List (D × D)} {es : List NEnt}, Repn K Hf kvs es → keysOk w es
  | [], es, r => by unfold Repn at r; subst r; exact fun e h => nomatch h
  | (k, d) :: kvs, es, r => by
    unfold Repn at r
    obtain ⟨nk, b, v, r', rfl, h1, h2, h3, h4⟩ := r
    intro e he
    rcases List.mem_cons.mp he with rfl | he
    · exact ⟨nk_hash w (nk8_inv h1).1, (nk8_inv h1).2⟩
    · exact repn_keys w h4 e he
theorem repn_is (I : Inv X pins σ H s) (sm : Same Hf H) : ∀ {kvs : List (D × D)} {es : List NEnt}, Repn X.K Hf kvs es → ∀ e ∈ es, NestedIs s.heap e.1 (.ref e.2.1)
  | [], es, r => by unfold Repn at r; subst r; exact fun e h => nomatch h
  | (k, d) :: kvs, es, r => by
    unfold Repn at r
    obtain ⟨nk, b, v, r', rfl, h1, h2, h3, h4⟩ := r
    intro e he
    rcases List.mem_cons.mp he with rfl | he
    · exact rep_nested I sm (nk8_inv h1).1 h2 rfl
    · exact repn_is I sm h4 e he
/-- the model's dict -/
theorem dn_dict {kvs : List (D × D)} (I : Inv X pins σ H s) (sm : Same Hf H) (g : Rd H a (dnO a es)) (r : Repn X.K Hf kvs es) : ∃ xs, EX3 es xs ∧ s.heap.DictOfH (nestedKind X.prog X.w) a xs := by
  obtain ⟨x1, x2, x3, o, ents, ep, us, ho, hx, hdat, hv, he⟩ := dn_rd I g
  have hl : es.length = us.length := by have := hv.length; rw [List.length_map] at this; exact this
  have ex := ents_of hv
  have hk := repn_keys X.w r
  refine ⟨_, ex, o, ents, ep, ho, hx, hdat, by rw [he, ents_map hk hl], ?_, by rw [← ex3_keys ex]; exact x3⟩
  have his := repn_is I sm r
  have all : ∀ {l : List NEnt} {m : List (NestedKey × Addr × Value)}, EX3 l m → (∀ e ∈ l, NestedIs s.heap e.1 (.ref e.2.1) ∧ e.1.depth ≤ 8) → ∀ x ∈ m, (nestedKind X.prog X.w).is s.heap x.1 x.2.1 := by
    intro l m q
    induction q with
    | nil => intro _ x hx; exact nomatch hx
    | @cons e x l m h t ih =>
      intro hq y hy
      rcases List.mem_cons.mp hy with rfl | hy
      · have := hq e List.mem_cons_self
        rw [← h.1, ← h.2.1]
        exact this
      · exact ih (fun e he => hq e (List.mem_cons_of_mem _ he)) y hy
  exact all ex fun e he => ⟨his e he, (hk e he).2⟩
end
end DL

/-! The D layer, 26: dicts whose keys are tuples: {k: v}, k in d, d[k], d[k] = v. -/
namespace DL
open PySem L2 PySem.W PySem.Calls PyProof.Rows

def tupK (d : D) : Option NestedKey := match d with
  | .tup ds => nk8 (.tup ds)
  | _ => none
theorem tupK_inv {d : D} {k : NestedKey} (h : tupK d = some k) : nk8 d = some k ∧ ∃ ds, d = .tup ds := by
  unfold tupK at h
  split at h
  · exact ⟨h, _, rfl⟩
  · cases h
def keyIsN (k : NestedKey) (p : D × D) : Bool := decide (nk8 p.1 = some k)
def valN (kvs : List (D × D)) (k : NestedKey) : Option D := (kvs.find? (keyIsN k)).map (·.2)
def putN (kvs : List (D × D)) (kd : D) (k : NestedKey) (d : D) : List (D × D) :=
  if kvs.any (keyIsN k) = true then kvs.map (fun p => if keyIsN k p then (p.1, d) else p) else kvs ++ [(kd, d)]
section
variable {K : PySem.W.Frag} {Hf : Hp}
theorem repn_len : ∀ {kvs : List (D × D)} {es : List NEnt}, Repn K Hf kvs es → kvs.length = es.length
  | [], es, r => by unfold Repn at r; subst r; rfl
  | (k, d) :: kvs, es, r => by
    unfold Repn at r
    obtain ⟨nk, b, v, r', rfl, h1, h2, h3, h4⟩ := r
    rw [List.length_cons, List.length_cons, repn_len h4]
theorem repn_any (k : NestedKey) : ∀ {kvs : List (D × D)} {es : List NEnt}, Repn K Hf kvs es → kvs.any (keyIsN k) = es.any fun e => decide (e.1 = k)
  | [], es, r => by unfold Repn at r; subst r; rfl
  | (kd, d) :: kvs, es, r => by
    unfold Repn at r
    obtain ⟨nk, b, v, r', rfl, h1, h2, h3, h4⟩ := r
    rw [List.any_cons, List.any_cons, repn_any k h4]
    congr 1
    unfold keyIsN
    rw [h1]
    simp
theorem repn_val (k : NestedKey) : ∀ {kvs : List (D × D)} {es : List NEnt}, Repn K Hf kvs es → (∀ d, valN kvs k = some d → ∃ v, valE es k = some v ∧ Rep K Hf d v) ∧ (valN kvs k = none → valE es k = none)
  | [], es, r => by
    unfold Repn at r
    subst r
    exact ⟨fun d h => (by cases h), fun _ => rfl⟩
  | (kd, d) :: kvs, es, r => by
    unfold Repn at r
    obtain ⟨nk, b, v, r', rfl, h1, h2, h3, h4⟩ := r
    obtain ⟨i1, i2⟩ := repn_val k h4
    unfold valN valE at *
    rw [List.find?_cons, List.find?_cons]
    by_cases q : nk = k
    · have q2 : keyIsN k (kd, d) = true := by unfold keyIsN; rw [h1, q]; simp
      rw [q2, decide_eq_true q]
      exact ⟨fun d' e => by cases e; exact ⟨v, rfl, h3⟩, fun e => nomatch e⟩
    · have q2 : keyIsN k (kd, d) = false := by
        unfold keyIsN
        rw [h1]
        exact decide_eq_false fun e => q (Option.some.inj e)
      rw [q2, decide_eq_false q]
      exact ⟨i1, i2⟩
theorem repn_isSome {k : NestedKey} {kvs : List (D × D)} {es : List NEnt} (r : Repn K Hf kvs es) : (valE es k).isSome = (valN kvs k).isSome := by
  obtain ⟨i1, i2⟩ := repn_val k r
  cases e : valN kvs k with
  | none => rw [i2 e]; rfl
  | some d => obtain ⟨v, q, _⟩ := i1 d e; rw [q]; rfl
theorem repn_map {k : NestedKey} {d : D} {v : V} (rv : Rep K Hf d v) : ∀ {kvs : List (D × D)} {es : List NEnt}, Repn K Hf kvs es → Repn K Hf (kvs.map fun p => if keyIsN k p then (p.1, d) else p) (es.map fun e => if e.1 = k then (e.1, e.2.1, v) else e)
  | [], es, r => by unfold Repn at r; subst r; unfold Repn; rfl
  | (kd, d') :: kvs, es, r => by
    unfold Repn at r
    obtain ⟨nk, b, v', r', rfl, h1, h2, h3, h4⟩ := r
    have ih := repn_map (k := k) rv h4
    rw [List.map_cons, List.map_cons]
    by_cases q : nk = k
    · have q2 : keyIsN k (kd, d') = true := by unfold keyIsN; rw [h1, q]; simp
      rw [if_pos q2, if_pos q]
      unfold Repn
      exact ⟨nk, b, v, _, rfl, h1, h2, rv, ih⟩
    · have q2 : ¬ keyIsN k (kd, d') = true := by
        unfold keyIsN
        rw [h1]
        simp
        exact q
      rw [if_neg q2, if_neg q]
      unfold Repn
      exact ⟨nk, b, v', _, rfl, h1, h2, h3, ih⟩
theorem repn_snoc {k : NestedKey} {kd d : D} {b : Addr} {v : V} (hk : nk8 kd = some k) (rk : Rep K Hf kd (.ref b)) (rv : Rep K Hf d v) : ∀ {kvs : List (D × D)} {es : List NEnt}, Repn K Hf kvs es → Repn K Hf (kvs ++ [(kd, d)]) (es ++ [(k, b, v)])
  | [], es, r => by
    unfold Repn at r
    subst r
    show Repn K Hf [(kd, d)] [(k, b, v)]
    unfold Repn
    exact ⟨k, b, v, [], rfl, hk, rk, rv, by unfold Repn; rfl⟩
  | (kd', d') :: kvs, es, r => by
    unfold Repn at r
    obtain ⟨nk, b', v', r', rfl, h1, h2, h3, h4⟩ := r
    rw [List.cons_append, List.cons_append]
    unfold Repn
    exact ⟨nk, b', v', _, rfl, h1, h2, h3, repn_snoc hk rk rv h4⟩
theorem repn_put {k : NestedKey} {kd d : D} {b : Addr} {v : V} {kvs : List (D × D)} {es : List NEnt} (hk : nk8 kd = some k) (rk : Rep K Hf kd (.ref b)) (rv : Rep K Hf d v) (r : Repn K Hf kvs es) : Repn K Hf (putN kvs kd k d) (putEs es k b v) := by
  unfold putN putEs
  rw [repn_any k r]
  split
  · exact repn_map rv r
  · exact repn_snoc hk rk rv r
end
/-! ### the machine -/
section
variable {X : Cx}
def rInN (K : PySem.W.Frag) (neg : Bool) : R2 := fun x y H Q => ∃ Hf kvs es a b kd nk, Same Hf H ∧ y = .ref a ∧ Rd H a (dnO a es) ∧ Repn K Hf kvs es ∧ x = .ref b ∧ Rep K Hf kd (.ref b) ∧ nk8 kd = some nk ∧ Q (.bl (if neg then !(valE es nk).isSome else (valE es nk).isSome)) H
theorem op_inN (hu : X.A.units + 64 < cLine) : OpR X (compareOp .In) (rInN X.K false) := by
  intro pins s σ H x y v u Q I rx ry ⟨Hf, kvs, es, a, b, kd, nk, sm, e1, g, r, e2, rk, hk, q⟩
  subst e1 e2
  cases rx
  cases ry
  obtain ⟨xs, ex, hd⟩ := dn_dict I sm g r
  have hi := rep_nested I sm (nk8_inv hk).1 rk rfl
  refine in_keyed (knd := nestedKind X.prog X.w) (k := nk) (show X.A.in1.units + 8 < cLine by rw [Around.in1_units]; omega) ⟨hi, (nk8_inv hk).2⟩ (dn_rd I g).1 ⟨xs, hd, rfl⟩ ?_
  rw [valueAt_pairsH, ← (ex3_at nk ex).2.isSome_eq]
  exact ⟨.bl _, H, I.tok _, rfl, q⟩
theorem op_notInN (hu : X.A.units + 64 < cLine) : OpR X (compareOp .NotIn) (rInN X.K true) := by
  intro pins s σ H x y v u Q I rx ry ⟨Hf, kvs, es, a, b, kd, nk, sm, e1, g, r, e2, rk, hk, q⟩
  subst e1 e2
  cases rx
  cases ry
  obtain ⟨xs, ex, hd⟩ := dn_dict I sm g r
  have hi := rep_nested I sm (nk8_inv hk).1 rk rfl
  refine notIn_keyed (knd := nestedKind X.prog X.w) (k := nk) (show X.A.in1.units + 8 < cLine by rw [Around.in1_units]; omega) ⟨hi, (nk8_inv hk).2⟩ (dn_rd I g).1 ⟨xs, hd, rfl⟩ ?_
  rw [valueAt_pairsH, ← (ex3_at nk ex).2.isSome_eq]
  exact ⟨.bl _, H, I.tok _, rfl, q⟩
def rIxN (K : PySem.W.Frag) : R2 := fun x y H Q => ∃ Hf kvs es a b kd nk v, Same Hf H ∧ x = .ref a ∧ Rd H a (dnO a es) ∧ Repn K Hf kvs es ∧ y = .ref b ∧ Rep K Hf kd (.ref b) ∧ nk8 kd = some nk ∧ valE es nk = some v ∧ Q v H
theorem ix_dn (hu : X.A.units + 64 < cLine) : IxR X (rIxN X.K) := by
  intro value slice pins s σ H x y v u Q I rx ry h hs
  obtain ⟨Hf, kvs, es, a, b, kd, nk, z, sm, e1, g, r, e2, rk, hk, hz, q⟩ := h
  subst e1 e2
  cases rx
  cases ry
  obtain ⟨xs, ex, hd⟩ := dn_dict I sm g r
  have hi := rep_nested I sm (nk8_inv hk).1 rk rfl
  have rz := (ex3_at nk ex).2
  rw [hz] at rz
  obtain ⟨u', hu', ru'⟩ := RelO.some_of rz
  have hm : s.heap.DictKeyed (nestedKind X.prog X.w) a (pairsH xs) := ⟨xs, hd, rfl⟩
  exact tail_any hm.typeIs PySem.F.slot_dict_getitem.lookup (getItem_keyed (knd := nestedKind X.prog X.w) (k := nk) (show X.A.in1.units + 8 < cLine by rw [Around.in1_units]; omega) ⟨hi, (nk8_inv hk).2⟩ hm (v := u') (by rw [valueAt_pairsH]; exact hu') ⟨z, H, I.tok _, ru', q⟩) hs
def rSetN (K : PySem.W.Frag) : TSet := fun o i v H Q => ∃ Hf kvs es a b kd nk, Same Hf H ∧ o = .ref a ∧ H a = some (dnO a es) ∧ Repn K Hf kvs es ∧ i = .ref b ∧ Rep K Hf kd (.ref b) ∧ nk8 kd = some nk ∧ es.length < sizeLine ∧ Q (upd H a (dnO a (putEs es nk b v)))
theorem set_dn (hu : X.A.units + 64 < cLine) : PSet X (rSetN X.K) := by
  intro pins s σ H o i v ov iv u Q I ro ri rv h
  obtain ⟨Hf, kvs, es, a, b, kd, nk, sm, e1, g, r, e2, rk, hk, hl, q⟩ := h
  subst e1 e2
  cases ro
  cases ri
  obtain ⟨xs, ex, hd⟩ := dn_dict I sm (.inl g) r
  have hi := rep_nested I sm (nk8_inv hk).1 rk rfl
  have hlx : xs.length = es.length := (Paired.length ex).symm
  refine wpAny_setItem_heap (knd := nestedKind X.prog X.w) (k := nk) (hsz := by omega) (show X.A.in1.units + 8 < cLine by rw [Around.in1_units]; omega) (show (nestedKind X.prog X.w).is s.heap nk b from ⟨hi, (nk8_inv hk).2⟩) hd fun h' hd' hs => ?_
  have hk' : keysOk X.w (putEs es nk b v) := fun e he => by
    rcases putEs_mem he with e1 | ⟨e', h1, h2⟩
    · rw [e1]; exact ⟨nk_hash X.w (nk8_inv hk).1, (nk8_inv hk).2⟩
    · rw [h2]; exact repn_keys X.w r e' h1
  have hz : (putEs es nk b v).length ≤ sizeLine := by have := putEs_len es nk b v; omega
  have new := dn_into hk' (dn_rd I (.inl g)).1 hz (ex3_put rv ex) hd'
  have he : ∃ q, h'.get? a = some q := let ⟨q, _, _, hq, _⟩ := hd'; ⟨q, hq⟩
  exact ⟨_, d_write I (by rw [g]; exact True.intro) hs he (dn_obj new _), q⟩
/-- {k: v} -/
def tDisp1N (K : PySem.W.Frag) (tk tv : TE) : TE := fun σ H Q => ∀ p, H p = none → tPairs [(tk, tv)] σ (upd H p (dnO p [])) fun ps H2 => ∃ x y, ps = [(x, y)] ∧ H2 p = some (dnO p []) ∧ ∃ Hf kd nk b, Same Hf H2 ∧ x = .ref b ∧ Rep K Hf kd (.ref b) ∧ nk8 kd = some nk ∧ Q (.ref p) (upd H2 p (dnO p [(nk, b, y)]))
theorem dn_nil {P : Program} {w : World} {H : Hp} {h : Heap} (hb : sysModules < h.objs.size) : ObjOk P w H (h.push { cls := .type "dict", data := .dict #[] }) h.objs.size (dnO h.objs.size []) := by
  refine dn_obj (es := []) ⟨beq_eq_false_iff_ne.mpr (Nat.ne_of_gt hb), Nat.zero_le _, List.nodup_nil, ?_⟩ H
  obtain ⟨o, es, ep, ho, hx, hdat, he, _⟩ := Heap.DictOfH.new (knd := nestedKind P w) h
  exact ⟨o, es, ep, [], ho, hx, hdat, .nil, by rw [he]; rfl⟩
theorem pe_disp1N {k v : Expr} {tk tv : TE} {pos : Pos} (hu : X.A.units + 64 < cLine) (hk : PE X k tk) (hv : PE X v tv) : PE X (.Dict [some k] [v] pos) (tDisp1N X.K tk tv) := by
  refine ⟨fun pins s σ H Q I q => ?_⟩
  have hn := I.hok.fresh (Nat.le_refl s.heap.objs.size)
  have I1 := I.laid (a := s.heap.objs.size) (o := dnO s.heap.objs.size []) (h' := s.heap.push { cls := .type "dict", data := .dict #[] }) (t' := s.toks) (fun _ _ q => Heap.get?_push_of_some _ q) (Nat.le_refl _) (dn_nil I.big)
  rw [arm_eval_Dict, zip_pairTrees [some k] [v] X.env pos rfl rfl, dictDisplay_pairs _ (by simp [pairTrees]) (by simp [pairTrees])]
  refine wpAny_bind (wpAny_standAt (wpAny_bind (wpAny_subDictH (knd := nestedKind X.prog X.w) (Q := fun d s' => wpAny (model X.prog X.w) X.A (pure (Value.ref d)) (EP X pins σ Q) X.xe s') (show X.A.units + 8 < cLine by omega) (by simp [pairTrees])
    (thn ((pps_cons hk hv pps_nil : PPs X pos [some k] [v] [(tk, tv)]).run pins _ σ _ _ I1 (q _ hn)) fun ws s2 ⟨ps, H2, I2, rel, x, y, ep, e, Hf, kd, nk, b, sm, ex, rk, hnk, q2⟩ => ?_))))
  subst ep ex
  · cases rel with
    | @cons _ pr _ _ h t =>
    cases t
    obtain ⟨pk, pv⟩ := pr
    obtain ⟨h1, h2⟩ := h
    cases h1
    have hi := rep_nested I2 sm (nk8_inv hnk).1 rk rfl
    obtain ⟨xs, ex, hd⟩ := dn_dict I2 (kvs := []) (fun _ _ h => h) (.inl e) (by unfold Repn; rfl)
    cases ex
    refine ⟨[(nk, b, pv)], ⟨rfl, rfl, ⟨hi, (nk8_inv hnk).2⟩, True.intro⟩, hd, fun h' tk hd' hs => wpAny_pure ⟨.ref s.heap.objs.size, _, ?_, rfl, q2⟩⟩
    have he : ∃ q, h'.get? s.heap.objs.size = some q := let ⟨q, _, _, hq, _⟩ := hd'; ⟨q, hq⟩
    have hk' : keysOk X.w [(nk, b, y)] := fun e he => by
      rw [List.mem_singleton.mp he]
      exact ⟨nk_hash X.w (nk8_inv hnk).1, (nk8_inv hnk).2⟩
    exact d_write I2 (by rw [e]; exact True.intro) hs he (dn_obj (dn_into hk' (dn_rd I2 (.inl e)).1 (by show 1 ≤ sizeLine; decide) (.cons ⟨rfl, rfl, h2⟩ .nil) hd') _)
end
end DL

/-! The D layer, 27: dicts whose keys are tuples, on data. -/
namespace DL
open PySem L2 PySem.W

section
variable {K : PySem.W.Frag} {mg : Str → Option Value} {W : XK} {Hf H : Hp} {σ : L2.St} {ρ : Ro}
theorem tup_ref {d : D} {v : V} {ds : List D} (e : d = .tup ds) (r : Rep K Hf d v) : ∃ b, v = .ref b := by
  subst e
  unfold Rep at r
  obtain ⟨a, _, rfl, _⟩ := r
  exact ⟨a, rfl⟩
/-- the dict that slot i owns -/
def ownN (i : Nat) : EM (List (D × D)) := fun ρ => match ρ[i]? with
  | some (.o (.dcn kvs)) => .ok kvs ρ
  | some (.p (.dcn kvs)) => .ok kvs ρ
  | _ => .bad
theorem ownN_inv {i : Nat} {α : Type} {f : List (D × D) → EM α} {k : α → Ro → Prop} (S : SR K Hf σ ρ H) (h : Wp K mg W (bindM (ownN i) f ρ) k) :
    ∃ a kvs es, σ[i]? = some (some (V.ref a)) ∧ (ρ[i]? = some (Sl.o (.dcn kvs)) ∨ ρ[i]? = some (Sl.p (.dcn kvs))) ∧ Hf a = none ∧ H a = some (dnO a es) ∧ Repn K Hf kvs es ∧ Wp K mg W (f kvs ρ) k := by
  have h := Wp.bind h
  unfold ownN at h
  cases e : ρ[i]? with
  | none => rw [e] at h; exact h.elim
  | some x =>
    rw [e] at h
    match x, e, h with
    | .o (.dcn kvs), e, h =>
      obtain ⟨a, h1, h2, es, h3, h4⟩ := S.own i _ (.inl e)
      exact ⟨a, kvs, es, h1, .inl rfl, h2, h3, h4, h⟩
    | .p (.dcn kvs), e, h =>
      obtain ⟨a, h1, h2, es, h3, h4⟩ := S.own i _ (.inr e)
      exact ⟨a, kvs, es, h1, .inr rfl, h2, h3, h4, h⟩
/-- k not in d, d owned -/
def inNO (neg : Bool) (fe : EM D) (i : Nat) : EM D := bindM fe fun x => bindM (ownN i) fun kvs => liftO ((tupK x).map fun k => .bl (if neg then !(valN kvs k).isSome else (valN kvs k).isSome))
theorem TD.inNO {i : Nat} {neg : Bool} {te : TE} {fe : EM D} (he : TD K mg W te fe) : TD K mg W (tOp (rInN K neg) te (tVar i)) (DL.inNO neg fe i) := by
  intro Hf σ ρ H S Q h
  refine he Hf σ ρ H S _ ((Wp.bind h).mono fun x ρ1 h2 v Hf1 H1 s1 S1 r1 => ?_)
  obtain ⟨a, kvs, es, g1, g2, g3, g4, g5, g6⟩ := ownN_inv S1 h2
  obtain ⟨d, e, h4⟩ := Wp.lift g6
  refine ⟨.ref a, g1, ?_⟩
  obtain ⟨nk, ek, rfl⟩ := map_inv e
  obtain ⟨hk, ds, ed⟩ := tupK_inv ek
  obtain ⟨b, rfl⟩ := tup_ref ed r1
  refine ⟨Hf1, kvs, es, a, b, x, nk, S1.sub, rfl, .inl g4, g5, rfl, r1, hk, ?_⟩
  rw [repn_isSome g5]
  exact h4 _ Hf1 H1 s1 S1 (by unfold Rep; rfl)
/-- d[k], d owned -/
def ixNO (i : Nat) (fe : EM D) : EM D := bindM (ownS i) fun _ => bindM fe fun j => bindM (ownN i) fun kvs => liftO ((tupK j).bind (valN kvs))
theorem TD.ixNO {i : Nat} {te : TE} {fe : EM D} (he : TD K mg W te fe) : TD K mg W (tOp (rIxN K) (tVar i) te) (DL.ixNO i fe) := by
  intro Hf σ ρ H S Q h
  obtain ⟨⟨a, d, h1, _⟩, h2⟩ := ownS_inv S h
  refine ⟨.ref a, h1, he Hf σ ρ H S _ ((Wp.bind h2).mono fun j ρ1 h3 v Hf1 H1 s1 S1 r1 => ?_)⟩
  obtain ⟨b, kvs, es, g1, g2, g3, g4, g5, g6⟩ := ownN_inv S1 h3
  cases own_same h1 g1
  obtain ⟨dz, e, h4⟩ := Wp.lift g6
  cases ek : tupK j with
  | none => rw [ek] at e; cases e
  | some nk =>
    rw [ek] at e
    obtain ⟨hk, ds, ed⟩ := tupK_inv ek
    obtain ⟨c, rfl⟩ := tup_ref ed r1
    obtain ⟨z, q1, q2⟩ := (repn_val nk g5).1 dz e
    exact ⟨Hf1, kvs, es, a, c, j, nk, z, S1.sub, rfl, .inl g4, g5, rfl, r1, hk, q1, h4 z Hf1 H1 s1 S1 q2⟩
/-- d[k] = x, d owned -/
def setNF (kvs : List (D × D)) (d kd : D) : Option (List (D × D)) := match tupK kd with
  | some k => if kvs.length ≤ 1000000 then some (putN kvs kd k d) else none
  | none => none
def setN (i : Nat) (fk fv : EM D) : SM := doS (bindM fv fun d => bindM (ownS i) fun _ => bindM fk fun j => bindM (ownN i) fun kvs => bindM (liftO (setNF kvs d j)) fun es => fun ρ => .ok () (putO i (.dcn es) ρ))
theorem TSD.setN {i : Nat} {ti tv : TE} {fk fv : EM D} (he : TD K mg W ti fk) (hv : TD K mg W tv fv) : TSD K mg W (tAsg tv (gSub (tVar i) ti (rSetN K))) (DL.setN i fk fv) := by
  intro Hf σ ρ H S E h
  have h := Wp.rbind (show Wp K mg W (Res.bind ((bindM fv fun d => bindM (ownS i) fun _ => bindM fk fun j => bindM (ownN i) fun kvs => bindM (liftO (setNF kvs d j)) fun es => fun ρ => .ok () (putO i (.dcn es) ρ)) ρ) fun _ ρ1 => .ok Fl.nx ρ1) _ from h)
  refine hv Hf σ ρ H S _ ((Wp.bind h).mono fun d ρ1 h1 v Hf1 H1 s1 S1 r1 => ?_)
  obtain ⟨⟨a, d0, k1, _⟩, h2⟩ := ownS_inv S1 h1
  refine ⟨.ref a, k1, he Hf1 σ ρ1 H1 S1 _ ((Wp.bind h2).mono fun j ρ2 h3 u Hf2 H2 s2 S2 r2 => ?_)⟩
  obtain ⟨b, kvs, es, g1, g2, g3, g4, g5, g6⟩ := ownN_inv S2 h3
  cases own_same k1 g1
  obtain ⟨out, e, h4⟩ := Wp.lift (Wp.bind g6)
  unfold setNF at e
  cases ek : tupK j with
  | none => rw [ek] at e; cases e
  | some nk =>
    rw [ek] at e
    simp only at e
    split at e
    · rename_i hl
      cases e
      obtain ⟨hk, ds, ed⟩ := tupK_inv ek
      obtain ⟨c, rfl⟩ := tup_ref ed r2
      refine ⟨Hf2, kvs, es, a, c, j, nk, S2.sub, rfl, g4, g5, rfl, r2, hk, by rw [← repn_len g5]; exact Nat.lt_of_le_of_lt hl (by decide), ?_⟩
      obtain ⟨s3, S3⟩ := own_upd (o := dnO a (putEs es nk c v)) (d' := .dcn (putN kvs j nk d)) S2 g1 g2 ⟨_, upd_same, repn_put hk r2 (Rep.mono s2.fz r1) g5⟩
      exact h4 Hf2 σ _ ((s1.trans s2).trans s3) S3
    · cases e
/-- {k: x}, k a tuple -/
def disp1N (fk fv : EM D) : EM D := bindM fk fun kd => bindM fv fun d => liftO ((tupK kd).map fun _ => .dcn [(kd, d)])
theorem TF.disp1N {tk tv : TE} {fk fv : EM D} (hk : TD K mg W tk fk) (hv : TD K mg W tv fv) : TF K mg W (tDisp1N K tk tv) (DL.disp1N fk fv) := by
  intro Hf σ ρ H S Q h p hp
  have n : New Hf H Hf (upd H p (dnO p [])) := New.fresh S.sub hp
  have S0 := n.sr S
  have no0 : ¬ OA σ ρ p := fresh_no S hp
  refine hk Hf σ ρ _ S0 _ ((Wp.bind h).mono fun kd ρ1 h1 w Hf1 H1 s1 S1 r1 => ?_)
  refine hv Hf1 σ ρ1 H1 S1 _ ((Wp.bind h1).mono fun d ρ2 h2 u Hf2 H2 s2 S2 r2 => ?_)
  obtain ⟨dz, e, h3⟩ := Wp.lift h2
  obtain ⟨nk, ek, rfl⟩ := map_inv e
  obtain ⟨hnk, ds, ed⟩ := tupK_inv ek
  obtain ⟨b, rfl⟩ := tup_ref ed r1
  have s12 := s1.trans s2
  have hp2 : H2 p = some (dnO p []) := s12.keep p _ upd_same no0
  have hf2 : Hf2 p = none := s12.out p (by rw [upd_same]; simp) (none_sub S.sub hp) fun z => no0 z.oa
  have no2 : ¬ OA σ ρ2 p := fun z => by
    rcases s12.oa z with z | z
    · rw [upd_same] at z; cases z
    · exact no0 z
  have rk : Rep K Hf2 kd (.ref b) := Rep.mono s2.fz r1
  refine ⟨_, _, rfl, hp2, Hf2, kd, nk, b, S2.sub, rfl, rk, hnk, ?_⟩
  have st : Stp Hf σ ρ H Hf2 σ ρ2 H2 := n.stp.trans s12
  refine h3 p Hf2 (upd H2 p (dnO p [(nk, b, u)])) ⟨st.fz, fun b o z1 z2 => ?_, fun b z => ?_, st.out, st.pin, st.pin', st.oo, st.len⟩ ⟨fun b o z => ?_, S2.len, S2.val, fun i x z => ?_, S2.inj⟩ hp hf2 ⟨[(nk, b, u)], upd_same, ?_⟩ no2
  · rw [upd_ne (fun eb => by rw [eb, hp] at z1; cases z1)]; exact st.keep b o z1 z2
  · by_cases eb : b = p
    · rw [eb, upd_same]; simp
    · rw [upd_ne eb]; exact st.there b z
  · rw [upd_ne (fun eb => by rw [eb, hf2] at z; cases z)]; exact S2.sub b o z
  · obtain ⟨a, g1, g2, g3⟩ := S2.own i x z
    have na : a ≠ p := fun ea => no2 ⟨i, by rw [← ea]; exact g1, x, z⟩
    exact ⟨a, g1, g2, RepO.mono (fun _ _ h => h) (upd_ne na) g3⟩
  · unfold Repn
    exact ⟨nk, b, u, [], rfl, hnk, rk, r2, by unfold Repn; rfl⟩
end
section
variable {X : Cx} {W : XK} {a b e : Expr} {fa fb fe : EM D} {pos pos' : Pos} {y : Str}
theorem f_disp1N (hu : X.A.units + 64 < cLine) (ha : PD X W a fa) (hb : PD X W b fb) : PF X W (.Dict [some a] [b] pos) (disp1N fa fb) := let ⟨_, a1, a2⟩ := ha.ex; let ⟨_, b1, b2⟩ := hb.ex; ⟨_, pe_disp1N hu a1 b1, TF.disp1N a2 b2⟩
theorem b_notInNO (i : Nat) {p2 : Pos} (hu : X.A.units + 64 < cLine) (hN : X.N[i]? = some y) (hv : Vis X.env.scope y) (ha : PD X W a fa) (hm : behindInMarks .NotIn (.Name y p2) = false) (hd : (y == ("__debug__" : Str)) = false := by decide) (hcd : (y == ("__classdict__" : Str)) = false := by decide) :
    PB X W (.Compare a [.NotIn] [.Name y p2] pos) (testE (inNO true fa i)) := let ⟨_, a1, a2⟩ := ha.ex; ⟨_, pt_cmpR (op_notInN hu) a1 (pe_var hN hv hd hcd) hm, TB.test (TD.inNO a2)⟩
theorem d_notInNO (i : Nat) {p2 : Pos} (hu : X.A.units + 64 < cLine) (hN : X.N[i]? = some y) (hv : Vis X.env.scope y) (ha : PD X W a fa) (hm : behindInMarks .NotIn (.Name y p2) = false) (hd : (y == ("__debug__" : Str)) = false := by decide) (hcd : (y == ("__classdict__" : Str)) = false := by decide) :
    PD X W (.Compare a [.NotIn] [.Name y p2] pos) (inNO true fa i) := let ⟨_, a1, a2⟩ := ha.ex; ⟨_, pe_cmpR (op_notInN hu) a1 (pe_var hN hv hd hcd) hm, TD.inNO a2⟩
theorem d_ixNO (i : Nat) {p2 : Pos} (hu : X.A.units + 64 < cLine) (hN : X.N[i]? = some y) (hv : Vis X.env.scope y) (hb : PD X W b fb) (hs : PlainIx b) (hd : (y == ("__debug__" : Str)) = false := by decide) (hcd : (y == ("__classdict__" : Str)) = false := by decide) :
    PD X W (.Subscript (.Name y p2) b pos) (ixNO i fb) := let ⟨_, b1, b2⟩ := hb.ex; ⟨_, pe_ix (ix_dn hu) (pe_var hN hv hd hcd) b1 hs, TD.ixNO b2⟩
theorem s_setN (i : Nat) {p2 : Pos} (hu : X.A.units + 64 < cLine) (hN : X.N[i]? = some y) (hv : Vis X.env.scope y) (hb : PD X W b fb) (he : PD X W e fe)
    (ha : ∀ v, assign (.Subscript (.Name y p2) b pos) X.env v = (do
      let ov ← holding [v] (eval (.Name y p2) X.env)
      let iv ← holding [v, ov] (eval b X.env)
      standAt pos
      holding [v, ov, iv] (setItem ov iv v)
      release [v, ov, iv] []))
    (hs : swapsWithSole [.Subscript (.Name y p2) b pos] e pos'.line X.env = pure false) (hw : swappedStores [.Subscript (.Name y p2) b pos] e X.env = pure none) (h1 : (assignEach [.Subscript (.Name y p2) b pos] X.env).map (·.2) = [assign (.Subscript (.Name y p2) b pos) X.env])
    (hd : (y == ("__debug__" : Str)) = false := by decide) (hcd : (y == ("__classdict__" : Str)) = false := by decide) :
    PSD X W (.Assign [.Subscript (.Name y p2) b pos] e pos') (setN i fb fe) := let ⟨_, b1, b2⟩ := hb.ex; let ⟨_, e1, e2⟩ := he.ex; ⟨_, ps_asg e1 (pg_sub (pe_var hN hv hd hcd) b1 (set_dn hu) ha) hs hw h1, TSD.setN b2 e2⟩
end
end DL

/-! The D layer, 28: for (.., ..) in d.items(), d a dict whose keys are tuples. -/
namespace DL
open PySem L2 PySem.W PySem.Calls PyProof.Rows

/-- the pairs of a locked dict, each a new tuple -/
def Itn (d : Addr) (o : Obj) (es : List NEnt) : It :=
  ⟨fun i H => H d = some (.frz o (dnO d es)) ∧ i < es.length, fun i H x H' => ∃ T k b v, es[i]? = some (k, b, v) ∧ x = .ref T ∧ H T = none ∧ H' = upd H T (.tup [.ref b, v]), fun i H => H d = some (.frz o (dnO d es)) ∧ es.length ≤ i⟩
section
variable {X : Cx} {pins : List (Addr × Obj)} {σ : L2.St} {H : Hp} {s : Shared} {d : Addr} {o : Obj} {es : List NEnt}
theorem frzN (I : Inv X pins σ H s) (h : H d = some (.frz o (dnO d es))) : (d == sysModules) = false ∧ ∃ (ents : Array DictEntry) (ep : Nat) (us : List Value), s.heap.get? d = some o ∧ o.ExactDict ∧ o.data = .dict ents ep ∧ DT.Raw s.heap d ents ep ∧ ents.size = es.length ∧ es.length ≤ sizeLine ∧ Vals (es.map (·.2.2)) us ∧
    ents.toList = List.zipWith (fun (e : NEnt) u => (⟨hashN e.1, .ref e.2.1, u⟩ : DictEntry)) es us := by
  obtain ⟨ho, ⟨x1, x2, x3, o', ents, ep, us, ho', hx, hdat, hv, he⟩, _⟩ := (show ObjOk X.prog X.w H s.heap d (.frz o (dnO d es)) from I.hok d _ h)
  rw [ho] at ho'
  cases ho'
  have hl : es.length = us.length := by have := hv.length; rw [List.length_map] at this; exact this
  refine ⟨x1, ents, ep, us, ho, hx, hdat, ⟨o, ho, hx, hdat⟩, ?_, x2, hv, he⟩
  have := congrArg List.length he
  rw [List.length_zipWith, ← hl, Nat.min_self] at this
  simpa using this
theorem zipN_get : ∀ {es : List NEnt} {us : List Value} {i : Nat} {k : NestedKey} {b : Addr} {v : V}, Vals (es.map (·.2.2)) us → es[i]? = some (k, b, v) → ∃ u, (List.zipWith (fun (e : NEnt) u => (⟨hashN e.1, .ref e.2.1, u⟩ : DictEntry)) es us)[i]? = some ⟨hashN k, .ref b, u⟩ ∧ RelV v u
  | [], us, i, k, b, v, _, h => by simp at h
  | e :: es, us, 0, k, b, v, r, h => by
    rw [List.map_cons] at r
    cases r with
    | cons r1 r2 =>
      simp at h
      subst h
      exact ⟨_, rfl, r1⟩
  | e :: es, us, i + 1, k, b, v, r, h => by
    rw [List.map_cons] at r
    cases r with
    | cons r1 r2 =>
      obtain ⟨u, h1, h2⟩ := zipN_get r2 (by simpa using h)
      exact ⟨u, by simpa using h1, h2⟩
end
section
variable {P : Program} {w : World} {K : PySem.W.Frag} {d : Addr} {o : Obj} {ents : Array DictEntry} {ep : Nat}
theorem turn_itemsN {es : List NEnt} {elts : List Expr} {kk : Nat} {tpos : Pos} (it : Addr) (hod : o.data = .dict ents ep) :
    Turn P w K (.Tuple elts kk tpos) (Itn d o es) [it] it (fun i h => ∃ ok ov, IsItemIter h it d i ents.size ep ok ov) where
  mem := by simp
  obj := fun i h st b hb => by
    have e : b = it := by simpa using hb
    subst e
    obtain ⟨ok, ov, e⟩ := st
    exact ⟨_, e, fun v z => nomatch z⟩
  keep := fun i h h' st k => let ⟨ok, ov, e⟩ := st; ⟨ok, ov, k it (by simp) _ e⟩
  item := by
    intro X hP hw hK hc i pins s σ H E I hf st hg
    subst hP hw hK
    obtain ⟨hd, hi⟩ := hg
    obtain ⟨hs, ents', ep', us, hgd, hx, hdt, raw, hsz, hz, hv, he⟩ := frzN I hd
    obtain ⟨rfl, rfl⟩ := dict_ep hod hdt
    obtain ⟨⟨k, b, v⟩, hkv⟩ : ∃ p, es[i]? = some p := ⟨es[i], List.getElem?_eq_getElem hi⟩
    obtain ⟨u, hu, ru⟩ := zipN_get hv hkv
    obtain ⟨ok, ov, hit⟩ := st
    have hlt : it < s.heap.objs.size := Heap.lt_size hit
    have hie : i < ents'.size := by omega
    have hent : ents'[i] = ⟨hashN k, .ref b, u⟩ := by
      have h1 : ents'.toList[i]? = some ⟨hashN k, .ref b, u⟩ := by rw [he]; exact hu
      rw [Array.getElem?_toList, Array.getElem?_eq_getElem hie] at h1
      exact Option.some.inj h1
    refine DT.nextI hit raw hie fun h' ho hT hz hk => ?_
    rw [hent] at ho hT
    refine ⟨_, rfl, wpAny_letOwnedTupleGo_items (s := { s with heap := h' }) ho fun h'' he' sb => ?_⟩
    have hT2 : h''.get? s.heap.objs.size = some { cls := .type "tuple", data := .seq #[.ref b, u] } := (sb.2 _ (Nat.ne_of_gt hlt)).trans hT
    have new : ObjOk X.prog X.w (upd H s.heap.objs.size (.tup [.ref b, v])) h'' s.heap.objs.size (.tup [.ref b, v]) :=
      ⟨by show 2 ≤ sizeLine; decide, [.ref b, u], .cons rfl (.cons ru .nil), ⟨_, hT2, rfl, _, rfl⟩⟩
    have I1 : Inv X pins σ (upd H s.heap.objs.size (.tup [.ref b, v])) { s with heap := h'' } :=
      I.turnedNew (t' := s.toks) (ch := [it]) (fun b ob hb e => (sb.2 b (by simpa using hb)).trans (hk b ob (by simpa using hb) e)) hf (Nat.le_refl _) new
    refine ⟨.ref s.heap.objs.size, _, I1, rfl, ⟨_, k, b, v, hkv, rfl, I.hok.fresh (Nat.le_refl _), rfl⟩, ⟨.ref b, u, he'⟩, fun b hb => ?_⟩
    have e : b = it := by simpa using hb
    rw [e, upd_ne (Nat.ne_of_lt hlt)]
    exact (hf it (by simp)).1
  done := by
    intro X hP hw hK hc i pins s σ H E I hf st hg
    subst hP hw hK
    obtain ⟨hd, hi⟩ := hg
    obtain ⟨f0, f1, f2, f3, f4, f5⟩ := hf it (by simp)
    obtain ⟨hs, ents', ep', us, hgd, hx, hdt, raw, hsz, hz, hv, he⟩ := frzN I hd
    obtain ⟨rfl, rfl⟩ := dict_ep hod hdt
    obtain ⟨ok, ov, hit⟩ := st
    exact DT.endI (I.ok.hd hc) hit raw (by omega) fun h' eb => ⟨rfl, I.turned (t' := s.toks) (fun b ob hb e => eb b ob hb e) f0 f1 f3 f4 f5⟩
  self := fun A i s Q E st h => let ⟨_, _, e⟩ := st; PySem.W.kcp_self e h
end
def iItemsN (td : TE) : TI := fun σ H R => td σ H fun x H1 => ∃ d o es, x = .ref d ∧ H1 d = some (.frz o (dnO d es)) ∧ R (Itn d o es) H1
theorem pi_itemsN {X : Cx} {e : Expr} {td : TE} {apos cpos : Pos} {elts : List Expr} {kk : Nat} {tpos : Pos} (he : PE X e td) (hbase : attributeBase e "items" X.env (eval e X.env) = eval e X.env := by rfl) (hline : (apos.endLine == cpos.line) = true := by rfl) :
    PI X (.Tuple elts kk tpos) (.Call (.Attribute e "items" apos) [] [] cpos) (iItemsN td) := by
  refine ⟨fun pins s σ H R I h => ?_⟩
  refine wpAny_Call_method (T := "dict") (id := "dict.items") hbase rfl hline PySem.F.plainAttrs_dict PySem.F.slot_dict_items PySem.F.type_dict_items (thn (he.run pins s σ H _ I h) fun u s1 ⟨x, H1, I1, rx, d, o, es, ex, hd, q⟩ => ?_)
  subst ex
  obtain rfl : u = Value.ref d := rx
  obtain ⟨hs, ents, ep, us, hgd, hx, hdt, raw, hsz, hz, hv, hent⟩ := frzN I1 hd
  refine ⟨raw.typeIs, fun b e => by cases e; exact ⟨o, hgd, hx.2.1⟩, ?_⟩
  have I2 : Inv X pins σ H1 { s1 with heap := s1.heap.push { cls := .type "dict_items", data := .fields #[.ref d] } } := I1.kept (t' := s1.toks) fun b ob q => Heap.get?_push_of_some _ q
  have fin : wpAny (model X.prog X.w) X.A (pyIter (.ref s1.heap.objs.size)) (PIE X pins σ (.Tuple elts kk tpos) R) X.xe { s1 with heap := s1.heap.push { cls := .type "dict_items", data := .fields #[.ref d] } } := by
    refine DT.iterI (d := d) ⟨_, Heap.get?_push_size _ rfl, rfl, rfl⟩ (raw.push _) (pi_one (tk := s1.toks) I2 _ (turn_itemsN _ hdt) ⟨.none, .none, ?_⟩ q)
    exact Heap.get?_push_size _ rfl
  show wpAny _ _ (callWith cpos (.builtin "dict.items") [.ref d] [] []) _ X.xe s1
  exact method_meetsIn PySem.F.slot_dict_items PySem.F.entry_dict_items rfl (PySem.evalArgs_none ⟨rfl, raw.typeIs, PySem.F.args_dict_items_1 _, _, DT.meetsItems (es := ents) (ep := ep) hs, raw, fin⟩)
section
variable {K : PySem.W.Frag} {mg : Str → Option Value} {W : XK} {Hf H : Hp}
theorem repn_get : ∀ {kvs : List (D × D)} {es : List NEnt} {i : Nat} {k d : D}, Repn K Hf kvs es → kvs[i]? = some (k, d) → ∃ nk b v, es[i]? = some (nk, b, v) ∧ Rep K Hf k (.ref b) ∧ Rep K Hf d v
  | [], es, i, k, d, r, h => by simp at h
  | (k', d') :: kvs, es, 0, k, d, r, h => by
    unfold Repn at r
    obtain ⟨nk, b, v, r', rfl, h1, h2, h3, h4⟩ := r
    simp at h
    obtain ⟨rfl, rfl⟩ := h
    exact ⟨nk, b, v, rfl, h2, h3⟩
  | (k', d') :: kvs, es, i + 1, k, d, r, h => by
    unfold Repn at r
    obtain ⟨nk, b, v, r', rfl, h1, h2, h3, h4⟩ := r
    obtain ⟨nk2, b2, v2, q1, q2⟩ := repn_get h4 (by simpa using h)
    exact ⟨nk2, b2, v2, by simpa using q1, q2⟩
def itemsD (kvs : List (D × D)) : List D := kvs.map fun p => .prt [p.1, p.2]
theorem itd_itemsN {a : Addr} {o : Obj} {es : List NEnt} {kvs : List (D × D)} (h : Hf a = some (.frz o (dnO a es))) (r : Repn K Hf kvs es) : Itd K (Itn a o es) Hf (itemsD kvs) where
  go := fun i d Hf1 H1 s1 s2 e => by
    unfold itemsD at e
    rw [List.getElem?_map] at e
    obtain ⟨⟨k, x⟩, e1, rfl⟩ := map_inv e
    obtain ⟨nk, b, v, g1, g2, g3⟩ := repn_get r e1
    refine ⟨⟨s2 _ _ (s1 _ _ h), (List.getElem?_eq_some_iff.mp g1).1⟩, fun y H2 ⟨T, k', b', v', g4, ey, hT, eH⟩ => ?_⟩
    rw [g1] at g4
    cases g4
    subst ey eH
    obtain ⟨n, r3⟩ := pair_rep (K := K) s2 hT (Rep.mono s1 g2) (Rep.mono s1 g3)
    exact ⟨_, n, r3⟩
  stop := fun Hf1 H1 s1 s2 => ⟨s2 _ _ (s1 _ _ h), by unfold itemsD; rw [List.length_map, repn_len r]; exact Nat.le_refl _⟩
def itemsNI (fe : EM D) : EM (List D) := bindM fe fun d => liftO (match d with | .dcn kvs => some (itemsD kvs) | _ => none)
theorem TID.itemsN {te : TE} {fe : EM D} (he : TD K mg W te fe) : TID K mg W (iItemsN te) (itemsNI fe) := by
  intro Hf σ ρ H S R h
  refine he Hf σ ρ H S _ ((Wp.bind h).mono fun d ρ1 h1 v Hf1 H1 s1 S1 r1 => ?_)
  obtain ⟨ds, e, h2⟩ := Wp.lift h1
  match d, e, r1 with
  | .dcn kvs, e, r1 =>
    cases e
    unfold Rep at r1
    obtain ⟨a, o, es, rfl, g1, g2⟩ := r1
    exact ⟨a, o, es, rfl, S1.sub _ _ g1, h2 _ Hf1 H1 s1 S1 (itd_itemsN g1 g2)⟩
end
theorem i_itemsN {X : Cx} {W : XK} {e : Expr} {fe : EM D} {apos cpos : Pos} {elts : List Expr} {kk : Nat} {tpos : Pos} (he : PD X W e fe) (hbase : attributeBase e "items" X.env (eval e X.env) = eval e X.env) (hline : (apos.endLine == cpos.line) = true) :
    PID X W (.Tuple elts kk tpos) (.Call (.Attribute e "items" apos) [] [] cpos) (itemsNI fe) := let ⟨_, a1, a2⟩ := he.ex; ⟨_, pi_itemsN a1 hbase hline, TID.itemsN a2⟩
end DL

/-! The D layer, 29: sorted(d.items()), keys and values ints. -/
namespace DL
open PySem L2 PySem.W PySem.Calls PyProof.Rows

abbrev PB3 := Addr × Obj × (Int × Int)
def layB (H : Hp) : List PB3 → Hp
  | [] => H
  | b :: B => layB (upd H b.1 (.frz b.2.1 (.tup [.int b.2.2.1, .int b.2.2.2]))) B
def leII (x y : Int × Int) : Bool := !decide (y.1 < x.1 ∨ (y.1 = x.1 ∧ y.2 < x.2))
def kvI (ps : List (Int × Int)) : List (Key × V) := ps.map fun p => (Sum.inl p.1, V.int p.2)
def encI (b : PB3) : PyData := .tuple [.int b.2.2.1, .int b.2.2.2]
theorem layB_keep : ∀ {B : List PB3} {H : Hp} {a : Addr}, (∀ b ∈ B, b.1 ≠ a) → layB H B a = H a
  | [], _, _, _ => rfl
  | b :: B, H, a, h => by
    unfold layB
    rw [layB_keep (fun c hc => h c (List.mem_cons_of_mem _ hc)), upd_ne (Ne.symm (h b List.mem_cons_self))]
theorem dataLe_B : dataLe false encI = fun a b : PB3 => leII a.2.2 b.2.2 := by
  rw [dataLe_eq]
  funext a b
  show (!dataLt (encI b) (encI a)) = _
  unfold encI
  rw [dataLt_ii]
  rfl
theorem isort_len' {α : Type} (le : α → α → Bool) : ∀ l : List α, (isort le l).length = l.length
  | [] => rfl
  | a :: l => by
    have ins : ∀ m : List α, (insD le a m).length = m.length + 1 := by
      intro m
      induction m with
      | nil => rfl
      | cons c m ih => unfold insD; split <;> simp [ih]
    show (insD le a (isort le l)).length = _
    rw [ins, isort_len' le l]; rfl
section
variable {X : Cx} {pins : List (Addr × Obj)} {σ : L2.St} {H : Hp} {s : Shared}
/-- the pairs are known, one by one -/
theorem layB_inv {h' : Heap} {tk : Nat} {I0 : Inv X pins σ H s} : ∀ {B : List PB3} {H1 : Hp}, Inv X pins σ H1 { s with heap := h', toks := tk } → (B.map (·.1)).Nodup →
    (∀ b ∈ B, s.heap.objs.size ≤ b.1 ∧ H1 b.1 = none ∧ ∀ H2, ObjOk X.prog X.w H2 h' b.1 (.frz b.2.1 (.tup [.int b.2.2.1, .int b.2.2.2]))) → Inv X pins σ (layB H1 B) { s with heap := h', toks := tk }
  | [], H1, I1, _, _ => I1
  | b :: B, H1, I1, hn, h => by
    obtain ⟨hb, hnone, ok⟩ := h b List.mem_cons_self
    rw [List.map_cons, List.nodup_cons] at hn
    have I2 : Inv X pins σ (upd H1 b.1 (.frz b.2.1 (.tup [.int b.2.2.1, .int b.2.2.2]))) { s with heap := h', toks := tk } := I1.take (h' := h') (t' := tk) (fun b ob _ e => e) (I0.fpOk hb hnone) (ok _)
    have := layB_inv (I0 := I0) (B := B) I2 hn.2 fun c hc => by
      obtain ⟨c1, c2, c3⟩ := h c (List.mem_cons_of_mem _ hc)
      exact ⟨c1, by rw [upd_ne (fun z => hn.1 (by rw [← z]; exact List.mem_map_of_mem hc))]; exact c2, c3⟩
    exact this
end
section
variable {X : Cx} {e : Expr} {td : TE} {p pos apos cpos : Pos}
def tSortIt (td : TE) : TE := fun σ H Q => td σ H fun x H1 => ∃ d o ps, x = .ref d ∧ H1 d = some (.frz o (.dK (kvI ps))) ∧ ps.length ≤ 1000 ∧
  ∀ (l : Addr) (B : List PB3), H1 l = none → (∀ b ∈ B, H1 b.1 = none ∧ b.1 ≠ l ∧ b.2.1.dict = none) → (B.map (·.1)).Nodup → B.map (·.2.2) = isort leII ps → Q (.ref l) (upd (layB H1 B) l (.lst (B.map fun b => .ref b.1)))
theorem kvI_at : ∀ {ps : List (Int × Int)} {vs : List (Key × Value)} {j : Nat} {kv : Key × Value}, KV (kvI ps) vs → vs[j]? = some kv → ∃ q t, ps[j]? = some q ∧ kv = (Sum.inl q.1, .int q.2 t)
  | [], vs, j, kv, r, h => by cases r; simp at h
  | q :: ps, vs, j, kv, r, h => by
    cases r with
    | cons h1 t =>
      cases j with
      | zero =>
        simp at h
        subst h
        obtain ⟨a1, a2⟩ := h1
        obtain ⟨tk, a2⟩ := a2
        refine ⟨q, tk, rfl, ?_⟩
        rw [← a2]
        exact Prod.ext a1.symm rfl
      | succ j =>
        obtain ⟨q2, t2, h2, h3⟩ := kvI_at t (by simpa using h)
        exact ⟨q2, t2, by simpa using h2, h3⟩
theorem pe_sortItems (hu : X.A.units + 64 < cLine) (hc : X.calm = true) (he : PE X e td) (hg : Gl X "sorted") (hm : X.mg "sorted" = none) (hbase : attributeBase e "items" X.env (eval e X.env) = eval e X.env) (hline : (apos.endLine == cpos.line) = true)
    (na : starEach [.Call (.Attribute e "items" apos) [] [] cpos] X.env = (false, eval (.Call (.Attribute e "items" apos) [] [] cpos) X.env) :: starEach [] X.env) :
    PE X (.Call (.Name "sorted" p) [.Call (.Attribute e "items" apos) [] [] cpos] [] pos) (tSortIt td) := by
  refine ⟨fun pins s σ H Q I h => Call_ (ld_blt I hg hm boot_sorted (PyProof.Rows.callWith_builtin1 (PyProof.Rows.args_cons ?_ na) na rfl))⟩
  refine wpAny_Call_method (T := "dict") (id := "dict.items") hbase rfl hline PySem.F.plainAttrs_dict PySem.F.slot_dict_items PySem.F.type_dict_items (thn (he.run pins s σ H _ I h) fun u s1 ⟨x, H1, I1, rx, d, o, ps, ex, hd, hn, q⟩ => ?_)
  subst ex
  obtain rfl : u = Value.ref d := rx
  obtain ⟨g1, g2, g3, es, ep, vs, g4, g5, g6, g7⟩ := I1.frzK hd
  refine ⟨g7.dictOf.typeIs, g7.dictOf.mapOf.noDict, ?_⟩
  have I2 : Inv X pins σ H1 { s1 with heap := s1.heap.push { cls := .type "dict_items", data := .fields #[.ref d] } } := I1.kept (t' := s1.toks) fun b ob z => Heap.get?_push_of_some _ z
  show wpAny _ _ (callWith cpos (.builtin "dict.items") [.ref d] [] []) _ X.xe s1
  refine method_meetsIn PySem.F.slot_dict_items PySem.F.entry_dict_items rfl (PySem.evalArgs_none ⟨rfl, g7.dictOf.typeIs, PySem.F.args_dict_items_1 _, _, meets_dict_items (mixKind X.prog X.w) d g1, ⟨vs, g7.dictOf⟩, PyProof.Rows.args_nil ?_⟩)
  have raw : DT.Raw s1.heap d es ep := ⟨o, g2, g3, g4⟩
  have hk8 : (kvI ps).length = ps.length := by unfold kvI; rw [List.length_map]
  have hz : es.size ≤ sizeLine := by rw [g5, hk8, sizeLine_eq]; omega
  have hh : X.A.handled = none := I1.ok.hd hc
  generalize hs2 : ({ s1 with heap := s1.heap.push { cls := .type "dict_items", data := .fields #[.ref d] } } : Shared) = s2 at *
  have view : s2.heap.IsItemsView s1.heap.objs.size d := by rw [← hs2]; exact ⟨_, Heap.get?_push_size _ rfl, rfl, rfl⟩
  have raw2 : DT.Raw s2.heap d es ep := by rw [← hs2]; exact raw.push _
  refine DT.sortedI (s := s2) (es := es) (ep := ep) hh view raw2 hz fun h' tk as hk hlt hl hG => ?_
  have nd : as.Nodup := List.Pairwise.imp (fun h => Nat.ne_of_lt h) hG.rise
  have lap : as.length = ps.length := by rw [hl, g5, hk8]
  -- the pairs that were made
  obtain ⟨o4, es4, h41, h42, h43, h44, h45, h46⟩ := id g7
  have pr : ∀ (j : Nat) (b : Addr), as[j]? = some b → ∃ (qq : Int × Int) (t1 t2 : Tok), ps[j]? = some qq ∧ h'.get? b = some { cls := .type "tuple", data := .seq #[.int qq.1 t1, .int qq.2 t2] } := by
    intro j b hj
    obtain ⟨en, hen, hg'⟩ := hG.pairs j b hj
    rw [g2] at h41
    cases h41
    rw [g4] at h43
    cases h43
    have hjl : j < es.size := (Array.getElem?_eq_some_iff.mp hen).1
    have hkv : vs.length = ps.length := by rw [← Paired.length g6, hk8]
    obtain ⟨kv, ekv⟩ : ∃ kv, vs[j]? = some kv := ⟨vs[j]'(by rw [hkv, ← hk8, ← g5]; exact hjl), List.getElem?_eq_getElem _⟩
    obtain ⟨qq, t2, e1, e2⟩ := kvI_at g6 ekv
    obtain ⟨k1, k2⟩ := h45.get? (e := en) (by rw [Array.getElem?_toList]; exact hen) ekv
    have rk : RelV (kV kv.1) en.key := relV_key (show keyIs kv.1 en.key = true from k1)
    rw [e2] at rk k2
    obtain ⟨t1, rk⟩ := rk
    exact ⟨qq, t1, t2, e1, by rw [hg', rk, k2]⟩
  -- the triples
  obtain ⟨L, hL1, hL2, hL3⟩ : ∃ L : List PB3, L.map (·.1) = as ∧ L.map (·.2.2) = ps ∧ ∀ b ∈ L, h'.get? b.1 = some b.2.1 ∧ b.2.1.dict = none ∧ ∃ t1 t2, b.2.1 = { cls := .type "tuple", data := .seq #[.int b.2.2.1 t1, .int b.2.2.2 t2] } := by
    have key : ∀ (as : List Addr) (ps : List (Int × Int)), as.length = ps.length → (∀ (j : Nat) (b : Addr), as[j]? = some b → ∃ (qq : Int × Int) (t1 t2 : Tok), ps[j]? = some qq ∧ h'.get? b = some { cls := .type "tuple", data := .seq #[.int qq.1 t1, .int qq.2 t2] }) →
        ∃ L : List PB3, L.map (·.1) = as ∧ L.map (·.2.2) = ps ∧ ∀ b ∈ L, h'.get? b.1 = some b.2.1 ∧ b.2.1.dict = none ∧ ∃ t1 t2, b.2.1 = { cls := .type "tuple", data := .seq #[.int b.2.2.1 t1, .int b.2.2.2 t2] } := by
      intro as
      induction as with
      | nil =>
        intro ps hl _
        cases ps with
        | nil => exact ⟨[], rfl, rfl, fun b hb => nomatch hb⟩
        | cons _ _ => simp at hl
      | cons a as ih =>
        intro ps hl hp
        cases ps with
        | nil => simp at hl
        | cons q ps =>
          obtain ⟨L, h1, h2, h3⟩ := ih ps (by simpa using hl) fun j b hj => by simpa using hp (j + 1) b (by simpa using hj)
          obtain ⟨qq, t1, t2, e1, e2⟩ := hp 0 a rfl
          simp at e1
          subst e1
          refine ⟨(a, { cls := .type "tuple", data := .seq #[.int q.1 t1, .int q.2 t2] }, q) :: L, by simp [h1], by simp [h2], fun b hb => ?_⟩
          rcases List.mem_cons.mp hb with rfl | hb
          · exact ⟨e2, rfl, t1, t2, rfl⟩
          · exact h3 b hb
    exact key as ps lap pr
  have hlo : ∀ b ∈ L, s2.heap.objs.size < b.1 := fun b hb => hG.above b.1 (by rw [← hL1]; exact List.mem_map_of_mem hb)
  have hob : (h'.push { cls := .type "list", data := .seq (as.map Value.ref).toArray }).get? h'.objs.size = some (seqObj "list" (as.map Value.ref).toArray 0) := Heap.get?_push_size _ rfl
  have ne0 : ∀ b o, h'.get? b = some o → b ≠ h'.objs.size := fun b o e => Nat.ne_of_lt (Heap.lt_size e)
  have kb : ∀ b o, h'.get? b = some o → (h'.push { cls := .type "list", data := .seq (as.map Value.ref).toArray }).get? b = some o := fun b o e => Heap.get?_push_of_some _ e
  generalize hh2 : h'.push { cls := .type "list", data := .seq (as.map Value.ref).toArray } = h2 at hob kb ⊢
  have evs : as.map Value.ref = L.map fun b => Value.ref b.1 := by rw [← hL1, List.map_map]; rfl
  have each : ∀ (R : Value → PB3 → Prop) (M : List PB3), (∀ b ∈ M, R (.ref b.1) b) → EachIs R (M.map fun b => Value.ref b.1) M := by
    intro R M
    induction M with
    | nil => intro _; exact .nil
    | cons b M ih => intro h; exact .cons (h b List.mem_cons_self) (ih fun c hc => h c (List.mem_cons_of_mem _ hc))
  have lL : L.length = ps.length := by have := congrArg List.length hL2; rwa [List.length_map] at this
  have ndL : (L.map (·.1)).Nodup := by rw [hL1]; exact nd
  refine list_sort_data (s := { s2 with heap := h2, toks := tk }) (bs := L) (enc := encI) (R := fun v b => v = .ref b.1) (n := 0) hob (by rw [evs]; exact each _ L fun b _ => rfl) (by
    rw [evs]
    refine each _ L fun b hb => ?_
    obtain ⟨c1, c2, t1, t2, c3⟩ := hL3 b hb
    refine ⟨[], ?_, by simp⟩
    have := kb _ _ c1
    rw [c3] at this
    exact .tuple this rfl rfl (.cons (.int _ _) (.cons (.int _ _) .nil))) (AllAlike.of fun b b' => rfl) (.tuples fun b => ⟨_, _, rfl⟩) (by rw [lL, sizeLine_eq]; omega) (fun b _ => by
      show X.A.in1.units + 1 + (encI b).depth < cLine
      have : (encI b).depth = 1 := rfl
      rw [this, Around.in1_units]; omega) fun out ho eo => ?_
  have tr := dataLe_tr encI
  rw [isort_eq tr.1 tr.2, dataLe_B] at eo
  have hperm : (isort (fun a b : PB3 => leII a.2.2 b.2.2) L).Perm L := by
    have := List.mergeSort_perm L (dataLe false encI)
    rw [isort_eq tr.1 tr.2, dataLe_B] at this
    exact this
  obtain ⟨B, hB⟩ : ∃ B, B = isort (fun a b : PB3 => leII a.2.2 b.2.2) L := ⟨_, rfl⟩
  rw [← hB] at eo hperm
  have hBm : B.map (·.2.2) = isort leII ps := by
    rw [hB, ← hL2]
    exact isort_map (fun b : PB3 => b.2.2) leII L
  have hBn : (B.map (·.1)).Nodup := (hperm.map (·.1)).nodup_iff.mpr ndL
  have hBL : ∀ b ∈ B, b ∈ L := fun b hb => hperm.mem_iff.mp hb
  show EP X pins σ Q (.ref h'.objs.size) { s2 with heap := sortedHeap h2 h'.objs.size (as.map Value.ref) out.toArray, toks := tk }
  have kF : ∀ b o, b ≠ h'.objs.size → h2.get? b = some o → (sortedHeap h2 h'.objs.size (as.map Value.ref) out.toArray).get? b = some o := fun b o hb e => (PyProof.Rows.sortedHeap_old hb (Heap.lt_size e)).trans e
  have kH : ∀ b o, h'.get? b = some o → (sortedHeap h2 h'.objs.size (as.map Value.ref) out.toArray).get? b = some o := fun b o e => kF b o (ne0 _ _ e) (kb b o e)
  obtain ⟨eF, heF⟩ := PyProof.Rows.sortedHeap_at (vs := as.map Value.ref) (out := out.toArray) hob
  generalize sortedHeap h2 h'.objs.size (as.map Value.ref) out.toArray = h3 at kH heF ⊢
  have I3 : Inv X pins σ H1 { s2 with heap := h3, toks := tk } := I2.kept (t' := tk) fun b o e => kH b o (hk b o e)
  have fresh : ∀ b, s2.heap.objs.size ≤ b → H1 b = none := fun b hb => I2.hok.fresh hb
  have I4 : Inv X pins σ (layB H1 B) { s2 with heap := h3, toks := tk } := layB_inv (I0 := I2) I3 hBn fun b hb => by
    obtain ⟨c1, c2, t1, t2, c3⟩ := hL3 b (hBL b hb)
    have hbl : s2.heap.objs.size ≤ b.1 := Nat.le_of_lt (hlo b (hBL b hb))
    refine ⟨hbl, fresh _ hbl, fun H2 => ⟨kH _ _ c1, by show 2 ≤ sizeLine; decide, [.int b.2.2.1 t1, .int b.2.2.2 t2], .cons ⟨t1, rfl⟩ (.cons ⟨t2, rfl⟩ .nil), ⟨b.2.1, kH _ _ c1, ?_, ?_⟩⟩⟩
    · rw [c3]
    · rw [c3]
      exact ⟨_, rfl⟩
  have hll : s2.heap.objs.size ≤ h'.objs.size := Nat.le_of_lt hlt
  have nel : ∀ b ∈ B, b.1 ≠ h'.objs.size := fun b hb => ne0 _ _ (hL3 b (hBL b hb)).1
  have nl : layB H1 B h'.objs.size = none := by
    rw [layB_keep nel]
    exact fresh _ hll
  have vv : ∀ {out : List Value} {B : List PB3}, EachIs (fun v b => v = .ref b.1) out B → Vals (B.map fun b => V.ref b.1) out := by
    intro out B h
    induction h with
    | nil => exact .nil
    | cons h t ih => exact .cons h ih
  have lB : (B.map fun b : PB3 => V.ref b.1).length ≤ sizeLine := by
    rw [List.length_map, hperm.length_eq, lL, sizeLine_eq]; omega
  have I5 : Inv X pins σ (upd (layB H1 B) h'.objs.size (.lst (B.map fun b => .ref b.1))) { s2 with heap := h3, toks := tk } :=
    I4.take (h' := h3) (t' := tk) (fun b ob _ e => e) (I2.fpOk hll nl) ⟨lB, out, eF, vv eo, heF⟩
  exact ⟨.ref h'.objs.size, _, I5, rfl, q _ B (fresh _ hll) (fun b hb => ⟨fresh _ (Nat.le_of_lt (hlo b (hBL b hb))), nel b hb, (hL3 b (hBL b hb)).2.1⟩) hBn hBm⟩
end
end DL

/-! The D layer, 30: sorted(d.items()) on data; a, b, c = new, new, x. -/
namespace DL
open PySem L2 PySem.W

/-- turns of a while loop that are looked at -/
def nW : Nat := 1000001
section
variable {K : PySem.W.Frag} {mg : Str → Option Value} {W : XK} {Hf H : Hp}
def intKV : List (D × D) → Option (List (Int × Int))
  | [] => some []
  | (.int k, .int x) :: r => (intKV r).map ((k, x) :: ·)
  | _ => none
def prII (p : Int × Int) : D := .tup [.int p.1, .int p.2]
theorem kv_ints : ∀ {kvs : List (D × D)} {vs : List (Key × V)} {ps : List (Int × Int)}, intKV kvs = some ps → Repk K Hf kvs vs → vs = kvI ps
  | [], vs, ps, e, r => by
    cases e
    unfold Repk at r
    exact r
  | (k, x) :: kvs, vs, ps, e, r => by
    unfold Repk at r
    obtain ⟨k', v, r', rfl, h1, h2, h3⟩ := r
    match k, x, e, h1, h2 with
    | .int i, .int j, e, h1, h2 =>
      unfold intKV at e
      obtain ⟨qs, e1, rfl⟩ := map_inv e
      have := kv_ints e1 h3
      subst this
      cases h1
      unfold Rep at h2
      subst h2
      rfl
theorem layB_new : ∀ {B : List PB3} {Hf H : Hp}, Same Hf H → (∀ b ∈ B, H b.1 = none ∧ b.2.1.dict = none) → (B.map (·.1)).Nodup →
    New Hf H (layB Hf B) (layB H B) ∧ Reps K (layB Hf B) (B.map fun b => prII b.2.2) (B.map fun b => V.ref b.1)
  | [], Hf, H, s, _, _ => ⟨New.refl s, by simp [Reps]⟩
  | b :: B, Hf, H, s, h, hn => by
    obtain ⟨h1, h2⟩ := h b List.mem_cons_self
    rw [List.map_cons, List.nodup_cons] at hn
    have r0 : Reps K Hf [.int b.2.2.1, .int b.2.2.2] [V.int b.2.2.1, V.int b.2.2.2] := reps_cons (by unfold Rep; rfl) (reps_cons (by unfold Rep; rfl) (by unfold Reps; rfl))
    obtain ⟨n1, r1⟩ := lay_tup (o := b.2.1) s h1 h2 r0
    obtain ⟨n2, r2⟩ := layB_new (B := B) n1.sub (fun c hc => by
      obtain ⟨c1, c2⟩ := h c (List.mem_cons_of_mem _ hc)
      exact ⟨by rw [upd_ne (fun z => hn.1 (by rw [← z]; exact List.mem_map_of_mem hc))]; exact c1, c2⟩) hn.2
    exact ⟨n1.trans n2, reps_cons (Rep.mono n2.fz r1) r2⟩
def sortItF (d : D) : Option D := match d with
  | .dct kvs => match intKV kvs with
    | some ps => if ps.length ≤ 1000 then some (.lst ((isort leII ps).map prII)) else none
    | none => none
  | _ => none
def sortItE (fe : EM D) : EM D := bindM fe fun d => liftO (sortItF d)
theorem TF.sortIt {td : TE} {fe : EM D} (he : TD K mg W td fe) : TF K mg W (tSortIt td) (sortItE fe) := by
  intro Hf σ ρ H S Q h
  refine he Hf σ ρ H S _ ((Wp.bind h).mono fun d ρ1 h1 v Hf1 H1 s1 S1 r1 => ?_)
  obtain ⟨dz, e, h2⟩ := Wp.lift h1
  match d, e, r1 with
  | .dct kvs, e, r1 =>
    unfold sortItF at e
    simp only at e
    cases ei : intKV kvs with
    | none => rw [ei] at e; cases e
    | some ps =>
      rw [ei] at e
      simp only at e
      split at e
      · rename_i hl
        cases e
        obtain ⟨a, o, vs, rfl, g1, g2⟩ := rep_dct r1
        have := kv_ints ei g2
        subst this
        refine ⟨a, o, ps, rfl, S1.sub _ _ g1, hl, fun l B hl0 hB hBn hBm => ?_⟩
        obtain ⟨n, r⟩ := layB_new (K := K) (B := B) S1.sub (fun b hb => ⟨(hB b hb).1, (hB b hb).2.2⟩) hBn
        have nl : layB H1 B l = none := by rw [layB_keep fun b hb => (hB b hb).2.1]; exact hl0
        have m : New (layB Hf1 B) (layB H1 B) (layB Hf1 B) (upd (layB H1 B) l (.lst (B.map fun b => .ref b.1))) := New.fresh n.sub nl
        have er : (B.map fun b => prII b.2.2) = (isort leII ps).map prII := by
          rw [← hBm, List.map_map]
          rfl
        rw [er] at r
        refine h2 l (layB Hf1 B) _ (s1.trans (n.stp.trans m.stp)) (m.sr (n.sr S1)) ?_ (none_sub n.sub nl) ⟨_, upd_same, r⟩ (fresh_no (n.sr S1) nl)
        cases q : H l with
        | none => rfl
        | some o => exact absurd hl0 (s1.there l (by rw [q]; simp))
      · cases e
/-- a, b, c = two new things, x -/
def parNN3S (i j l : Nat) (fa fb fc : EM D) : SM := fun ρ => (fa ρ).bind fun d ρ1 => (fb ρ1).bind fun e ρ2 => (fc ρ2).bind fun f ρ3 => match ρ3[i]? with
  | none => .bad
  | some (.p _) => .bad
  | some _ => match (ρ3.set i (.o d))[j]? with
    | none => .bad
    | some (.p _) => .bad
    | some _ => match setT l f ((ρ3.set i (.o d)).set j (.o e)) with
      | some ρ5 => .ok .nx ρ5
      | none => .bad
theorem TSD.parNN3 {i j l : Nat} {ta tb tc : TE} {fa fb fc : EM D} (ha : TF K mg W ta fa) (hb : TF K mg W tb fb) (hc : TD K mg W tc fc) : TSD K mg W (tPar3 i j l (tCons ta (tCons tb (tCons tc tNil)))) (parNN3S i j l fa fb fc) := by
  intro Hf σ ρ H S E h
  refine ha Hf σ ρ H S _ ((Wp.rbind h).mono fun d ρ1 h1 a Hf1 H1 s1 S1 ha0 hf1 ro no1 => ?_)
  refine hb Hf1 σ ρ1 H1 S1 _ ((Wp.rbind h1).mono fun e ρ2 h2 c Hf2 H2 s2 S2 hc0 hf2 ro' no2' => ?_)
  refine hc Hf2 σ ρ2 H2 S2 _ ((Wp.rbind h2).mono fun f ρ3 h3 w Hf3 H3 s3 S3 r3 => ?_)
  refine ⟨.ref a, .ref c, w, rfl, ?_⟩
  obtain ⟨o, ea⟩ : ∃ o, H1 a = some o := by
    cases e : H1 a with
    | none => exact absurd e ro.there
    | some o => exact ⟨o, rfl⟩
  obtain ⟨oc, ec⟩ : ∃ o, H2 c = some o := by
    cases e : H2 c with
    | none => exact absurd e ro'.there
    | some o => exact ⟨o, rfl⟩
  have s23 := s2.trans s3
  have k3 : H3 a = some o := s23.keep a o ea no1
  have hfa : Hf3 a = none := s23.out a ro.there hf1 fun z => no1 z.oa
  have roa : RepO K Hf3 H3 d a := RepO.mono s23.fz (by rw [k3, ea]) ro
  have noa : ¬ OA σ ρ3 a := fun z => by
    rcases s23.oa z with z | z
    · exact ro.there z
    · exact no1 z
  have kc : H3 c = some oc := s3.keep c oc ec no2'
  have hfc : Hf3 c = none := s3.out c ro'.there hf2 fun z => no2' z.oa
  have roc : RepO K Hf3 H3 e c := RepO.mono s3.fz (by rw [kc, ec]) ro'
  have noc0 : ¬ OA σ ρ3 c := fun z => by
    rcases s3.oa z with z | z
    · exact ro'.there z
    · exact no2' z
  have hca : c ≠ a := fun z => by rw [z, ea] at hc0; cases hc0
  have hc' : H c = none := by
    cases q : H c with
    | none => rfl
    | some o' => exact absurd hc0 (s1.there c (by rw [q]; simp))
  cases e1 : ρ3[i]? with
  | none => rw [e1] at h3; exact h3.elim
  | some x =>
    have hl : i < ρ3.length := (List.getElem?_eq_some_iff.mp e1).1
    rw [e1] at h3
    have go : (∀ d' : D, x ≠ Sl.p d') → Wp K mg W ((match (ρ3.set i (.o d))[j]? with | none => .bad | some (.p _) => .bad | some _ => match setT l f ((ρ3.set i (.o d)).set j (.o e)) with | some ρ5 => .ok .nx ρ5 | none => .bad : Res Fl)) (Cont K E Hf σ ρ H) → E.nx (((σ.set i (some (.ref a))).set j (some (.ref c))).set l (some w)) H3 := fun hx h3 => by
      obtain ⟨s4, S4⟩ := set_o S3 hfa roa noa hl (fun d' z => by rw [e1] at z; exact hx d' (Option.some.inj z)) ((s1.trans s2).trans s3) ha0
      have noc : ¬ OA (σ.set i (some (.ref a))) (ρ3.set i (.o d)) c := fun z => by
        rcases oa_set z with z | z
        · exact hca z
        · exact noc0 z
      cases e2 : (ρ3.set i (.o d))[j]? with
      | none => rw [e2] at h3; exact h3.elim
      | some y =>
        have hl2 : j < (ρ3.set i (.o d)).length := (List.getElem?_eq_some_iff.mp e2).1
        rw [e2] at h3
        have go2 : (∀ d' : D, y ≠ Sl.p d') → Wp K mg W ((match setT l f ((ρ3.set i (.o d)).set j (.o e)) with | some ρ5 => .ok .nx ρ5 | none => .bad : Res Fl)) (Cont K E Hf σ ρ H) → E.nx (((σ.set i (some (.ref a))).set j (some (.ref c))).set l (some w)) H3 := fun hy h3 => by
          obtain ⟨s5, S5⟩ := set_o2 S4 hfc roc noc hl2 (fun d' z => by rw [e2] at z; exact hy d' (Option.some.inj z)) s4 hc'
          cases e3 : setT l f ((ρ3.set i (.o d)).set j (.o e)) with
          | none => rw [e3] at h3; exact h3.elim
          | some ρ5 =>
            rw [e3] at h3
            obtain ⟨b3, b4, rfl⟩ := setT_inv e3
            obtain ⟨s6, S6⟩ := set_v S5 r3 b3 b4
            exact h3 Hf3 _ H3 (s5.trans s6) S6
        cases y with
        | p d' => exact h3.elim
        | u => exact go2 (fun _ z => by cases z) h3
        | v d' => exact go2 (fun _ z => by cases z) h3
        | o d' => exact go2 (fun _ z => by cases z) h3
    cases x with
    | p d' => exact h3.elim
    | u => exact go (fun _ z => by cases z) h3
    | v d' => exact go (fun _ z => by cases z) h3
    | o d' => exact go (fun _ z => by cases z) h3
end
/-- a if c else b, as a test -/
def ifT (c a b : EM Bool) : EM Bool := bindM c fun k => if k then a else b
section
variable {X : Cx} {W : XK} {K : PySem.W.Frag} {mg : Str → Option Value} {a b c : Expr} {ta tb tc : TT} {ba bb bc : EM Bool} {pos : Pos}
def tIfT (c ta tb : TT) : TT := fun σ H Q => c σ H fun k H1 => if k then ta σ H1 Q else tb σ H1 Q
theorem pt_if (hc : PT X c tc) (ha : PT X a ta) (hb : PT X b tb) : PT X (.IfExp c a b pos) (tIfT tc ta tb) := by
  refine ⟨fun pins s σ H Q I h => PyProof.Rows.isTrue_IfExp (thn (hc.run pins s σ H _ I h) fun k s1 ⟨H1, I1, q⟩ => ?_)⟩
  cases k with
  | true => exact ha.run pins s1 σ H1 Q I1 q
  | false => exact hb.run pins s1 σ H1 Q I1 q
theorem TB.ifT (hc : TB K mg W tc bc) (ha : TB K mg W ta ba) (hb : TB K mg W tb bb) : TB K mg W (tIfT tc ta tb) (DL.ifT bc ba bb) := by
  intro Hf σ ρ H S Q h
  refine hc Hf σ ρ H S _ ((Wp.bind h).mono fun k ρ1 h1 Hf1 H1 s1 S1 => ?_)
  cases k with
  | true =>
    rw [if_pos rfl]
    exact ha Hf1 σ ρ1 H1 S1 _ (h1.mono fun d ρ2 h3 Hf2 H2 s2 S2 => h3 Hf2 H2 (s1.trans s2) S2)
  | false =>
    rw [if_neg (by decide)]
    exact hb Hf1 σ ρ1 H1 S1 _ (h1.mono fun d ρ2 h3 Hf2 H2 s2 S2 => h3 Hf2 H2 (s1.trans s2) S2)
theorem b_if (hc : PB X W c bc) (ha : PB X W a ba) (hb : PB X W b bb) : PB X W (.IfExp c a b pos) (DL.ifT bc ba bb) := let ⟨_, c1, c2⟩ := hc.ex; let ⟨_, a1, a2⟩ := ha.ex; let ⟨_, b1, b2⟩ := hb.ex; ⟨_, pt_if c1 a1 b1, TB.ifT c2 a2 b2⟩
end
section
variable {X : Cx} {W : XK} {a b c : Expr} {fa fb fc : EM D} {pos p apos cpos : Pos}
theorem f_sortIt (hu : X.A.units + 64 < cLine) (hg : Gl X "sorted") (hm : X.mg "sorted" = none) (ha : PD X W a fa) (hbase : attributeBase a "items" X.env (eval a X.env) = eval a X.env) (hline : (apos.endLine == cpos.line) = true)
    (na : starEach [.Call (.Attribute a "items" apos) [] [] cpos] X.env = (false, eval (.Call (.Attribute a "items" apos) [] [] cpos) X.env) :: starEach [] X.env) (hc : X.calm = true := by rfl) :
    PF X W (.Call (.Name "sorted" p) [.Call (.Attribute a "items" apos) [] [] cpos] [] pos) (sortItE fa) := let ⟨_, a1, a2⟩ := ha.ex; ⟨_, pe_sortItems hu hc a1 hg hm hbase hline na, TF.sortIt a2⟩
theorem s_parNN3 (i j l : Nat) {x y z : Str} {px py pz pt : Pos} {kt k2 pt2} (hc : X.calm = true) (hN : X.N.Nodup) (hi : X.N[i]? = some x) (hj : X.N[j]? = some y) (hl : X.N[l]? = some z) (hij : i ≠ j) (hil : i ≠ l) (hjl : j ≠ l)
    (hx : X.env.scope.names.lookup x = some .local) (hy : X.env.scope.names.lookup y = some .local) (hz : X.env.scope.names.lookup z = some .local) (ha : PF X W a fa) (hb : PF X W b fb) (hc' : PD X W c fc)
    (n1 : starEach [a, b, c] X.env = (false, eval a X.env) :: starEach [b, c] X.env) (n2 : starEach [b, c] X.env = (false, eval b X.env) :: starEach [c] X.env) (n3 : starEach [c] X.env = (false, eval c X.env) :: starEach [] X.env)
    (hw : swappedStores [.Tuple [.Name x px, .Name y py, .Name z pz] kt pt] (.Tuple [a, b, c] k2 pt2) X.env = pure (some [x, y, z]))
    (hs : swapsWithSole [.Tuple [.Name x px, .Name y py, .Name z pz] kt pt] (.Tuple [a, b, c] k2 pt2) pos.line X.env = pure false) :
    PSD X W (.Assign [.Tuple [.Name x px, .Name y py, .Name z pz] kt pt] (.Tuple [a, b, c] k2 pt2) pos) (parNN3S i j l fa fb fc) := let ⟨_, a1, a2⟩ := ha.ex; let ⟨_, b1, b2⟩ := hb.ex; let ⟨_, c1, c2⟩ := hc'.ex;
  ⟨_, ps_par3 hc hN hi hj hl hij hil hjl hx hy hz (pa_cons a1 (pa_cons b1 (pa_cons c1 pa_nil n3) n2) n1) hw hs, TSD.parNN3 a2 b2 c2⟩
end
end DL

/-! The D layer, 31: a, b = x, new; an owned dict that is read for a while; dicts compared. -/
namespace DL
open PySem L2 PySem.W PySem.Calls PyProof.Rows

section
variable {K : PySem.W.Frag} {mg : Str → Option Value} {W : XK} {Hf H : Hp}
/-- a, b = x, a new list or dict: b owns it -/
def parNew2S (i j : Nat) (fa fb : EM D) : SM := fun ρ => (fa ρ).bind fun d ρ1 => (fb ρ1).bind fun e ρ2 => match ρ2[j]? with
  | none => .bad
  | some (.p _) => .bad
  | some _ => match setT i d (ρ2.set j (.o e)) with
    | some ρ3 => .ok .nx ρ3
    | none => .bad
theorem TSD.parNew2 {i j : Nat} (hij : i ≠ j) {ta tb : TE} {fa fb : EM D} (ha : TD K mg W ta fa) (hb : TF K mg W tb fb) : TSD K mg W (tPar i j (tCons ta (tCons tb tNil))) (parNew2S i j fa fb) := by
  intro Hf σ ρ H S E h
  refine ha Hf σ ρ H S _ ((Wp.rbind h).mono fun d ρ1 h1 u Hf1 H1 s1 S1 r1 => ?_)
  refine hb Hf1 σ ρ1 H1 S1 _ ((Wp.rbind h1).mono fun e ρ2 h2 a Hf2 H2 s2 S2 ha0 hf2 ro no2 => ?_)
  refine ⟨u, .ref a, rfl, ?_⟩
  rw [List.set_comm _ _ hij]
  have hH : H a = none := by
    cases q : H a with
    | none => rfl
    | some o => exact absurd ha0 (s1.there a (by rw [q]; simp))
  cases e1 : ρ2[j]? with
  | none => rw [e1] at h2; exact h2.elim
  | some x =>
    have hl : j < ρ2.length := (List.getElem?_eq_some_iff.mp e1).1
    rw [e1] at h2
    have go : (∀ d' : D, x ≠ Sl.p d') → Wp K mg W ((match setT i d (ρ2.set j (.o e)) with | some ρ3 => .ok .nx ρ3 | none => .bad : Res Fl)) (Cont K E Hf σ ρ H) → E.nx ((σ.set j (some (.ref a))).set i (some u)) H2 := fun hx h2 => by
      obtain ⟨s3, S3⟩ := set_o S2 hf2 ro no2 hl (fun d' z => by rw [e1] at z; exact hx d' (Option.some.inj z)) (s1.trans s2) hH
      cases e2 : setT i d (ρ2.set j (.o e)) with
      | none => rw [e2] at h2; exact h2.elim
      | some ρ3 =>
        rw [e2] at h2
        obtain ⟨b1, b2, rfl⟩ := setT_inv e2
        obtain ⟨s4, S4⟩ := set_v S3 (Rep.mono s2.fz r1) b1 b2
        exact h2 Hf2 _ H2 (s3.trans s4) S4
    cases x with
    | p d' => exact h2.elim
    | u => exact go (fun _ z => by cases z) h2
    | v d' => exact go (fun _ z => by cases z) h2
    | o d' => exact go (fun _ z => by cases z) h2
/-- e is worked out while the owned dict in slot i is only read -/
def tLoan (i : Nat) (t : TE) : TE := fun σ H Q => ∃ a u, σ[i]? = some (some (V.ref a)) ∧ H a = some u ∧ isDic u ∧ ∀ o, t σ (upd H a (.frz o u)) fun v H1 => H1 a = some (.frz o u) ∧ Q v (upd H1 a u)
theorem pe_loan {X : Cx} {e : Expr} {t : TE} (i : Nat) (h : PE X e t) : PE X e (tLoan i t) := by
  refine ⟨fun pins s σ H Q I ⟨a, u, hσ, hu, hd, q⟩ => ?_⟩
  obtain ⟨od, I2⟩ := I.lock hu hd.mut
  have nf := I.nofrz hu hd.mut
  exact thn (h.run pins s σ _ _ I2 (q od)) fun v s1 ⟨x, H1, I1, r1, q1⟩ => ⟨x, _, I1.unlock q1.1 nf, r1, q1.2⟩
def plainS : Sl → Bool
  | .u => true
  | .v _ => true
  | _ => false
def flat1 : D → Bool
  | .non => true
  | .bl _ => true
  | .int _ => true
  | .str _ => true
  | _ => false
theorem flat1_rep {H H' : Hp} {d : D} {v : V} (h : flat1 d = true) (r : Rep K H d v) : Rep K H' d v := by
  cases d <;> first | exact r | (cases h)
theorem flat1_reps {H H' : Hp} : ∀ {ds : List D} {vs : List V}, ds.all flat1 = true → Reps K H ds vs → Reps K H' ds vs
  | [], _, _, r => r
  | d :: ds, vs, h, r => by
    unfold Reps at r ⊢
    rw [List.all_cons, Bool.and_eq_true] at h
    obtain ⟨v, r', h1, h2, h3⟩ := r
    exact ⟨v, r', h1, flat1_rep h.1 h2, flat1_reps h.2 h3⟩
def loanE (i : Nat) (fe : EM D) : EM D := fun ρ => match ρ[i]? with
  | some (.o (.dct kvs)) => if (ρ.set i .u).all plainS then (match fe (ρ.set i (.v (.dct kvs))) with
    | .ok (.lst ds) _ => if ds.all flat1 then .ok (.lst ds) ρ else .bad
    | _ => .bad) else .bad
  | _ => .bad
theorem plain_but {ρ : Ro} {i : Nat} (h : (ρ.set i .u).all plainS = true) {j : Nat} {x : Sl} (hj : j ≠ i) (e : ρ[j]? = some x) : plainS x = true := by
  rw [List.all_eq_true] at h
  refine h x ?_
  exact List.mem_of_getElem? (i := j) (by rw [List.getElem?_set_ne (Ne.symm hj)]; exact e)
theorem TF.loan {i : Nat} {t : TE} {fe : EM D} (he : TF K mg W t fe) : TF K mg W (tLoan i t) (loanE i fe) := by
  intro Hf σ ρ H S Q h
  unfold loanE at h
  cases e : ρ[i]? with
  | none => rw [e] at h; exact h.elim
  | some x =>
    rw [e] at h
    match x, e, h with
    | .u, e, h => exact h.elim
    | .v _, e, h => exact h.elim
    | .p _, e, h => exact h.elim
    | .o (.non), e, h => exact h.elim
    | .o (.bl _), e, h => exact h.elim
    | .o (.int _), e, h => exact h.elim
    | .o (.str _), e, h => exact h.elim
    | .o (.ref _), e, h => exact h.elim
    | .o (.tup _), e, h => exact h.elim
    | .o (.prt _), e, h => exact h.elim
    | .o (.lst _), e, h => exact h.elim
    | .o (.dcn _), e, h => exact h.elim
    | .o (.ty _), e, h => exact h.elim
    | .o (.ins _ _), e, h => exact h.elim
    | .o (.scr _), e, h => exact h.elim
    | .o (.dct kvs), e, h =>
      simp only at h
      split at h
      · rename_i hp
        obtain ⟨a, g1, g2, vs, g3, g4⟩ := S.own i _ (.inl e)
        have hil : i < ρ.length := (List.getElem?_eq_some_iff.mp e).1
        refine ⟨a, .dK vs, g1, g3, .inl ⟨_, rfl⟩, fun o => ?_⟩
        have sm : Same Hf (upd Hf a (.frz o (.dK vs))) := same_upd g2
        have noown : ∀ (j : Nat) (d : D), ((ρ.set i (.v (.dct kvs)))[j]? = some (Sl.o d) ∨ (ρ.set i (.v (.dct kvs)))[j]? = some (Sl.p d)) → False := fun j d q => by
          by_cases hj : i = j
          · rw [get_set, if_pos hj, if_pos hil] at q
            rcases q with q | q <;> cases q
          · rw [get_set, if_neg hj] at q
            rcases q with q | q
            · have := plain_but hp (Ne.symm hj) q; cases this
            · have := plain_but hp (Ne.symm hj) q; cases this
        have S1 : SR K (upd Hf a (.frz o (.dK vs))) σ (ρ.set i (.v (.dct kvs))) (upd H a (.frz o (.dK vs))) := by
          refine ⟨fun b u q => ?_, by rw [List.length_set]; exact S.len, fun j d q => ?_, fun j d q => (noown j d q).elim, fun j l b ⟨_, d, q⟩ _ => (noown j d q).elim⟩
          · by_cases hb : b = a
            · rw [hb, upd_same] at q ⊢; exact q
            · rw [upd_ne hb] at q ⊢; exact S.sub b u q
          · by_cases hj : i = j
            · rw [get_set, if_pos hj, if_pos hil] at q
              cases q
              rw [← hj]
              refine ⟨_, g1, ?_⟩
              unfold Rep
              exact ⟨a, o, vs, rfl, upd_same, Repk.mono sm g4⟩
            · rw [get_set, if_neg hj] at q
              obtain ⟨v, q1, q2⟩ := S.val j d q
              exact ⟨v, q1, Rep.mono sm q2⟩
        refine he _ σ _ _ S1 _ ?_
        cases e2 : fe (ρ.set i (.v (.dct kvs))) with
        | bad => rw [e2] at h; exact h.elim
        | err x => rw [e2] at h; exact h.elim
        | ok r ρ2 =>
          rw [e2] at h
          match r, e2, h with
          | .lst ds, e2, h =>
            simp only at h
            split at h
            · rename_i hf
              intro l Hf2 H2 s2 S2 hl0 hl1 ro no
              have hla : l ≠ a := fun z => by rw [z, upd_same] at hl0; cases hl0
              rw [upd_ne hla] at hl0
              have ka : H2 a = some (.frz o (.dK vs)) := S2.sub a _ (s2.fz a _ upd_same)
              obtain ⟨ws, q1, q2⟩ := ro
              have keep : ∀ b u, b ≠ a → H b = some u → H2 b = some u := fun b u hb q => s2.keep b u (by rw [upd_ne hb]; exact q) fun ⟨j, _, d, q⟩ => noown j d q
              have only : ∀ b, OA σ ρ b → b = a := fun b ⟨j, q1, d, q2⟩ => by
                by_cases hj : i = j
                · rw [← hj, g1] at q1; cases q1; rfl
                · rcases q2 with q | q
                  · have := plain_but hp (Ne.symm hj) q; cases this
                  · have := plain_but hp (Ne.symm hj) q; cases this
              have oa : OA σ ρ a := ⟨i, g1, _, .inl e⟩
              refine ⟨ka, h l Hf (upd H2 a (.dK vs)) ⟨fun _ _ q => q, fun b u q n => ?_, fun b q => ?_, fun b _ q _ => q, fun j d q => ⟨⟨d, q⟩, rfl⟩, fun j d q => ⟨d, q⟩, fun b q => .inr q, rfl⟩ ⟨fun b u q => ?_, S.len, S.val, fun j d q => ?_, S.inj⟩ hl0 ?_ ?_ ?_⟩
              · have hb : b ≠ a := fun z => n (z ▸ oa)
                rw [upd_ne hb]
                exact keep b u hb q
              · by_cases hb : b = a
                · rw [hb, upd_same]; simp
                · rw [upd_ne hb]
                  cases q2 : H b with
                  | none => exact absurd q2 q
                  | some u => rw [keep b u hb q2]; simp
              · have hb : b ≠ a := fun z => by rw [z, g2] at q; cases q
                rw [upd_ne hb]
                exact keep b u hb (S.sub b u q)
              · obtain ⟨b, k1, k2, k3⟩ := S.own j d q
                have : b = a := only b ⟨j, k1, d, q⟩
                subst this
                exact ⟨b, k1, k2, RepO.mono (fun _ _ z => z) (by rw [upd_same, g3]) k3⟩
              · cases q : Hf l with
                | none => rfl
                | some u => exact absurd (S.sub l u q) (by rw [hl0]; simp)
              · exact ⟨ws, by rw [upd_ne hla]; exact q1, flat1_reps hf q2⟩
              · exact fun z => hla (only l z)
            · exact h.elim
          | .non, _, h => exact h.elim
          | .bl _, _, h => exact h.elim
          | .int _, _, h => exact h.elim
          | .str _, _, h => exact h.elim
          | .ref _, _, h => exact h.elim
          | .tup _, _, h => exact h.elim
          | .prt _, _, h => exact h.elim
          | .dct _, _, h => exact h.elim
          | .dcn _, _, h => exact h.elim
          | .ty _, _, h => exact h.elim
          | .ins _ _, _, h => exact h.elim
          | .scr _, _, h => exact h.elim
      · exact h.elim
end
section
variable {X : Cx} {W : XK} {a b : Expr} {fa fb : EM D} {pos : Pos}
theorem f_loan (i : Nat) (h : PF X W a fa) : PF X W a (loanE i fa) := let ⟨t, h1, h2⟩ := h.ex; ⟨tLoan i t, pe_loan i h1, TF.loan h2⟩
theorem s_parNew2 (i j : Nat) {x y : Str} {px py pt : Pos} {kt k2 pt2} (hc : X.calm = true) (hN : X.N.Nodup) (hi : X.N[i]? = some x) (hj : X.N[j]? = some y) (hij : i ≠ j)
    (hx : X.env.scope.names.lookup x = some .local) (hy : X.env.scope.names.lookup y = some .local) (ha : PD X W a fa) (hb : PF X W b fb) (n1 : starEach [a, b] X.env = (false, eval a X.env) :: starEach [b] X.env) (n2 : starEach [b] X.env = (false, eval b X.env) :: starEach [] X.env)
    (hw : swappedStores [.Tuple [.Name x px, .Name y py] kt pt] (.Tuple [a, b] k2 pt2) X.env = pure (some [x, y]))
    (hs : swapsWithSole [.Tuple [.Name x px, .Name y py] kt pt] (.Tuple [a, b] k2 pt2) pos.line X.env = pure false) :
    PSD X W (.Assign [.Tuple [.Name x px, .Name y py] kt pt] (.Tuple [a, b] k2 pt2) pos) (parNew2S i j fa fb) := let ⟨_, a1, a2⟩ := ha.ex; let ⟨_, b1, b2⟩ := hb.ex; ⟨_, ps_par hc hN hi hj hij hx hy (pa_cons a1 (pa_cons b1 pa_nil n2) n1) hw hs, TSD.parNew2 hij a2 b2⟩
end
end DL

/-! The D layer, 32: dicts of ints compared; x in l, l owned. -/
namespace DL
open PySem L2 PySem.W PySem.Calls PyProof.Rows

/-- two dicts hold the same -/
def eqII (ps qs : List (Int × Int)) : Bool := ps.length == qs.length && ps.all fun p => decide (qs.lookup p.1 = some p.2)
theorem val_kvI (k : Int) : ∀ qs : List (Int × Int), valV (kvI qs) (Sum.inl k : Key) = (qs.lookup k).map V.int
  | [] => rfl
  | q :: qs => by
    show valV (((Sum.inl q.1 : Key), V.int q.2) :: kvI qs) _ = _
    rw [List.lookup_cons]
    by_cases h : q.1 = k
    · rw [valV_pos (p := ((Sum.inl q.1 : Key), V.int q.2)) (by rw [h]), h]
      simp
    · rw [valV_neg (p := ((Sum.inl q.1 : Key), V.int q.2)) (fun z => h (Sum.inl.inj z)), val_kvI k qs]
      have : (k == q.1) = false := beq_eq_false_iff_ne.mpr fun z => h z.symm
      rw [this]
theorem hits_ints {A : Around} {s : Shared} {qs : List (Int × Int)} {vb : List (Key × Value)} (rb : KV (kvI qs) vb) : ∀ {ps : List (Int × Int)} {va : List (Key × Value)}, KV (kvI ps) va → PySem.W.KeqHits A s vb va (ps.all fun p => decide (qs.lookup p.1 = some p.2))
  | [], va, ra => by
    unfold KV at ra
    cases ra
    exact .nil
  | p :: ps, va, ra => by
    unfold KV at ra
    obtain ⟨q, va', rfl, ⟨h1, h2⟩, ra'⟩ : ∃ q va', va = q :: va' ∧ ((Sum.inl p.1 : Key) = q.1 ∧ RelV (V.int p.2) q.2) ∧ Paired (fun (p : Key × V) (q : Key × Value) => p.1 = q.1 ∧ RelV p.2 q.2) (kvI ps) va' := by
      cases ra with
      | cons h t => exact ⟨_, _, rfl, h, t⟩
    obtain ⟨k, v⟩ := q
    have h1 : (Sum.inl p.1 : Key) = k := h1
    subst h1
    obtain ⟨t, rfl⟩ := (show ∃ t, v = Value.int p.2 t from h2)
    have ih := hits_ints (A := A) (s := s) rb ra'
    have rr := rb.val (Sum.inl p.1 : Key)
    rw [val_kvI] at rr
    rw [List.all_cons]
    cases e : qs.lookup p.1 with
    | none =>
      rw [e] at rr
      have hy : valueAt vb (Sum.inl p.1 : Key) = none := by
        cases q : valueAt vb (Sum.inl p.1 : Key) with
        | none => rfl
        | some y => rw [q] at rr; exact rr.elim
      have : (decide ((none : Option Int) = some p.2) && ps.all fun p => decide (qs.lookup p.1 = some p.2)) = false := by simp
      rw [this]
      exact .miss hy
    | some x =>
      rw [e] at rr
      obtain ⟨y, hy, ry⟩ : ∃ y, valueAt vb (Sum.inl p.1 : Key) = some y ∧ RelV (V.int x) y := by
        cases q : valueAt vb (Sum.inl p.1 : Key) with
        | none => rw [q] at rr; exact rr.elim
        | some y => rw [q] at rr; exact ⟨y, rfl, rr⟩
      obtain ⟨t', rfl⟩ := (show ∃ t, y = Value.int x t from ry)
      have q := SeqAt.EqAt.int_int (A := A) (s := s) p.2 t x t'
      have e2 : decide (some x = some p.2) = (p.2 == x) := by
        rw [Bool.eq_iff_iff, decide_eq_true_eq, beq_iff_eq]
        exact ⟨fun h => (Option.some.inj h).symm, fun h => by rw [h]⟩
      rw [e2]
      exact .hit hy q ih
section
variable {X : Cx}
def rEqKI : R2 := fun x y H Q => ∃ a b ps qs, x = .ref a ∧ y = .ref b ∧ Rd H a (.dK (kvI ps)) ∧ Rd H b (.dK (kvI qs)) ∧ Q (.bl (eqII ps qs)) H
theorem rd_ok {pins : List (Addr × Obj)} {σ : L2.St} {H : Hp} {s : Shared} {a : Addr} {kvs : List (Key × V)} (I : Inv X pins σ H s) (h : Rd H a (.dK kvs)) : ObjOk X.prog X.w H s.heap a (.dK kvs) := by
  rcases h with h | ⟨o, h⟩
  · exact I.hok a _ h
  · exact (show ObjOk X.prog X.w H s.heap a (.frz o (.dK kvs)) from I.hok a _ h).2
theorem op_eqKI (hu : X.A.units < cLine) : OpR X (compareOp .Eq) rEqKI := by
  intro pins s σ H x y v u Q I rx ry h
  obtain ⟨a, b, ps, qs, rfl, rfl, ea, eb, q⟩ := h
  obtain rfl : v = Value.ref a := rx
  obtain rfl : u = Value.ref b := ry
  obtain ⟨_, ya, va, ra, da⟩ := rd_ok I ea
  obtain ⟨_, yb, vb, rb, db⟩ := rd_ok I eb
  have hl1 : ps.length = va.length := by rw [← ra.length]; exact (List.length_map _).symm
  have hl2 : qs.length = vb.length := by rw [← rb.length]; exact (List.length_map _).symm
  exact PySem.W.keq_eq (knd := mixKind X.prog X.w) ya yb da db hu (fun _ => hits_ints rb ra) (fin_bl I q (by unfold eqII; rw [hl1, hl2]))
end
def eqKF (x y : D) : Option D := match x, y with
  | .dct ks, .dct ls => match intKV ks, intKV ls with
    | some ps, some qs => some (.bl (eqII ps qs))
    | _, _ => none
  | _, _ => none
theorem rd_eqK {K : PySem.W.Frag} : RD K rEqKI eqKF := by
  intro Hf H x y dx dy dz S rx ry e Q h
  match dx, dy, e, rx, ry with
  | .dct ks, .dct ls, e, rx, ry =>
    unfold eqKF at e
    simp only at e
    cases e1 : intKV ks with
    | none => rw [e1] at e; cases e
    | some ps =>
      cases e2 : intKV ls with
      | none => rw [e1, e2] at e; cases e
      | some qs =>
        rw [e1, e2] at e
        cases e
        unfold Rep at rx ry
        obtain ⟨a, o, vs, rfl, h1, h2⟩ := rx
        obtain ⟨b, o', us, rfl, h3, h4⟩ := ry
        have := kv_ints e1 h2
        subst this
        have := kv_ints e2 h4
        subst this
        exact ⟨a, b, ps, qs, rfl, rfl, .inr ⟨o, S a _ h1⟩, .inr ⟨o', S b _ h3⟩, h _ H Hf (New.refl S) (by unfold Rep; rfl)⟩
section
variable {X : Cx} {W : XK} {y : Str} {a : Expr} {fa : EM D} {pos : Pos}
theorem d_inO (i : Nat) {p2 : Pos} (hN : X.N[i]? = some y) (hv : Vis X.env.scope y) (ha : PD X W a fa) (hm : behindInMarks .In (.Name y p2) = false) (hd : (y == ("__debug__" : Str)) = false := by decide) (hcd : (y == ("__classdict__" : Str)) = false := by decide) :
    PD X W (.Compare a [.In] [.Name y p2] pos) (inO false fa i) := let ⟨_, a1, a2⟩ := ha.ex; ⟨_, pe_cmpR op_in_seq a1 (pe_var hN hv hd hcd) hm, TD.inO a2⟩
theorem d_notInO (i : Nat) {p2 : Pos} (hN : X.N[i]? = some y) (hv : Vis X.env.scope y) (ha : PD X W a fa) (hm : behindInMarks .NotIn (.Name y p2) = false) (hd : (y == ("__debug__" : Str)) = false := by decide) (hcd : (y == ("__classdict__" : Str)) = false := by decide) :
    PD X W (.Compare a [.NotIn] [.Name y p2] pos) (inO true fa i) := let ⟨_, a1, a2⟩ := ha.ex; ⟨_, pe_cmpR op_notIn_seq a1 (pe_var hN hv hd hcd) hm, TD.inO a2⟩
theorem b_inO (i : Nat) {p2 : Pos} (hN : X.N[i]? = some y) (hv : Vis X.env.scope y) (ha : PD X W a fa) (hm : behindInMarks .In (.Name y p2) = false) (hd : (y == ("__debug__" : Str)) = false := by decide) (hcd : (y == ("__classdict__" : Str)) = false := by decide) :
    PB X W (.Compare a [.In] [.Name y p2] pos) (testE (inO false fa i)) := let ⟨_, a1, a2⟩ := ha.ex; ⟨_, pt_cmpR op_in_seq a1 (pe_var hN hv hd hcd) hm, TB.test (TD.inO a2)⟩
theorem b_notInO (i : Nat) {p2 : Pos} (hN : X.N[i]? = some y) (hv : Vis X.env.scope y) (ha : PD X W a fa) (hm : behindInMarks .NotIn (.Name y p2) = false) (hd : (y == ("__debug__" : Str)) = false := by decide) (hcd : (y == ("__classdict__" : Str)) = false := by decide) :
    PB X W (.Compare a [.NotIn] [.Name y p2] pos) (testE (inO true fa i)) := let ⟨_, a1, a2⟩ := ha.ex; ⟨_, pt_cmpR op_notIn_seq a1 (pe_var hN hv hd hcd) hm, TB.test (TD.inO a2)⟩
end
end DL

/-! The D layer, 33: name = [.. over an owned dict ..]. -/
namespace DL
open PySem L2 PySem.W PySem.Calls PyProof.Rows

theorem loan_lst {i : Nat} {fe : EM D} (ρ : Ro) (d : D) (ρ' : Ro) (h : loanE i fe ρ = .ok d ρ') : ∃ ds, d = .lst ds := by
  unfold loanE at h
  split at h
  · split at h
    · split at h
      · split at h
        · cases h; exact ⟨_, rfl⟩
        · cases h
      · cases h
    · cases h
  · cases h
theorem loan_lock {t : TE} {i j : Nat} {E : Ends} {σ : L2.St} {H : Hp} (h : tAsg (tLoan i t) (gName j) E σ H) : tLock (tAsg t (gName j)) E σ H := by
  obtain ⟨a, u, hσ, hu, hd, q⟩ := h
  exact ⟨a, u, hu, hd.mut, fun od => q od⟩
section
variable {X : Cx} {W : XK} {e tg iter : Expr} {ifs : List Expr} {fi : EM (List D)} {fg : D → Ro → Option Ro} {is : List Nat} {ft : EM Bool} {fe : EM D} {scope : Scope} {pos spos : Pos}
theorem s_lcSetL (il i : Nat) {y : Str} {py : Pos} (own : List (Str × Nat)) (hc : X.calm = true) (hN : X.N.Nodup) (hy : X.N[i]? = some y) (hyl : X.env.scope.names.lookup y = some .local)
    (hsw : swapsWith (.ListComp e [⟨tg, iter, ifs, 0⟩] scope pos) (some (.Name y py)) spos.line X.env = pure true) (hi : PID X W tg iter fi) (ok : blkC X.N X.env.scope scope own = true)
    (hg : ∀ (s : Shared) (H : Hp) (C : Addr) (cl : List (Str × Addr)) (fp : List Addr), PGD (X.blk s H scope (compEnvC scope cl C X.env) fp) tg is fg) (hs : ∀ i ∈ is, i ∈ own.map (·.2))
    (ht : ∀ (s : Shared) (H : Hp) (C : Addr) (cl : List (Str × Addr)) (fp : List Addr), PTsD (X.blk s H scope (compEnvC scope cl C X.env) fp) E00 ifs ft)
    (he : ∀ (s : Shared) (H : Hp) (C : Addr) (cl : List (Str × Addr)) (fp : List Addr), PD (X.blk s H scope (compEnvC scope cl C X.env) fp) E00 e fe) (hsi : ∀ x, foldedSetIterable iter X.env x = pure x) :
    PSD X W (.Assign [.Name y py] (.ListComp e [⟨tg, iter, ifs, 0⟩] scope pos) spos) (asgS (loanE il (lcE (own.map (·.2)) fi fg ft fe)) (setT i)) :=
  let ⟨_, a1, a2⟩ := hi.ex; ⟨_, ps_lock (ps_setLc hc hN hy hyl hsw a1 (blkOk_by ok) (fun s H C cl fp => (hg s H C cl fp).pg) (fun s H C cl fp => (ht s H C cl fp).pt) (fun s H C cl fp => (he s H C cl fp).pe) hsi), fun Hf σ ρ H S E h => loan_lock (TSD.asg (TF.tdl (TF.loan (i := il) (TF.lc a2 TGD.rd hs TB.rd TD.rd)) loan_lst) TGD.name Hf σ ρ H S E h)⟩
end
end DL

/-! Plain maths over mirrors, 0: evaluating. -/
namespace DL
open PySem L2

section
variable {α β : Type} {ρ ρ' : Ro}
@[simp] theorem ev_okb {a : α} {f : α → Ro → Res β} : (Res.ok a ρ).bind f = f a ρ := rfl
@[simp] theorem ev_badb {f : α → Ro → Res β} : (Res.bad : Res α).bind f = .bad := rfl
@[simp] theorem ev_errb {x : Exc} {f : α → Ro → Res β} : (Res.err x : Res α).bind f = .err x := rfl
@[simp] theorem ev_bindM {m : EM α} {f : α → EM β} : bindM m f ρ = (m ρ).bind f := rfl
@[simp] theorem ev_retE {a : α} : retE a ρ = .ok a ρ := rfl
@[simp] theorem ev_lift0 : (liftO (none : Option α)) ρ = .bad := rfl
@[simp] theorem ev_lift1 {a : α} : (liftO (some a)) ρ = .ok a ρ := rfl
@[simp] theorem ev_varE {i : Nat} : varE i ρ = match ρ[i]? with | some (.v d) => .ok d ρ | _ => .bad := rfl
@[simp] theorem ev_bin2 {g : D → D → Option D} {fa fb : EM D} : bin2 g fa fb ρ = (fa ρ).bind fun x ρ1 => (fb ρ1).bind fun y ρ2 => liftO (g x y) ρ2 := rfl
@[simp] theorem ev_un1 {g : D → Option D} {fa : EM D} : un1 g fa ρ = (fa ρ).bind fun x ρ1 => liftO (g x) ρ1 := rfl
@[simp] theorem ev_toB {b : Bool} : toB (.bl b) = some b := rfl
@[simp] theorem ev_testE {f : EM D} : testE f ρ = (f ρ).bind fun d ρ1 => liftO (toB d) ρ1 := rfl
@[simp] theorem ev_chainE {g g' : D → D → Option D} {fa fb fc : EM D} : chainE g g' fa fb fc ρ = (fa ρ).bind fun x => bindM fb fun y => bindM (liftO (g x y)) fun z => bindM (liftO (toB z)) fun k => if k then bindM fc fun c => liftO (g' y c) else retE (.bl false) := rfl
@[simp] theorem ev_andE {fa fb : EM D} : andE fa fb ρ = (fa ρ).bind fun x ρ1 => (liftO (toB x) ρ1).bind fun k ρ2 => if k then fb ρ2 else .ok (.bl false) ρ2 := by unfold andE bindM; congr; funext x ρ1; congr; funext k ρ2; cases k <;> rfl
@[simp] theorem ev_orE {fa fb : EM D} : orE fa fb ρ = (fa ρ).bind fun x ρ1 => (liftO (toB x) ρ1).bind fun k ρ2 => if k then .ok (.bl true) ρ2 else fb ρ2 := by unfold orE bindM; congr; funext x ρ1; congr; funext k ρ2; cases k <;> rfl
@[simp] theorem ev_notE {fa : EM D} : notE fa ρ = (fa ρ).bind fun x ρ1 => (liftO (toB x) ρ1).bind fun k ρ2 => .ok (.bl (!k)) ρ2 := rfl
@[simp] theorem ev_andT {fa fb : EM Bool} : andT fa fb ρ = (fa ρ).bind fun k ρ1 => if k then fb ρ1 else .ok false ρ1 := by unfold andT bindM; congr; funext k ρ2; cases k <;> rfl
@[simp] theorem ev_orT {fa fb : EM Bool} : orT fa fb ρ = (fa ρ).bind fun k ρ1 => if k then .ok true ρ1 else fb ρ1 := by unfold orT bindM; congr; funext k ρ2; cases k <;> rfl
@[simp] theorem ev_notT {fa : EM Bool} : notT fa ρ = (fa ρ).bind fun k ρ1 => .ok (!k) ρ1 := rfl
@[simp] theorem ev_ifE {c : EM Bool} {fa fb : EM D} : ifE c fa fb ρ = (c ρ).bind fun k ρ1 => if k then fa ρ1 else fb ρ1 := by unfold ifE bindM; congr; funext k ρ2; cases k <;> rfl
@[simp] theorem ev_consE {fa : EM D} {fr : EM (List D)} : consE fa fr ρ = (fa ρ).bind fun x ρ1 => (fr ρ1).bind fun xs ρ2 => .ok (x :: xs) ρ2 := rfl
@[simp] theorem ev_argV {fa : EM D} {fr : EM (List Arg)} : argV fa fr ρ = (fa ρ).bind fun x ρ1 => (fr ρ1).bind fun xs ρ2 => .ok (.v x :: xs) ρ2 := rfl
@[simp] theorem ev_argS {i : Nat} {fr : EM (List Arg)} : argS i fr ρ = (ownS i ρ).bind fun _ ρ1 => (fr ρ1).bind fun xs ρ2 => .ok (.s i :: xs) ρ2 := rfl
@[simp] theorem ev_ownS {i : Nat} : ownS i ρ = match ρ[i]? with | some (.o _) => .ok () ρ | some (.p _) => .ok () ρ | _ => .bad := rfl
@[simp] theorem ev_callE {m : EM D} {fa : EM (List Arg)} : callE m fa ρ = (fa ρ).bind fun as ρ1 => callR m as ρ1 := rfl
@[simp] theorem ev_callB {g : List D → Option D} {fa : EM (List D)} : callB g fa ρ = (fa ρ).bind fun ds ρ1 => liftO (g ds) ρ1 := rfl
@[simp] theorem ev_tupE {fa : EM (List D)} : tupE fa ρ = (fa ρ).bind fun ds ρ1 => if ds.length ≤ 1000000 then .ok (.tup ds) ρ1 else .bad := by unfold tupE bindM; congr; funext k ρ2; split <;> rfl
@[simp] theorem ev_lstE {fa : EM (List D)} : lstE fa ρ = (fa ρ).bind fun ds ρ1 => if ds.length ≤ 1000000 then .ok (.lst ds) ρ1 else .bad := by unfold lstE bindM; congr; funext k ρ2; split <;> rfl
@[simp] theorem ev_slE {fe : EM D} {fl fh : EM (Option Int)} : slE fe fl fh ρ = (fe ρ).bind fun x ρ1 => (fl ρ1).bind fun lo ρ2 => (fh ρ2).bind fun hi ρ3 => liftO (slD x lo hi) ρ3 := rfl
@[simp] theorem ev_partE {fe : EM D} : partE fe ρ = (fe ρ).bind fun x ρ1 => liftO (toI x) ρ1 := rfl
@[simp] theorem ev_toI {i : Int} : toI (.int i) = some (some i) := rfl
@[simp] theorem ev_ownL {i : Nat} : ownL i ρ = match ρ[i]? with | some (.o (.lst ds)) => .ok ds ρ | some (.p (.lst ds)) => .ok ds ρ | _ => .bad := rfl
@[simp] theorem ev_putE {i : Nat} {ds : List D} : putE i ds ρ = .ok () (putO i (.lst ds) ρ) := rfl
@[simp] theorem ev_lenO {i : Nat} : lenO i ρ = (ownL i ρ).bind fun ds ρ1 => .ok (.int ds.length) ρ1 := rfl
@[simp] theorem ev_ixO {i : Nat} {fe : EM D} : ixO i fe ρ = (ownS i ρ).bind fun _ ρ1 => (fe ρ1).bind fun j ρ2 => (ownL i ρ2).bind fun ds ρ3 => liftO (ixD (.lst ds) j) ρ3 := rfl
@[simp] theorem ev_setO {i : Nat} {fe fv : EM D} : setO i fe fv ρ = (fv ρ).bind fun d ρ1 => (ownS i ρ1).bind fun _ ρ2 => (fe ρ2).bind fun j ρ3 => (ownL i ρ3).bind fun ds ρ4 => (liftO (setIx ds d j) ρ4).bind fun es ρ5 => .ok .nx (putO i (.lst es) ρ5) := by
  unfold setO setE doS bindM
  cases fv ρ with
  | bad => rfl
  | err x => rfl
  | ok d ρ1 =>
    simp only [ev_okb]
    cases ownS i ρ1 with
    | bad => rfl
    | err x => rfl
    | ok u ρ2 =>
      simp only [ev_okb]
      cases fe ρ2 with
      | bad => rfl
      | err x => rfl
      | ok j ρ3 =>
        simp only [ev_okb]
        cases ownL i ρ3 with
        | bad => rfl
        | err x => rfl
        | ok ds ρ4 =>
          simp only [ev_okb]
          cases (liftO (setIx ds d j) ρ4) <;> rfl
@[simp] theorem ev_appS {i : Nat} {fe : EM D} : appS i fe ρ = (ownL i ρ).bind fun _ ρ1 => (fe ρ1).bind fun d ρ2 => (ownL i ρ2).bind fun ds ρ3 => if ds.length ≤ 1000000 then .ok .nx (putO i (.lst (ds ++ [d])) ρ3) else .bad := by
  unfold appS appE doS bindM
  cases ownL i ρ with
  | bad => rfl
  | err x => rfl
  | ok u ρ1 =>
    simp only [ev_okb]
    cases fe ρ1 with
    | bad => rfl
    | err x => rfl
    | ok d ρ2 =>
      simp only [ev_okb]
      cases ownL i ρ2 with
      | bad => rfl
      | err x => rfl
      | ok ds ρ3 =>
        simp only [ev_okb]
        split <;> rfl
@[simp] theorem ev_retS {fe : EM D} : retS fe ρ = (fe ρ).bind fun d ρ1 => .ok (.ret d) ρ1 := rfl
@[simp] theorem ev_asgS {fe : EM D} {g : D → Ro → Option Ro} : asgS fe g ρ = (fe ρ).bind fun d ρ1 => match g d ρ1 with | none => .bad | some ρ2 => .ok .nx ρ2 := by
  unfold asgS
  congr
  funext d ρ1
  cases g d ρ1 <;> rfl
@[simp] theorem ev_dropS {fe : EM D} : dropS fe ρ = (fe ρ).bind fun _ ρ1 => .ok .nx ρ1 := rfl
@[simp] theorem ev_ifS {c : EM Bool} {f g : SM} : ifS c f g ρ = (c ρ).bind fun b ρ1 => if b then f ρ1 else g ρ1 := rfl
@[simp] theorem ev_nextS : nextS ρ = .ok .nx ρ := rfl
@[simp] theorem ev_seqS {f g : SM} : seqS f g ρ = match f ρ with | .ok .nx ρ1 => g ρ1 | r => r := rfl
@[simp] theorem ev_newS {i : Nat} {fe : EM D} : newS i fe ρ = (fe ρ).bind fun d ρ1 => match ρ1[i]? with | none => .bad | some (.p _) => .bad | some _ => .ok .nx (ρ1.set i (.o d)) := rfl
@[simp] theorem ev_thawS {i : Nat} {d : D} (h : ρ[i]? = some (.o d)) : thawS i ρ = .ok .nx (ρ.set i (.v d)) := by unfold thawS; rw [h]
@[simp] theorem ev_raiseS {x : Str} : raiseS x ρ = .err ⟨x, none⟩ := rfl
@[simp] theorem ev_setT {i : Nat} {d : D} : setT i d ρ = match ρ[i]? with | none => none | some (.p _) => none | some _ => some (ρ.set i (.v d)) := rfl
@[simp] theorem ev_putO {i : Nat} {d : D} : putO i d ρ = match ρ[i]? with | some (.o _) => ρ.set i (.o d) | some (.p _) => ρ.set i (.p d) | _ => ρ := by
  unfold putO
  cases ρ[i]? with
  | none => rfl
  | some x => cases x <;> rfl
@[simp] theorem ev_run {n l : Nat} {b : SM} : runB n l b ρ = match b (ρ ++ List.replicate (l - n) .u) with | .ok fl ρ' => (match fl with | .ret d => .ok d (backP ρ ρ') | .nx => .ok .non (backP ρ ρ') | _ => .bad) | .bad => .bad | .err x => .err x := rfl
end

/-! ### calls -/
section
variable {ρ : Ro} {i j : Nat} {d : D} {as : List Arg} {x : Sl}
@[simp] theorem ev_callR {m : EM D} : callR m as ρ = if apart as then match m (as.map (slOf ρ)) with | .ok d ρ' => .ok d (putBack as ρ' ρ) | .bad => .bad | .err x => .err x else .bad := rfl
@[simp] theorem ev_ap0 : apart [] = true := rfl
@[simp] theorem ev_apv : apart (.v d :: as) = apart as := rfl
@[simp] theorem ev_aps : apart (.s i :: as) = (!as.any (isS i) && apart as) := rfl
@[simp] theorem ev_isv : isS i (.v d) = false := rfl
@[simp] theorem ev_iss : isS i (.s j) = (i == j) := rfl
@[simp] theorem ev_slv : slOf ρ (.v d) = .v d := rfl
@[simp] theorem ev_sls : slOf ρ (.s i) = match ρ[i]? with | some (.o d) => .p d | some (.p d) => .p d | _ => .u := rfl
@[simp] theorem ev_pbn {ys : Ro} : putBack [] ys ρ = ρ := by cases ys <;> rfl
@[simp] theorem ev_pbv {y : Sl} {ys : Ro} : putBack (.v d :: as) (y :: ys) ρ = putBack as ys ρ := rfl
@[simp] theorem ev_pbs {y : Sl} {ys : Ro} : putBack (.s i :: as) (y :: ys) ρ = putBack as ys (match ρ[i]? with | some x => ρ.set i (back1 x y) | none => ρ) := rfl
@[simp] theorem ev_b1o {d e : D} : back1 (.o d) (.p e) = .o e := rfl
@[simp] theorem ev_b1p {d e : D} : back1 (.p d) (.p e) = .p e := rfl
@[simp] theorem ev_bp0 {ys : Ro} : backP [] ys = [] := by cases ys <;> rfl
@[simp] theorem ev_bpp {y : Sl} {ys : Ro} : backP (.p d :: ρ) (y :: ys) = y :: backP ρ ys := rfl
@[simp] theorem ev_bpv {y : Sl} {ys : Ro} : backP (.v d :: ρ) (y :: ys) = .v d :: backP ρ ys := rfl
@[simp] theorem ev_w0 : wipeR ρ [] = ρ := rfl
@[simp] theorem ev_w1 {v : Nat} {vs : List Nat} : wipeR ρ (v :: vs) = (wipeR ρ vs).set v .u := rfl
@[simp] theorem ev_uw0 {ρ' : Ro} : unwipe ρ ρ' [] = ρ' := rfl
@[simp] theorem ev_uw1 {ρ' : Ro} {v : Nat} {vs : List Nat} : unwipe ρ ρ' (v :: vs) = match ρ[v]? with | some x => (unwipe ρ ρ' vs).set v x | none => unwipe ρ ρ' vs := rfl
@[simp] theorem ev_plainAt : plainAt ρ i = match ρ[i]? with | some (.o _) => false | some (.p _) => false | _ => true := rfl
@[simp] theorem ev_yesT : yesT ρ = .ok true ρ := rfl
end
/-! ### operations on ints and texts -/
section
variable {i j : Int} {s t : Str} {xs ys : List D}
@[simp] theorem op_ai : addD (.int i) (.int j) = some (.int (i + j)) := rfl
@[simp] theorem op_si : subD (.int i) (.int j) = some (.int (i - j)) := rfl
@[simp] theorem op_lti : ltD (.int i) (.int j) = some (.bl (decide (i < j))) := rfl
@[simp] theorem op_lei : leD (.int i) (.int j) = some (.bl (decide (i ≤ j))) := rfl
@[simp] theorem op_gti : gtD (.int i) (.int j) = some (.bl (decide (j < i))) := rfl
@[simp] theorem op_gei : geD (.int i) (.int j) = some (.bl (decide (j ≤ i))) := rfl
@[simp] theorem op_neg : negD (.int i) = some (.int (-i)) := rfl
@[simp] theorem op_eqi : eqD (.int i) (.int j) = some (.bl (i == j)) := rfl
@[simp] theorem op_nei : neD (.int i) (.int j) = some (.bl (!(i == j))) := rfl
@[simp] theorem op_at : addD (.tup xs) (.tup ys) = if xs.length + ys.length ≤ 1000000 then some (.tup (xs ++ ys)) else none := rfl
@[simp] theorem op_al : addD (.lst xs) (.lst ys) = if xs.length + ys.length ≤ 1000000 then some (.lst (xs ++ ys)) else none := rfl
@[simp] theorem op_ixt : ixD (.tup xs) (.int i) = atI xs i := rfl
@[simp] theorem op_ixl : ixD (.lst xs) (.int i) = atI xs i := rfl
@[simp] theorem op_neb {a b : Bool} : neD (.bl a) (.bl b) = some (.bl (!(a == b))) := rfl
@[simp] theorem op_eqb {a b : Bool} : eqD (.bl a) (.bl b) = some (.bl (a == b)) := rfl
@[simp] theorem op_lent : lenF [.tup xs] = some (.int xs.length) := rfl
@[simp] theorem op_lenl : lenF [.lst xs] = some (.int xs.length) := rfl
@[simp] theorem op_tupl : tupF [.lst xs] = some (.tup xs) := rfl
@[simp] theorem op_tupt : tupF [.tup xs] = some (.tup xs) := rfl
@[simp] theorem op_revt : revA (.tup xs) = some (.tup xs.reverse) := rfl
@[simp] theorem op_revl : revA (.lst xs) = some (.lst xs.reverse) := rfl
end
theorem at_nat {α : Type} {xs : List α} {i : Nat} : atI xs (i : Int) = xs[i]? := by
  unfold atI ixN
  rw [if_pos (by omega)]
  by_cases h : (i : Int) < xs.length
  · rw [if_pos h]; rfl
  · rw [if_neg h, List.getElem?_eq_none (by omega)]; rfl
theorem at_int {α : Type} {xs : List α} {i : Int} (h : 0 ≤ i) (h2 : i < xs.length) : ∃ x, atI xs i = some x ∧ x ∈ xs := by
  obtain ⟨n, rfl⟩ := Int.eq_ofNat_of_zero_le h
  rw [at_nat]
  have : n < xs.length := by omega
  exact ⟨xs[n], List.getElem?_eq_getElem this, List.getElem_mem this⟩

/-! ### lists of slots -/
/-- a walk over what is told one by one: each element's result; the slots behind it as ahead of it -/
theorem lc_map {vs : List Nat} {g : D → Ro → Option Ro} {ft : EM Bool} {fe : EM D} {ρ : Ro} (F : D → D) : ∀ (ds acc : List D), (∀ d ∈ ds, ∃ ρ1 ρ2 ρ3, g d (wipeR ρ vs) = some ρ1 ∧ ft ρ1 = .ok true ρ2 ∧ fe ρ2 = .ok (F d) ρ3 ∧ unwipe ρ ρ3 vs = ρ) → lcLoop vs g ft fe ds acc ρ = .ok (.lst (acc ++ ds.map F)) ρ
  | [], acc, _ => by simp [lcLoop]
  | d :: ds, acc, h => by
    obtain ⟨ρ1, ρ2, ρ3, h1, h2, h3, h4⟩ := h d List.mem_cons_self
    unfold lcLoop
    simp only [h1, h2, h3, h4]
    rw [lc_map F ds (acc ++ [F d]) fun e he => h e (List.mem_cons_of_mem _ he)]
    simp
theorem lcE_map {vs : List Nat} {fi : EM (List D)} {g : D → Ro → Option Ro} {ft : EM Bool} {fe : EM D} {ρ : Ro} {ds : List D} (F : D → D) (hi : fi ρ = .ok ds ρ) (hp : vs.all (plainAt ρ) = true) (hl : ds.length ≤ 1000000)
    (h : ∀ d ∈ ds, ∃ ρ1 ρ2 ρ3, g d (wipeR ρ vs) = some ρ1 ∧ ft ρ1 = .ok true ρ2 ∧ fe ρ2 = .ok (F d) ρ3 ∧ unwipe ρ ρ3 vs = ρ) : lcE vs fi g ft fe ρ = .ok (.lst (ds.map F)) ρ := by
  unfold lcE
  simp only [hi, Res.bind]
  rw [if_pos (by rw [hp, decide_eq_true hl]; rfl), lc_map F ds [] h]
  rfl
/-- .. some of them -/
theorem lc_filter {vs : List Nat} {g : D → Ro → Option Ro} {ft : EM Bool} {fe : EM D} {ρ : Ro} (P : D → Bool) (F : D → D) : ∀ (ds acc : List D), (∀ d ∈ ds, ∃ ρ1 ρ2, g d (wipeR ρ vs) = some ρ1 ∧ ft ρ1 = .ok (P d) ρ2 ∧ (P d = false → unwipe ρ ρ2 vs = ρ) ∧ (P d = true → ∃ ρ3, fe ρ2 = .ok (F d) ρ3 ∧ unwipe ρ ρ3 vs = ρ)) →
    lcLoop vs g ft fe ds acc ρ = .ok (.lst (acc ++ (ds.filter P).map F)) ρ
  | [], acc, _ => by simp [lcLoop]
  | d :: ds, acc, h => by
    obtain ⟨ρ1, ρ2, h1, h2, h3, h4⟩ := h d List.mem_cons_self
    unfold lcLoop
    simp only [h1, h2]
    cases e : P d with
    | false =>
      simp only [h3 e]
      rw [lc_filter P F ds acc fun e he => h e (List.mem_cons_of_mem _ he), List.filter_cons_of_neg (by simp [e])]
    | true =>
      obtain ⟨ρ3, h5, h6⟩ := h4 e
      simp only [h5, h6]
      rw [lc_filter P F ds (acc ++ [F d]) fun e he => h e (List.mem_cons_of_mem _ he), List.filter_cons_of_pos (by simp [e])]
      simp
theorem lcE_filter {vs : List Nat} {fi : EM (List D)} {g : D → Ro → Option Ro} {ft : EM Bool} {fe : EM D} {ρ : Ro} {ds : List D} (P : D → Bool) (F : D → D) (hi : fi ρ = .ok ds ρ) (hp : vs.all (plainAt ρ) = true) (hl : ds.length ≤ 1000000)
    (h : ∀ d ∈ ds, ∃ ρ1 ρ2, g d (wipeR ρ vs) = some ρ1 ∧ ft ρ1 = .ok (P d) ρ2 ∧ (P d = false → unwipe ρ ρ2 vs = ρ) ∧ (P d = true → ∃ ρ3, fe ρ2 = .ok (F d) ρ3 ∧ unwipe ρ ρ3 vs = ρ)) : lcE vs fi g ft fe ρ = .ok (.lst ((ds.filter P).map F)) ρ := by
  unfold lcE
  simp only [hi, Res.bind]
  rw [if_pos (by rw [hp, decide_eq_true hl]; rfl), lc_filter P F ds [] h]
  rfl
/-- a walk whose turns change the slots: an invariant of turns, results and slots -/
theorem lc_inv {vs : List Nat} {g : D → Ro → Option Ro} {ft : EM Bool} {fe : EM D} (I : Nat → List D → Ro → Prop) :
    ∀ (ds acc : List D) (i : Nat) (ρ : Ro), I i acc ρ → (∀ (j : Nat) (d : D) (acc : List D) (ρ : Ro), ds[j]? = some d → I (i + j) acc ρ → ∃ ρ1 ρ2 b, g d (wipeR ρ vs) = some ρ1 ∧ ft ρ1 = .ok b ρ2 ∧ (b = false → I (i + j + 1) acc (unwipe ρ ρ2 vs)) ∧ (b = true → ∃ y ρ3, fe ρ2 = .ok y ρ3 ∧ I (i + j + 1) (acc ++ [y]) (unwipe ρ ρ3 vs))) →
    ∃ out ρ', lcLoop vs g ft fe ds acc ρ = .ok (.lst out) ρ' ∧ I (i + ds.length) out ρ'
  | [], acc, i, ρ, h0, _ => ⟨acc, ρ, rfl, h0⟩
  | d :: ds, acc, i, ρ, h0, h => by
    obtain ⟨ρ1, ρ2, b, h1, h2, h3, h4⟩ := h 0 d acc ρ rfl h0
    unfold lcLoop
    simp only [h1, h2]
    have next : ∀ (acc : List D) (ρ : Ro), I (i + 1) acc ρ → ∃ out ρ', lcLoop vs g ft fe ds acc ρ = .ok (.lst out) ρ' ∧ I (i + (d :: ds).length) out ρ' := fun acc ρ q => by
      obtain ⟨out, ρ', e1, e2⟩ := lc_inv I ds acc (i + 1) ρ q fun j e acc ρ he q => by
        have := h (j + 1) e acc ρ he (by rw [show i + (j + 1) = i + 1 + j by omega]; exact q)
        rw [show i + (j + 1) + 1 = i + 1 + j + 1 by omega] at this
        exact this
      exact ⟨out, ρ', e1, by rw [List.length_cons, show i + (ds.length + 1) = i + 1 + ds.length by omega]; exact e2⟩
    cases b with
    | false => exact next acc _ (h3 rfl)
    | true =>
      obtain ⟨y, ρ3, h5, h6⟩ := h4 rfl
      simp only [h5]
      exact next _ _ h6
theorem lcE_inv {vs : List Nat} {fi : EM (List D)} {g : D → Ro → Option Ro} {ft : EM Bool} {fe : EM D} {ρ ρ0 : Ro} {ds : List D} (I : Nat → List D → Ro → Prop) (hi : fi ρ0 = .ok ds ρ) (hp : vs.all (plainAt ρ) = true) (hl : ds.length ≤ 1000000) (h0 : I 0 [] ρ)
    (h : ∀ (j : Nat) (d : D) (acc : List D) (ρ : Ro), ds[j]? = some d → I j acc ρ → ∃ ρ1 ρ2 b, g d (wipeR ρ vs) = some ρ1 ∧ ft ρ1 = .ok b ρ2 ∧ (b = false → I (j + 1) acc (unwipe ρ ρ2 vs)) ∧ (b = true → ∃ y ρ3, fe ρ2 = .ok y ρ3 ∧ I (j + 1) (acc ++ [y]) (unwipe ρ ρ3 vs))) :
    ∃ out ρ', lcE vs fi g ft fe ρ0 = .ok (.lst out) ρ' ∧ I ds.length out ρ' := by
  unfold lcE
  simp only [hi, Res.bind]
  rw [if_pos (by rw [hp, decide_eq_true hl]; rfl)]
  have := lc_inv I ds [] 0 ρ h0 fun j d acc ρ e q => by
    rw [Nat.zero_add] at q ⊢
    exact h j d acc ρ e q
  rwa [Nat.zero_add] at this
/-- a for loop -/
theorem loop_inv {g : D → Ro → Option Ro} {f : SM} (I : Nat → Ro → Prop) : ∀ (ds : List D) (i : Nat) (ρ : Ro), I i ρ → (∀ (j : Nat) (d : D) (ρ : Ro), ds[j]? = some d → I (i + j) ρ → ∃ ρ1 ρ2, g d ρ = some ρ1 ∧ f ρ1 = .ok .nx ρ2 ∧ I (i + j + 1) ρ2) → ∃ ρ', loopS g f ds ρ = .ok .nx ρ' ∧ I (i + ds.length) ρ'
  | [], i, ρ, h0, _ => ⟨ρ, rfl, h0⟩
  | d :: ds, i, ρ, h0, h => by
    obtain ⟨ρ1, ρ2, h1, h2, h3⟩ := h 0 d ρ rfl h0
    unfold loopS
    simp only [h1, h2]
    obtain ⟨ρ', e1, e2⟩ := loop_inv I ds (i + 1) ρ2 h3 fun j e ρ he q => by
      have := h (j + 1) e ρ he (by rw [show i + (j + 1) = i + 1 + j by omega]; exact q)
      rw [show i + (j + 1) + 1 = i + 1 + j + 1 by omega] at this
      exact this
    exact ⟨ρ', e1, by rw [List.length_cons, show i + (ds.length + 1) = i + 1 + ds.length by omega]; exact e2⟩
theorem for_inv {fi : EM (List D)} {g : D → Ro → Option Ro} {f : SM} {ρ ρ0 : Ro} {ds : List D} (I : Nat → Ro → Prop) (hi : fi ρ0 = .ok ds ρ) (h0 : I 0 ρ) (h : ∀ (j : Nat) (d : D) (ρ : Ro), ds[j]? = some d → I j ρ → ∃ ρ1 ρ2, g d ρ = some ρ1 ∧ f ρ1 = .ok .nx ρ2 ∧ I (j + 1) ρ2) :
    ∃ ρ', forS fi g f ρ0 = .ok .nx ρ' ∧ I ds.length ρ' := by
  unfold forS
  simp only [hi, Res.bind]
  have := loop_inv I ds 0 ρ h0 fun j d ρ e q => by
    rw [Nat.zero_add] at q ⊢
    exact h j d ρ e q
  rwa [Nat.zero_add] at this
end DL

/-! pure lists -/
namespace DL
theorem sub_len {α : Type} [DecidableEq α] : ∀ {m l : List α}, m.Nodup → (∀ k ∈ m, k ∈ l) → m.length ≤ l.length
  | [], _, _, _ => Nat.zero_le _
  | a :: m, l, h, s => by
    rw [List.nodup_cons] at h
    have ha := s a List.mem_cons_self
    have := sub_len (m := m) (l := l.erase a) h.2 fun k hk => (List.mem_erase_of_ne (fun e => h.1 (by rw [← e]; exact hk))).mpr (s k (List.mem_cons_of_mem _ hk))
    rw [List.length_erase_of_mem ha] at this
    have := List.length_pos_of_mem ha
    rw [List.length_cons]; omega
theorem dup_of {α : Type} [DecidableEq α] : ∀ {l : List α}, ¬ l.Nodup → ∃ a l', l.Perm (a :: l') ∧ a ∈ l'
  | [], h => absurd List.nodup_nil h
  | x :: t, h => by
    by_cases hx : x ∈ t
    · exact ⟨x, t, .refl _, hx⟩
    · obtain ⟨a, t', h1, h2⟩ := dup_of (l := t) fun q => h (List.nodup_cons.mpr ⟨hx, q⟩)
      exact ⟨a, x :: t', (List.Perm.cons x h1).trans (.swap _ _ _), List.mem_cons_of_mem _ h2⟩
theorem len_lt {l m : List Int} (hm : m.Nodup) (h : ∀ k, k ∈ m ↔ k ∈ l) : decide ((m.length : Int) < (l.length : Int)) = !decide l.Nodup := by
  by_cases q : l.Nodup
  · have := ((List.perm_ext_iff_of_nodup hm q).mpr h).length_eq
    rw [decide_eq_true q, decide_eq_false (by omega)]; rfl
  · obtain ⟨a, l', h1, h2⟩ := dup_of q
    have h3 : m.length ≤ l'.length := sub_len hm fun k hk => by
      have := h1.mem_iff.mp ((h k).mp hk)
      rcases List.mem_cons.mp this with e | e
      · exact e ▸ h2
      · exact e
    have h4 := h1.length_eq
    rw [List.length_cons] at h4
    rw [decide_eq_false q, decide_eq_true (by omega)]; rfl
theorem set_nodup {l : List Int} {i : Nat} {n : Int} (h : l.Nodup) (hi : i < l.length) : (l.set i n).Nodup ↔ ∀ j, j ≠ i → l[j]? ≠ some n := by
  constructor
  · intro q j hj e
    rw [List.nodup_iff_pairwise_ne, List.pairwise_iff_getElem] at q
    have hjl := (List.getElem?_eq_some_iff.mp e).1
    have ej : (l.set i n)[j]? = some n := by rw [List.getElem?_set_ne (Ne.symm hj)]; exact e
    have ei : (l.set i n)[i]? = some n := by rw [List.getElem?_set_self hi]
    have hl : (l.set i n).length = l.length := List.length_set
    have gj := (List.getElem?_eq_some_iff.mp ej).2
    have gi := (List.getElem?_eq_some_iff.mp ei).2
    rcases Nat.lt_or_gt_of_ne hj with c | c
    · exact q j i (by omega) (by omega) c (by rw [gj, gi])
    · exact q i j (by omega) (by omega) c (by rw [gj, gi])
  · intro q
    rw [List.nodup_iff_pairwise_ne, List.pairwise_iff_getElem] at h ⊢
    intro a b ha hb hab
    have hl : (l.set i n).length = l.length := List.length_set
    rw [List.getElem_set, List.getElem_set]
    split
    · rename_i e
      subst e
      rw [if_neg (by omega)]
      exact fun z => q b (by omega) ((List.getElem?_eq_getElem (by omega)).trans (congrArg some z.symm))
    · split
      · rename_i e
        subst e
        exact fun z => q a (by omega) ((List.getElem?_eq_getElem (by omega)).trans (congrArg some z))
      · exact h a b (by omega) (by omega) hab

def sing : List (Nat × Int) → List Int → List Int × Bool
  | [], rows => (rows, false)
  | (i, n) :: cs, rows => if (rows.set i n).Nodup then sing cs (rows.set i n) else (rows, true)
theorem sing_keep : ∀ (cs : List (Nat × Int)) (rows : List Int), rows.Nodup → (sing cs rows).1.Nodup ∧ (sing cs rows).1.length = rows.length
  | [], rows, h => ⟨h, rfl⟩
  | (i, n) :: cs, rows, h => by
    unfold sing
    split
    · rename_i q
      obtain ⟨h1, h2⟩ := sing_keep cs (rows.set i n) q
      exact ⟨h1, by rw [h2, List.length_set]⟩
    · exact ⟨h, rfl⟩
theorem lookup_zip : ∀ {cs rows : List Int} {j : Nat} {c n : Int}, cs.Nodup → cs[j]? = some c → rows[j]? = some n → (cs.zip rows).lookup c = some n
  | [], _, _, _, _, _, h, _ => by simp at h
  | _ :: _, [], _, _, _, _, _, h => by simp at h
  | a :: cs, r :: rows, 0, c, n, _, h, g => by
    simp at h g; subst h g; simp [List.lookup]
  | a :: cs, r :: rows, j + 1, c, n, hn, h, g => by
    rw [List.nodup_cons] at hn
    simp at h g
    have : (c == a) = false := beq_eq_false_iff_ne.mpr fun e => hn.1 (e ▸ List.mem_of_getElem? h)
    rw [List.zip_cons_cons, List.lookup_cons, this]
    exact lookup_zip hn.2 h g
def getZ (cs rows : List Int) (c : Int) : Int := ((cs.zip rows).lookup c).getD 0
theorem getZ_at {cs rows : List Int} {j : Nat} {c n : Int} (hn : cs.Nodup) (h : cs[j]? = some c) (g : rows[j]? = some n) : getZ cs rows c = n := by
  unfold getZ; rw [lookup_zip hn h g]; rfl
theorem other_is {cs rows : List Int} {i : Nat} {ci n : Int} (hc : cs.Nodup) (hl : cs.length = rows.length) (hr : rows.Nodup) (hi : cs[i]? = some ci) :
    (cs.filter fun c => !(c == ci) && getZ cs rows c == n).isEmpty = decide ((rows.set i n).Nodup) := by
  have hil : i < rows.length := by rw [← hl]; exact (List.getElem?_eq_some_iff.mp hi).1
  rw [Bool.eq_iff_iff, decide_eq_true_eq, set_nodup hr hil, List.isEmpty_iff, List.filter_eq_nil_iff]
  constructor
  · intro h j hj e
    have hjl := (List.getElem?_eq_some_iff.mp e).1
    have hcj : cs[j]? = some cs[j] := List.getElem?_eq_getElem (by omega)
    refine h cs[j] (List.getElem_mem (by omega)) ?_
    rw [getZ_at hc hcj e, Bool.and_eq_true, Bool.not_eq_true', beq_eq_false_iff_ne]
    refine ⟨fun z => hj ?_, by simp⟩
    have := (List.getElem?_inj (i := j) (j := i) (by omega) hc).mp (by rw [hcj, hi, z])
    exact this
  · intro h c hcm
    obtain ⟨j, hj, rfl⟩ := List.getElem_of_mem hcm
    have hcj : cs[j]? = some cs[j] := List.getElem?_eq_getElem hj
    have hrj : rows[j]? = some rows[j] := List.getElem?_eq_getElem (by omega)
    rw [getZ_at hc hcj hrj]
    intro q
    rw [Bool.and_eq_true, Bool.not_eq_true', beq_eq_false_iff_ne, beq_iff_eq] at q
    refine h j (fun z => q.1 ?_) (by rw [hrj, q.2])
    subst z
    rw [hcj] at hi; exact Option.some.inj hi
theorem put_zip : ∀ {cs rows : List Int} {i : Nat} {ci n : Int}, cs.Nodup → cs[i]? = some ci → (cs.zip rows).map (fun p => if p.1 = ci then (p.1, n) else p) = cs.zip (rows.set i n)
  | [], _, _, _, _, _, h => by simp at h
  | _ :: _, [], _, _, _, _, _ => by simp
  | a :: cs, r :: rows, 0, c, n, hn, h => by
    rw [List.nodup_cons] at hn
    simp at h; subst h
    rw [List.zip_cons_cons, List.map_cons, if_pos rfl, List.set_cons_zero, List.zip_cons_cons]
    congr 1
    refine (List.map_congr_left fun p hp => ?_).trans (List.map_id _)
    rw [if_neg fun e => hn.1 ?_]
    · rfl
    · rw [← e]; exact (List.of_mem_zip (a := p.1) (b := p.2) hp).1
  | a :: cs, r :: rows, j + 1, c, n, hn, h => by
    rw [List.nodup_cons] at hn
    simp at h
    have : a ≠ c := fun e => hn.1 (e ▸ List.mem_of_getElem? h)
    rw [List.zip_cons_cons, List.map_cons, put_zip hn.2 h, List.set_cons_succ, List.zip_cons_cons, if_neg this]
end DL

/-! mirrors, printed by gen.py -/
namespace DL
open PySem L2
def c_MOST_STEPS : D := (.int 20)
/-- slots: 0 value 1 low 2 high -/
def b_is_within : SM := (retS (andE (callB isiF (consE (varE 0) (consE (retE (.ty "int")) (retE [])))) (andE (notE (callB isiF (consE (varE 0) (consE (retE (.ty "bool")) (retE []))))) (chainE leD leD (varE 1) (varE 0) (varE 2)))))
def m_is_within : EM D := runB 3 3 b_is_within
/-- slots: 0 some 1 one 2 other -/
def b_rises : SM := (retS (callB allF (consE (lcE [1, 2] (zipI (consE (varE 0) (consE (slE (varE 0) (partE (retE (.int 1))) (retE none)) (retE [])))) (tupT 2 (consT (setT 1) (consT (setT 2) nilT))) yesT (bin2 ltD (varE 1) (varE 2))) (retE []))))
def m_rises : EM D := runB 1 3 b_rises
/-- slots: 0 size -/
def b_look_at_size : SM := (ifS (notT (testE (callE m_is_within (argV (varE 0) (argV (retE (.int 2)) (argV (retE (.int 5)) (retE []))))))) (raiseS "InvalidSize") nextS)
def m_look_at_size : EM D := runB 1 1 b_look_at_size
/-- slots: 0 size 1 value 2 part -/
def b_is_pair : SM := (retS (andE (callB isiF (consE (varE 1) (consE (retE (.ty "tuple")) (retE [])))) (andE (bin2 eqD (callB lenF (consE (varE 1) (retE []))) (retE (.int 2))) (callB allF (consE (lcE [2] (seqI (varE 1)) (setT 2) yesT (callE m_is_within (argV (varE 2) (argV (retE (.int 0)) (argV (bin2 subD (varE 0) (retE (.int 1))) (retE [])))))) (retE []))))))
def m_is_pair : EM D := runB 2 3 b_is_pair
/-- slots: 0 size 1 value 2 pair -/
def b_are_moves : SM := (seqS (ifS (orT (notT (testE (callB isiF (consE (varE 1) (consE (retE (.ty "tuple")) (retE [])))))) (orT (testE (bin2 gtD (callB lenF (consE (varE 1) (retE []))) (varE 0))) (notT (testE (callB allF (consE (lcE [2] (seqI (varE 1)) (setT 2) yesT (callE m_is_pair (argV (varE 0) (argV (varE 2) (retE []))))) (retE []))))))) (retS (retE (.bl false))) nextS) (retS (andE (callE m_rises (argV (lcE [2] (seqI (varE 1)) (setT 2) yesT (bin2 ixD (varE 2) (retE (.int 0)))) (retE []))) (bin2 eqD (lenSetE (lcE [2] (seqI (varE 1)) (setT 2) yesT (bin2 ixD (varE 2) (retE (.int 1))))) (callB lenF (consE (varE 1) (retE [])))))))
def m_are_moves : EM D := runB 2 3 b_are_moves
/-- slots: 0 size 1 moves -/
def b_look_at_moves : SM := (ifS (notT (testE (callE m_are_moves (argV (varE 0) (argV (varE 1) (retE [])))))) (raiseS "InvalidMoves") nextS)
def m_look_at_moves : EM D := runB 2 2 b_look_at_moves
/-- slots: 0 rows 1 step 2 old 3 new 4 number -/
def b_stepped : SM := (seqS (asgS (varE 1) (tupT 2 (consT (setT 2) (consT (setT 3) nilT)))) (seqS (ifS (orT (testE (bin2 notInD (varE 2) (varE 0))) (testE (bin2 inD (varE 3) (varE 0)))) (retS (retE .non)) nextS) (retS (callB tupF (consE (lcE [4] (seqI (varE 0)) (setT 4) yesT (ifE (testE (bin2 eqD (varE 4) (varE 2))) (varE 3) (varE 4))) (retE []))))))
def m_stepped : EM D := runB 2 5 b_stepped
/-- slots: 0 moves 1 old 2 new -/
def b_first_and_last : SM := (retS (tupE (consE (callB tupF (consE (lcE [1, 2] (seqI (varE 0)) (tupT 2 (consT (setT 1) (consT (setT 2) nilT))) yesT (varE 1)) (retE []))) (consE (callB tupF (consE (lcE [1, 2] (seqI (varE 0)) (tupT 2 (consT (setT 1) (consT (setT 2) nilT))) yesT (varE 2)) (retE []))) (retE [])))))
def m_first_and_last : EM D := runB 1 3 b_first_and_last
/-- slots: 0 size 1 moves 2 first 3 last 4 found 5 waiting 6 at 7 rows 8 old 9 new 10 later -/
def b_shortest_steps : SM := (seqS (asgS (callE m_first_and_last (argV (varE 1) (retE []))) (tupT 2 (consT (setT 2) (consT (setT 3) nilT)))) (seqS (parNN3S 4 5 6 (disp1N (varE 2) (tupE (retE []))) (lstE (consE (varE 2) (retE []))) (retE (.int 0))) (seqS (iterS (testE (bin2 ltD (varE 6) (lenO 5))) (seqS (asgS (ixO 5 (varE 6)) (setT 7)) (seqS (asgS (bin2 addD (varE 6) (retE (.int 1))) (setT 6)) (seqS (ifS (testE (bin2 eqD (varE 7) (varE 3))) (retS (ixNO 4 (varE 7))) nextS) (forS (seqI (varE 7)) (setT 8) (forS (rng1I (consE (varE 0) (retE []))) (setT 9) (seqS (asgS (callE m_stepped (argV (varE 7) (argV (tupE (consE (varE 8) (consE (varE 9) (retE [])))) (retE [])))) (setT 10)) (ifS (andT (testE (bin2 isNotD (varE 10) (retE .non))) (testE (inNO true (varE 10) 4))) (seqS (setN 4 (varE 10) (bin2 addD (ixNO 4 (varE 7)) (tupE (consE (tupE (consE (varE 8) (consE (varE 9) (retE [])))) (retE []))))) (appS 5 (varE 10))) nextS))))))) nW) (seqS (thawS 4) (seqS (thawS 5) (retS (retE .non)))))))
def m_shortest_steps : EM D := runB 2 11 b_shortest_steps
/-- slots: 0 size 1 moves 2 steps -/
def b_fewest_steps : SM := (seqS (dropS (callE m_look_at_size (argV (varE 0) (retE [])))) (seqS (dropS (callE m_look_at_moves (argV (varE 0) (argV (varE 1) (retE []))))) (seqS (asgS (callE m_shortest_steps (argV (varE 0) (argV (varE 1) (retE [])))) (setT 2)) (retS (ifE (testE (bin2 isD (varE 2) (retE .non))) (retE .non) (callB lenF (consE (varE 2) (retE []))))))))
def m_fewest_steps : EM D := runB 2 3 b_fewest_steps
/-- slots: 0 size 1 moves 2 steps 3 step 4 rows 5 last -/
def b_do_them : SM := (seqS (dropS (callE m_look_at_size (argV (varE 0) (retE [])))) (seqS (dropS (callE m_look_at_moves (argV (varE 0) (argV (varE 1) (retE []))))) (seqS (ifS (orT (notT (testE (callB isiF (consE (varE 2) (consE (retE (.ty "tuple")) (retE [])))))) (orT (testE (bin2 gtD (callB lenF (consE (varE 2) (retE []))) (retE c_MOST_STEPS))) (notT (testE (callB allF (consE (lcE [3] (seqI (varE 2)) (setT 3) yesT (callE m_is_pair (argV (varE 0) (argV (varE 3) (retE []))))) (retE []))))))) (raiseS "InvalidSteps") nextS) (seqS (asgS (callE m_first_and_last (argV (varE 1) (retE []))) (tupT 2 (consT (setT 4) (consT (setT 5) nilT)))) (seqS (forS (seqI (varE 2)) (setT 3) (seqS (asgS (callE m_stepped (argV (varE 4) (argV (varE 3) (retE [])))) (setT 4)) (ifS (testE (bin2 isD (varE 4) (retE .non))) (retS (retE (.bl false))) nextS))) (retS (bin2 eqD (varE 4) (varE 5))))))))
def m_do_them : EM D := runB 3 6 b_do_them
/-- slots: 0 size 1 moves -/
def b_steps_for : SM := (seqS (dropS (callE m_look_at_size (argV (varE 0) (retE [])))) (seqS (dropS (callE m_look_at_moves (argV (varE 0) (argV (varE 1) (retE []))))) (retS (callE m_shortest_steps (argV (varE 0) (argV (varE 1) (retE [])))))))
def m_steps_for : EM D := runB 2 2 b_steps_for
/-- slots: 0 _law_cell 1 _law_turn -/
def b__law_well : SM := (seqS (ifS (testE (bin2 geD (varE 0) (bin2 powD (retE (.int 10)) (retE (.int 18))))) (retS (lstE (consE (bin2 subD (varE 0) (bin2 powD (retE (.int 10)) (retE (.int 18)))) (consE (bin2 modD (varE 0) (retE (.int 2305843009213693951))) (consE (varE 1) (retE [])))))) nextS) (retS (lstE (consE (retE (.int 0)) (consE (bin2 modD (varE 0) (retE (.int 2305843009213693951))) (consE (varE 1) (retE [])))))))
def m__law_well : EM D := runB 2 2 b__law_well
/-- slots: 0 _law_bag 1 _law_many 2 _law_found 3 _law_p 4 _law_n -/
def b__law_take : SM := (seqS (ifS (testE (bin2 gtD (ixO 0 (retE (.int 0))) (retE (.int 0)))) (seqS (asgS (bin2 modD (ixO 0 (retE (.int 0))) (varE 1)) (setT 2)) (seqS (setO 0 (retE (.int 0)) (bin2 fdivD (ixO 0 (retE (.int 0))) (varE 1))) (retS (varE 2)))) nextS) (seqS (setO 0 (retE (.int 2)) (bin2 addD (ixO 0 (retE (.int 2))) (retE (.int 1)))) (seqS (asgS (retE (.int 2305843009213693951)) (setT 3)) (seqS (asgS (bin2 modD (bin2 addD (ixO 0 (retE (.int 1))) (bin2 mulD (retE (.int 1000003)) (ixO 0 (retE (.int 2))))) (varE 3)) (setT 4)) (seqS (asgS (bin2 modD (bin2 addD (bin2 addD (bin2 mulD (varE 4) (varE 4)) (bin2 mulD (retE (.int 7919)) (bin2 powD (ixO 0 (retE (.int 2))) (retE (.int 2))))) (retE (.int 5))) (varE 3)) (setT 4)) (retS (bin2 modD (bin2 fdivD (bin2 modD (bin2 powD (varE 4) (retE (.int 3))) (varE 3)) (retE (.int 13))) (varE 1))))))))
def m__law_take : EM D := runB 2 5 b__law_take
/-- slots: 0 _law_script 1 _law_most 2 _law_k 3 _law_cell -/
def b__law_bags : SM := (retS (lcE [2, 3] (enumA (consE (bin2 addD (slE (varE 0) (retE none) (partE (varE 1))) (lstE (consE (retE (.int 0)) (retE [])))) (retE []))) (tupT 2 (consT (setT 2) (consT (setT 3) nilT))) yesT (callE m__law_well (argV (varE 3) (argV (bin2 mulD (retE (.int 977)) (varE 2)) (retE []))))))
def m__law_bags : EM D := runB 2 4 b__law_bags
/-- slots: 0 _law_a 1 _law_b 2 _law_x 3 _law_y -/
def b__law_same (self : EM D) : SM := (seqS (ifS (orT (andT (testE (callB isiF (consE (varE 0) (consE (retE (.ty "list")) (retE []))))) (testE (callB isiF (consE (varE 1) (consE (retE (.ty "list")) (retE [])))))) (andT (testE (callB isiF (consE (varE 0) (consE (retE (.ty "tuple")) (retE []))))) (testE (callB isiF (consE (varE 1) (consE (retE (.ty "tuple")) (retE []))))))) (retS (andE (bin2 eqD (callB lenF (consE (varE 0) (retE []))) (callB lenF (consE (varE 1) (retE [])))) (callB allF (consE (lcE [2, 3] (zipI (consE (varE 0) (consE (varE 1) (retE [])))) (tupT 2 (consT (setT 2) (consT (setT 3) nilT))) yesT (callE self (argV (varE 2) (argV (varE 3) (retE []))))) (retE []))))) nextS) (seqS (ifS (orT (testE (isiTE ["bool", "list", "tuple"] (varE 0))) (testE (isiTE ["bool", "list", "tuple"] (varE 1)))) (retS (andE (callB isiF (consE (varE 0) (consE (retE (.ty "bool")) (retE [])))) (andE (callB isiF (consE (varE 1) (consE (retE (.ty "bool")) (retE [])))) (bin2 eqD (varE 0) (varE 1))))) nextS) (seqS (ifS (orT (testE (callB isiF (consE (varE 0) (consE (retE (.ty "int")) (retE []))))) (testE (callB isiF (consE (varE 1) (consE (retE (.ty "int")) (retE [])))))) (retS (andE (callB isiF (consE (varE 0) (consE (retE (.ty "int")) (retE [])))) (andE (callB isiF (consE (varE 1) (consE (retE (.ty "int")) (retE [])))) (bin2 eqD (varE 0) (varE 1))))) nextS) (seqS (ifS (orT (testE (callB isiF (consE (varE 0) (consE (retE (.ty "str")) (retE []))))) (testE (callB isiF (consE (varE 1) (consE (retE (.ty "str")) (retE [])))))) (retS (andE (callB isiF (consE (varE 0) (consE (retE (.ty "str")) (retE [])))) (andE (callB isiF (consE (varE 1) (consE (retE (.ty "str")) (retE [])))) (bin2 eqD (varE 0) (varE 1))))) nextS) (retS (andE (bin2 isD (varE 0) (retE .non)) (bin2 isD (varE 1) (retE .non))))))))
def r__law_same : Nat → EM D
  | 0 => fun _ => .bad
  | d + 1 => runB 2 4 (b__law_same (r__law_same d))
def m__law_same : EM D := r__law_same 8
/-- slots: 0 _law_bag 1 _law_bound 2 _law_news 3 _law_found 4 _law_old -/
def b__law_moves : SM := (seqS (parNNS 2 3 (lstRgE (varE 1)) (lstE (retE []))) (seqS (forS (rng1I (consE (varE 1) (retE []))) (setT 4) (ifS (testE (bin2 gtD (callE m__law_take (argS 0 (argV (retE (.int 4)) (retE [])))) (retE (.int 0)))) (appS 3 (tupE (consE (varE 4) (consE (popO 2 (callE m__law_take (argS 0 (argV (lenO 2) (retE []))))) (retE []))))) nextS)) (seqS (thawS 2) (seqS (thawS 3) (retS (callB tupF (consE (varE 3) (retE []))))))))
def m__law_moves : EM D := runB 2 5 b__law_moves
/-- slots: 0 _law_table 1 _law_found 2 _law_met 3 _law_old 4 _law_at 5 _law_way -/
def b__law_rings : SM := (seqS (parNew2S 1 2 (retE (.int 0)) (lstE (retE []))) (seqS (forS (seqI (varE 0)) (setT 3) (seqS (parNew2S 4 5 (varE 3) (lstE (retE []))) (seqS (iterS (andT (testE (bin2 inK (varE 4) (varE 0))) (testE (inO true (varE 4) 2))) (seqS (appS 2 (varE 4)) (seqS (appS 5 (varE 4)) (asgS (bin2 ixD (varE 0) (varE 4)) (setT 4)))) nW) (seqS (thawS 5) (asgS (bin2 addD (varE 1) (callB intF (consE (andE (bin2 gtD (callB lenF (consE (varE 5) (retE []))) (retE (.int 1))) (bin2 eqD (varE 4) (varE 3))) (retE [])))) (setT 1)))))) (seqS (thawS 2) (retS (varE 1)))))
def m__law_rings : EM D := runB 1 6 b__law_rings
/-- slots: 0 _law_table 1 _law_steps 2 _law_here 3 _law_old 4 _law_new 5 _law_some 6 _law_row -/
def b__law_done_by : SM := (seqS (newS 2 (retE (.dct []))) (seqS (forS (seqI (varE 0)) (setT 3) (setK 2 (varE 3) (varE 3))) (seqS (forS (seqI (varE 1)) (tupT 2 (consT (setT 3) (consT (setT 4) nilT))) (seqS (asgS (loanE 2 (lcE [6] (seqI (varE 2)) (setT 6) (testE (bin2 eqD (bin2 ixD (varE 2) (varE 6)) (varE 3))) (varE 6))) (setT 5)) (seqS (ifS (orT (testE (bin2 eqD (varE 5) (lstE (retE [])))) (testE (bin2 neD (loanE 2 (lcE [6] (seqI (varE 2)) (setT 6) (testE (bin2 eqD (bin2 ixD (varE 2) (varE 6)) (varE 4))) (varE 6))) (lstE (retE []))))) (retS (retE (.bl false))) nextS) (setK 2 (bin2 ixD (varE 5) (retE (.int 0))) (varE 4))))) (seqS (thawS 2) (retS (bin2 eqKF (varE 2) (varE 0)))))))
def m__law_done_by : EM D := runB 2 7 b__law_done_by
/-- law: slots: 0 _law_script 1 _law_bag 2 _law_bound 3 _law_turn 4 _law_moves_here 5 _law_table 6 _law_rings_here 7 _law_due 8 _law_old 9 _law_new 10 _law_steps 11 _law_drawn 12 _law_k 13 _law_at 14 _law_step -/
def fit_law : EM D := (callE m__law_bags (argV (varE 0) (argV (retE (.int 8)) (retE []))))
def b_law : SM := (seqS (asgS (bin2 addD (retE (.int 2)) (callE m__law_take (argS 1 (argV (retE (.int 4)) (retE []))))) (setT 2)) (forS (rng1I (consE (retE (.int 4)) (retE []))) (setT 3) (seqS (asgS (callE m__law_moves (argS 1 (argV (varE 2) (retE [])))) (setT 4)) (seqS (asgS (callB dictF2 (consE (varE 4) (retE []))) (setT 5)) (seqS (asgS (callE m__law_rings (argV (varE 5) (retE []))) (setT 6)) (seqS (asgS (bin2 addD (callB lenF (consE (lcE [8, 9] (seqI (varE 4)) (tupT 2 (consT (setT 8) (consT (setT 9) nilT))) (testE (bin2 neD (varE 8) (varE 9))) (retE (.int 1))) (retE []))) (varE 6)) (setT 7)) (seqS (asgS (ifE (andT (testE (bin2 gtD (varE 6) (retE (.int 0)))) (testE (bin2 eqD (callB lenF (consE (varE 4) (retE []))) (varE 2)))) (retE .non) (varE 7)) (setT 7)) (seqS (asgS (callE m_steps_for (argV (varE 2) (argV (varE 4) (retE [])))) (setT 10)) (seqS (ifS (orT (notT (testE (callE m__law_same (argV (callE m_fewest_steps (argV (varE 2) (argV (varE 4) (retE [])))) (argV (varE 7) (retE [])))))) (testE (bin2 neD (bin2 isD (varE 10) (retE .non)) (bin2 isD (varE 7) (retE .non))))) (retS (retE (.bl false))) nextS) (seqS (ifS (testE (bin2 isNotD (varE 10) (retE .non))) (ifS (orT (notT (testE (callB isiF (consE (varE 10) (consE (retE (.ty "tuple")) (retE [])))))) (orT (testE (bin2 neD (callB lenF (consE (varE 10) (retE []))) (varE 7))) (notT (testE (callE m__law_done_by (argV (varE 5) (argV (varE 10) (retE [])))))))) (retS (retE (.bl false))) nextS) nextS) (seqS (asgS (ifE (testE (bin2 isD (varE 10) (retE .non))) (tupE (retE [])) (varE 10)) (setT 11)) (seqS (forS (rng1I (consE (callE m__law_take (argS 1 (argV (retE (.int 4)) (retE [])))) (retE []))) (setT 12) (seqS (asgS (callE m__law_take (argS 1 (argV (bin2 addD (callB lenF (consE (varE 11) (retE []))) (retE (.int 1))) (retE [])))) (setT 13)) (seqS (asgS (tupE (consE (callE m__law_take (argS 1 (argV (varE 2) (retE [])))) (consE (callE m__law_take (argS 1 (argV (varE 2) (retE [])))) (retE [])))) (setT 14)) (asgS (bin2 addD (bin2 addD (slE (varE 11) (retE none) (partE (varE 13))) (tupE (consE (varE 14) (retE [])))) (slE (varE 11) (partE (bin2 addD (varE 13) (callE m__law_take (argS 1 (argV (retE (.int 2)) (retE [])))))) (retE none))) (setT 11))))) (ifS (notT (testE (callE m__law_same (argV (callE m_do_them (argV (varE 2) (argV (varE 4) (argV (varE 11) (retE []))))) (argV (callE m__law_done_by (argV (varE 5) (argV (varE 11) (retE [])))) (retE [])))))) (retS (retE (.bl false))) nextS)))))))))))))
def g_law : SM := (retS (retE (.bl true)))
end DL

/-! Plain maths: what is a statement, a script (printed by split.py). -/
namespace DL
open PySem L2


/-! ### the bag -/
def takeR (w : Bag) (m : Int) : Int × Bag :=
  if 0 < w.a then (w.a % m, { w with a := w.a / m }) else
    let c := w.c + 1
    let n := (w.b + 1000003 * c) % p61
    let n := (n * n + 7919 * c ^ 2 + 5) % p61
    (n ^ 3 % p61 / 13 % m, { w with c := c })
theorem take_is (w : Bag) (m : Int) (h1 : 0 < m) (h2 : m < 1000000) (h3 : 0 ≤ w.c) (h4 : w.c + 1 ≤ 2 ^ 62) :
    m__law_take [.p w.d, .v (.int m)] = .ok (.int (takeR w m).1) [.p (takeR w m).2.d, .v (.int m)] := by
  unfold m__law_take b__law_take Bag.d takeR
  have h5 : m < 1073741824 := by omega
  by_cases h : 0 < w.a
  · simp [atI, ixN, modD, fdivD, int2c, h1, h5, setIx, h]
  · have e1 : mulOk 1000003 (w.c + 1) = true := by unfold mulOk; simp
    have e2 : ∀ n : Int, mulOk (n % p61) (n % p61) = true := fun n => by
      have := Int.emod_nonneg n (show p61 ≠ 0 by decide)
      have := Int.emod_lt_of_pos n (show 0 < p61 by decide)
      unfold p61 at *
      unfold mulOk
      simp
      omega
    have e3 : mulOk 7919 ((w.c + 1) ^ 2) = true := by unfold mulOk; simp
    have e4 : ∀ n : Int, (n % p61).natAbs < 2 ^ 64 := fun n => by
      have := Int.emod_nonneg n (show p61 ≠ 0 by decide)
      have := Int.emod_lt_of_pos n (show 0 < p61 by decide)
      unfold p61 at *
      omega
    have e5 : (w.c + 1).natAbs < 2 ^ 64 := by omega
    have c1 : (0 : Int) < p61 := by decide
    show runB 2 5 _ _ = _
    have ep : (2305843009213693951 : Int) = p61 := rfl
    rw [ep]
    simp only [Nat.reducePow] at e4 e5
    simp [atI, ixN, modD, fdivD, int2c, mulD, powD, h1, h5, setIx, h, e1, e2, e3, e4, e5, c1]
/-- a function that draws: at a bag b of at most so many draws it gives something of which R holds -/
def Draws (m : EM D) (as : List D) (c : Int) (R : D → Prop) : Prop := ∀ w : Bag, 0 ≤ w.c → w.c + c ≤ 2 ^ 62 → ∃ (r : D) (w' : Bag), m (.p w.d :: as.map .v) = .ok r (.p w'.d :: as.map .v) ∧ R r ∧ w.c ≤ w'.c ∧ w'.c ≤ w.c + c
theorem take_ok (m : Int) (h1 : 0 < m) (h2 : m < 1000000) : Draws m__law_take [.int m] 1 fun r => ∃ i, r = .int i ∧ 0 ≤ i ∧ i < m := fun w h3 h4 => by
  refine ⟨_, _, take_is w m h1 h2 h3 h4, ⟨_, rfl, ?_, ?_⟩, ?_, ?_⟩
  · unfold takeR; split <;> exact Int.emod_nonneg _ (by omega)
  · unfold takeR; split <;> exact Int.emod_lt_of_pos _ h1
  · unfold takeR; split <;> (show w.c ≤ _; simp only []; omega)
  · unfold takeR; split <;> (simp only []; omega)
/-- pairs of ints -/
def prD (p : Int × Int) : D := .tup [.int p.1, .int p.2]
def prsD (l : List (Int × Int)) : D := .tup (l.map prD)
def inB (b : Int) (p : Int × Int) : Prop := 0 ≤ p.1 ∧ p.1 < b ∧ 0 ≤ p.2 ∧ p.2 < b
theorem rng_get {lo : Int} {n j : Nat} {d : D} (h : (rngD lo n)[j]? = some d) : d = .int (lo + j) ∧ j < n := by
  unfold rngD at h
  rw [List.getElem?_map] at h
  by_cases hj : j < n
  · rw [List.getElem?_range hj] at h
    cases h
    exact ⟨rfl, hj⟩
  · rw [List.getElem?_eq_none (by simpa using hj)] at h; cases h
theorem rng_len {lo : Int} {n : Nat} : (rngD lo n).length = n := by simp [rngD]
@[simp] theorem ev_rng1 {fa : EM (List D)} {ρ : Ro} : rng1I fa ρ = (fa ρ).bind fun ds ρ1 => liftO (match ds with | [.int j] => if smallI j then some (rngD 0 j.toNat) else none | _ => none) ρ1 := rfl
@[simp] theorem ev_seqI {fe : EM D} {ρ : Ro} : seqI fe ρ = (fe ρ).bind fun d ρ1 => liftO (match d with | .lst ds => some ds | .tup ds => some ds | .dct kvs => some (kvs.map (·.1)) | _ => none) ρ1 := rfl
/-- increasing firsts -/
def incr (l : List (Int × Int)) : Prop := (l.map (·.1)).Pairwise (· < ·)
theorem ints_tup {l : List Int} : (rngD 0 l.length).length = l.length := rng_len
def okI (b : Int) (i : Int) : Prop := 0 ≤ i ∧ i < b
/-- list(range(n)) -/
@[simp] theorem ev_lstRg {fe : EM D} {ρ : Ro} : lstRgE fe ρ = (fe ρ).bind fun d ρ1 => liftO ((rg1 d).map .lst) ρ1 := rfl
@[simp] theorem ev_tupRg {fe : EM D} {ρ : Ro} : tupRgE fe ρ = (fe ρ).bind fun d ρ1 => liftO ((rg1 d).map .tup) ρ1 := rfl
@[simp] theorem ev_neO {i : Nat} {ρ : Ro} : neO i ρ = (ownL i ρ).bind fun ds ρ1 => (liftO (neD (.lst ds) (.lst [])) ρ1).bind fun d ρ2 => .ok d ρ2 := rfl
/-- ints as data -/
def isD' (l : List Int) : List D := l.map .int
theorem toPs_ints : ∀ l : List Int, toPs (l.map D.int) = some (l.map PyData.int)
  | [] => rfl
  | i :: l => by
    rw [List.map_cons, toPs, toPs_ints l]; rfl
theorem lay_ints : ∀ l : List Int, PyData.canLayAll0 (l.map PyData.int) = true
  | [] => rfl
  | i :: l => by rw [List.map_cons, PyData.canLayAll0, lay_ints l]; rfl
theorem dep_ints : ∀ l : List Int, PyData.depthAll (l.map PyData.int) = 0
  | [] => rfl
  | i :: l => by rw [List.map_cons, PyData.depthAll, dep_ints l]; rfl
theorem shaped_ints (l : List Int) : PySem.SeqAt.shaped (.list (l.map PyData.int)) = true := by
  unfold PySem.SeqAt.shaped
  rw [PyData.canLay0, lay_ints, PyData.depth, dep_ints]; rfl
theorem ne_nil (l : List Int) : neD (.lst (l.map D.int)) (.lst []) = some (.bl (!l.isEmpty)) := by
  unfold neD eqvD
  rw [show toP (.lst (l.map D.int)) = some (.list (l.map PyData.int)) by rw [toP, toPs_ints]; rfl, show toP (.lst []) = some (.list []) from rfl]
  simp only [shaped_ints, show PySem.SeqAt.shaped (.list []) = true from rfl]
  cases l <;> rfl



def free (x : Sl) : Prop := x = .u ∨ ∃ d, x = .v d
theorem olds_ok (b : Int) (hb : 0 < b) (hb2 : b < 1000) (w : Bag) (h3 : 0 ≤ w.c) (h4 : w.c + b ≤ 2 ^ 62) :
    ∃ (l : List Int) (w' : Bag), lcE [3] (rng1I (consE (varE 1) (retE []))) (setT 3) (testE (bin2 gtD (callE m__law_take (argS 0 (argV (retE (.int 3)) (retE [])))) (retE (.int 0)))) (varE 3) [.p w.d, .v (.int b), .u, .u, .u, .u, .u, .u] =
      .ok (.lst (l.map .int)) [.p w'.d, .v (.int b), .u, .u, .u, .u, .u, .u] ∧ l.Pairwise (· < ·) ∧ (∀ i ∈ l, okI b i) ∧ w.c ≤ w'.c ∧ w'.c ≤ w.c + b := by
  have sm : smallI b = true := by unfold smallI; simp; omega
  obtain ⟨out, ρ', e, l, w', rfl, rfl, hl, hc1, hc2, hp⟩ := lcE_inv (vs := [3]) (fi := rng1I (consE (varE 1) (retE []))) (g := setT 3) (ft := testE (bin2 gtD (callE m__law_take (argS 0 (argV (retE (.int 3)) (retE [])))) (retE (.int 0)))) (fe := varE 3)
    (ρ0 := [.p w.d, .v (.int b), .u, .u, .u, .u, .u, .u]) (ρ := [.p w.d, .v (.int b), .u, .u, .u, .u, .u, .u]) (ds := rngD 0 b.toNat)
    (fun i acc ρ => ∃ (l : List Int) (w' : Bag), acc = l.map .int ∧ ρ = [.p w'.d, .v (.int b), .u, .u, .u, .u, .u, .u] ∧ l.Pairwise (· < ·) ∧ w.c ≤ w'.c ∧ w'.c ≤ w.c + i ∧ ∀ k ∈ l, 0 ≤ k ∧ k < i)
    (by simp [sm]) (by simp) (by rw [rng_len]; omega) ⟨[], w, rfl, rfl, .nil, by omega, by omega, by simp⟩ (fun j d acc ρ hj ⟨l, w1, e1, e2, e3, e4, e5, e6⟩ => by
      obtain ⟨rfl, hj⟩ := rng_get hj
      subst e1 e2
      obtain ⟨_, w2, f2, ⟨x, rfl, x1, x2⟩, f3, f4⟩ := take_ok 3 (by omega) (by omega) w1 (by omega) (by omega)
      simp only [List.map_cons, List.map_nil] at f2
      refine ⟨[.p w1.d, .v (.int b), .u, .v (.int (0 + j)), .u, .u, .u, .u], [.p w2.d, .v (.int b), .u, .v (.int (0 + j)), .u, .u, .u, .u], decide (0 < x), by simp, by simp [f2], fun _ => ⟨l, w2, rfl, by simp, e3, by omega, by omega, fun k hk => ?_⟩,
        fun _ => ⟨.int (0 + j), [.p w2.d, .v (.int b), .u, .v (.int (0 + j)), .u, .u, .u, .u], by simp, l ++ [(j : Int)], w2, by simp, by simp, ?_, by omega, by omega, fun k hk => ?_⟩⟩
      · have := e6 k hk; omega
      · rw [List.pairwise_append]
        exact ⟨e3, by simp, fun a ha c hc => by rw [List.mem_singleton.mp hc]; exact (e6 a ha).2⟩
      · rcases List.mem_append.mp hk with hk | hk
        · have := e6 k hk; omega
        · rw [List.mem_singleton.mp hk]; omega)
  rw [rng_len] at hc2 hp
  exact ⟨l, w', e, hl, fun i hi => by have := hp i hi; exact ⟨this.1, by omega⟩, hc1, by omega⟩
theorem erase_map {α β : Type} (f : α → β) : ∀ (l : List α) (i : Nat), (l.map f).eraseIdx i = (l.eraseIdx i).map f
  | [], _ => rfl
  | _ :: _, 0 => rfl
  | x :: l, i + 1 => by simp [List.eraseIdx, erase_map f l i]
theorem pop_get {l : List Int} {i : Int} (h : 0 ≤ i) (h2 : i < l.length) : ∃ k, k ∈ l ∧ ((l.map D.int)[i.toNat]?).map (fun d => (d, (l.map D.int).eraseIdx i.toNat)) = some (.int k, (l.eraseIdx i.toNat).map D.int) := by
  have hlt : i.toNat < l.length := by omega
  refine ⟨l[i.toNat], List.getElem_mem hlt, ?_⟩
  rw [List.getElem?_map, List.getElem?_eq_getElem hlt]
  simp [erase_map]
def popF (ds : List D) (j : D) : Option (D × List D) := match j with
  | .int z => if decide (0 ≤ z) && decide (z ≤ 1000000) then (ds[z.toNat]?).map fun d => (d, ds.eraseIdx z.toNat) else none
  | _ => none
theorem pop_is {l : List Int} {i : Int} (h : 0 ≤ i) (h2 : i < l.length) (h3 : i ≤ 1000000) : ∃ k, k ∈ l ∧ popF (l.map D.int) (.int i) = some (.int k, (l.eraseIdx i.toNat).map D.int) := by
  obtain ⟨k, h4, h5⟩ := pop_get h h2
  refine ⟨k, h4, ?_⟩
  unfold popF
  simp only
  rw [if_pos (by simp; omega), h5]
@[simp] theorem ev_popO {i : Nat} {fe : EM D} {ρ : Ro} : popO i fe ρ = (ownL i ρ).bind fun _ ρ1 => (fe ρ1).bind fun j ρ2 => (ownL i ρ2).bind fun ds ρ3 => (liftO (popF ds j) ρ3).bind fun p ρ4 => .ok p.1 (putO i (.lst p.2) ρ4) := rfl
def tabRo (w : Bag) (b : Int) (od : D) (nw : List Int) (l : List (Int × Int)) (x y : Sl) : Ro := [.p w.d, .v (.int b), .v od, .u, .o (.lst (nw.map .int)), .o (.lst (l.map prD)), x, y]
theorem tab_step (b : Int) (hb : 0 < b) (hb2 : b < 1000) (w : Bag) (od : D) (nw : List Int) (l : List (Int × Int)) (x y : Sl) (hx : free x) (hy : free y) (h3 : 0 ≤ w.c) (h4 : w.c + 2 ≤ 2 ^ 62) (hnw : ∀ k ∈ nw, okI b k) (hnl : nw.length ≤ 1000) (hl : l.length ≤ 1000) (k : Int) :
    ∃ (ρ1 : Ro) (w' : Bag) (nw' : List Int) (v : Int), setT 6 (.int k) (tabRo w b od nw l x y) = some ρ1 ∧
      (seqS (asgS (ifE (andT (testE (bin2 gtD (callE m__law_take (argS 0 (argV (retE (.int 6)) (retE [])))) (retE (.int 0)))) (testE (neO 4))) (popO 4 (callE m__law_take (argS 0 (argV (lenO 4) (retE []))))) (callE m__law_take (argS 0 (argV (varE 1) (retE []))))) (setT 7)) (appS 5 (tupE (consE (varE 6) (consE (varE 7) (retE [])))))) ρ1 =
        .ok .nx (tabRo w' b od nw' (l ++ [(k, v)]) (.v (.int k)) (.v (.int v))) ∧ okI b v ∧ (∀ k ∈ nw', okI b k) ∧ nw'.length ≤ nw.length ∧ w.c ≤ w'.c ∧ w'.c ≤ w.c + 2 := by
  have hs : setT 6 (.int k) (tabRo w b od nw l x y) = some (tabRo w b od nw l (.v (.int k)) y) := by
    rcases hx with rfl | ⟨_, rfl⟩ <;> simp [tabRo]
  obtain ⟨_, w1, f2, ⟨t, rfl, t1, t2⟩, f3, f4⟩ := take_ok 6 (by omega) (by omega) w (by omega) (by omega)
  simp only [List.map_cons, List.map_nil] at f2
  by_cases hc : 0 < t ∧ nw ≠ []
  · obtain ⟨c1, c2⟩ := hc
    have hne : nw.isEmpty = false := by cases nw with | nil => exact absurd rfl c2 | cons _ _ => rfl
    have hlen : 0 < nw.length := List.length_pos_iff.mpr c2
    obtain ⟨_, w2, g2, ⟨u, rfl, u1, u2⟩, g3, g4⟩ := take_ok nw.length (by omega) (by omega) w1 (by omega) (by omega)
    simp only [List.map_cons, List.map_nil] at g2
    obtain ⟨v, hv, ev⟩ := pop_is u1 u2 (by omega)
    refine ⟨_, w2, nw.eraseIdx u.toNat, v, hs, ?_, hnw v hv, fun k hk => hnw k (List.mem_of_mem_eraseIdx hk), List.length_eraseIdx_le .., by omega, by omega⟩
    have l2 : l.length ≤ 1000000 := by omega
    rcases hy with rfl | ⟨_, rfl⟩ <;> simp [tabRo, f2, c1, ne_nil, hne, g2, ev, prD, l2]
  · obtain ⟨_, w2, g2, ⟨v, rfl, v1, v2⟩, g3, g4⟩ := take_ok b (by omega) (by omega) w1 (by omega) (by omega)
    simp only [List.map_cons, List.map_nil] at g2
    refine ⟨_, w2, nw, v, hs, ?_, ⟨v1, v2⟩, hnw, Nat.le_refl _, by omega, by omega⟩
    have l2 : l.length ≤ 1000000 := by omega
    by_cases c1 : 0 < t
    · have hne : nw = [] := by
        by_cases e : nw = []
        · exact e
        · exact absurd ⟨c1, e⟩ hc
      subst hne
      have hn0 : neD (.lst []) (.lst []) = some (.bl false) := rfl
      rcases hy with rfl | ⟨_, rfl⟩ <;> simp [tabRo, f2, c1, hn0, g2, prD, l2]
    · rcases hy with rfl | ⟨_, rfl⟩ <;> simp [tabRo, f2, c1, g2, prD, l2]
def okTab (b : Int) (l : List (Int × Int)) : Prop := l ≠ [] ∧ incr l ∧ ∀ p ∈ l, inB b p


inductive Stm where
  | one (p : Str) (a b : Int)
  | all (p : Str) (t : List (Int × Int))
  | each (p : Str) (t : List (Int × Int))
  | add (p : Str) (n : Int) (y : Str)
def Stm.d : Stm → D
  | .one p a b => .tup [.str "one", .str p, .int a, .int b]
  | .all p t => .tup [.str "all", .str p, prsD t]
  | .each p t => .tup [.str "each", .str p, prsD t]
  | .add p n y => .tup [.str "add", .str p, .int n, .str y]
def Stm.p : Stm → Str
  | .one p _ _ => p
  | .all p _ => p
  | .each p _ => p
  | .add p _ _ => p
def place (p : Str) : Prop := p = "rows" ∨ p = "refs"
def Stm.ok (b : Int) : Stm → Prop
  | .one p x y => place p ∧ okI b x ∧ okI b y
  | .all p t => place p ∧ okTab b t
  | .each p t => place p ∧ 1 ≤ t.length ∧ t.length ≤ 6 ∧ ∀ q ∈ t, inB b q
  | .add p n y => place p ∧ -4 ≤ n ∧ n ≤ 4 ∧ n ≠ 0 ∧ (y = "up" ∨ y = "down")
def scD (l : List Stm) : D := .tup (l.map Stm.d)
@[simp] theorem op_slt {ds : List D} {lo hi : Option Int} : slD (.tup ds) lo hi = some (.tup (cutD ds lo hi)) := rfl
theorem cut_head {x : D} {xs : List D} : cutD (x :: xs) none (some 1) = [x] := by
  unfold cutD HT.sIx
  simp
theorem cut_two {x y : D} {xs : List D} : cutD (x :: y :: xs) (some 2) none = xs := by
  unfold cutD HT.sIx
  simp
/-- the twin on the pointers -/
def Stm.refs : Stm → Stm
  | .one _ a b => .one "refs" a b
  | .all _ t => .all "refs" t
  | .each _ t => .each "refs" t
  | .add _ n y => .add "refs" n y
def Stm.back : Stm → Stm
  | .each _ t => .each "refs" t.reverse
  | s => s.refs
theorem refs_ok {b : Int} {s : Stm} (h : s.ok b) : s.refs.ok b ∧ s.refs.p = "refs" := by
  cases s with
  | one p x y => exact ⟨⟨.inr rfl, h.2⟩, rfl⟩
  | all p t => exact ⟨⟨.inr rfl, h.2⟩, rfl⟩
  | each p t => exact ⟨⟨.inr rfl, h.2⟩, rfl⟩
  | add p n y => exact ⟨⟨.inr rfl, h.2⟩, rfl⟩
theorem back_ok {b : Int} {s : Stm} (h : s.ok b) : s.back.ok b ∧ s.back.p = "refs" := by
  cases s with
  | one p x y => exact ⟨⟨.inr rfl, h.2⟩, rfl⟩
  | all p t => exact ⟨⟨.inr rfl, h.2⟩, rfl⟩
  | each p t =>
    obtain ⟨_, h1, h2, h3⟩ := h
    exact ⟨⟨.inr rfl, by rw [List.length_reverse]; exact h1, by rw [List.length_reverse]; exact h2, fun q hq => h3 q (List.mem_reverse.mp hq)⟩, rfl⟩
  | add p n y => exact ⟨⟨.inr rfl, h.2⟩, rfl⟩
theorem eq1 : eqD (.str "one") (.str "each") = some (.bl false) := by kernel_rfl
theorem eq2 : eqD (.str "all") (.str "each") = some (.bl false) := by kernel_rfl
theorem eq3 : eqD (.str "each") (.str "each") = some (.bl true) := by kernel_rfl
theorem eq4 : eqD (.str "add") (.str "each") = some (.bl false) := by kernel_rfl
theorem cut_map {α : Type} (f : α → D) (l : List α) (lo hi : Option Int) : ∃ m : List α, cutD (l.map f) lo hi = m.map f ∧ (∀ x ∈ m, x ∈ l) ∧ m.length ≤ l.length := by
  unfold cutD
  refine ⟨(l.drop (HT.sIx (l.map f).length 0 lo)).take (HT.sIx (l.map f).length (l.map f).length hi - HT.sIx (l.map f).length 0 lo), by rw [List.map_take, List.map_drop], fun x hx => List.mem_of_mem_drop (List.mem_of_mem_take hx), ?_⟩
  rw [List.length_take, List.length_drop]
  omega
theorem cut_parts {α : Type} (f : α → D) (l : List α) (i : Int) (h : 0 ≤ i) (h2 : i ≤ l.length) : ∃ m k : List α, cutD (l.map f) none (some i) = m.map f ∧ cutD (l.map f) (some (i + 1)) none = k.map f ∧ (∀ x ∈ m, x ∈ l) ∧ (∀ x ∈ k, x ∈ l) ∧ m.length + k.length ≤ l.length := by
  unfold cutD HT.sIx
  simp only [List.length_map]
  rw [if_neg (by omega), if_neg (by omega)]
  refine ⟨(l.drop 0).take (min i.toNat l.length - 0), (l.drop (min (i + 1).toNat l.length)).take (l.length - min (i + 1).toNat l.length), by rw [List.map_take, List.map_drop], by rw [List.map_take, List.map_drop], fun x hx => List.mem_of_mem_drop (List.mem_of_mem_take hx), fun x hx => List.mem_of_mem_drop (List.mem_of_mem_take hx), ?_⟩
  rw [List.length_take, List.length_drop, List.length_take, List.length_drop]
  omega
def okSc (b : Int) (n : Int) (l : List Stm) : Prop := (l.length : Int) ≤ n ∧ ∀ s ∈ l, s.ok b


def wellB (c t : Int) : Bag := ⟨if 10 ^ 18 ≤ c then c - 10 ^ 18 else 0, c % p61, t⟩
theorem well_is (c t : Int) : m__law_well [.v (.int c), .v (.int t)] = .ok (wellB c t).d [.v (.int c), .v (.int t)] := by
  unfold m__law_well b__law_well
  have pw : powD (.int 10) (.int 18) = some (.int (10 ^ 18)) := rfl
  have md : modD (.int c) (.int 2305843009213693951) = some (.int (c % p61)) := rfl
  by_cases h : (10 : Int) ^ 18 ≤ c
  · simp only [Int.reducePow] at h pw
    simp [pw, md, h, wellB, Bag.d]
  · simp only [Int.reducePow] at h pw
    simp [pw, md, h, wellB, Bag.d]
theorem enum_get {es : List D} {j : Nat} {d : D} (h : (enumD es)[j]? = some d) : ∃ e, es[j]? = some e ∧ d = .prt [.int (j : Nat), e] := by
  unfold enumD at h
  rw [List.getElem?_map, List.getElem?_zipIdx] at h
  cases e : es[j]? with
  | none => rw [e] at h; cases h
  | some x => rw [e] at h; cases h; exact ⟨x, rfl, by simp⟩
@[simp] theorem ev_enumA {fa : EM (List D)} {ρ : Ro} : enumA fa ρ = (fa ρ).bind fun ds ρ1 => liftO (match ds with | [.lst es] => some (enumD es) | [.tup es] => some (enumD es) | _ => none) ρ1 := rfl
@[simp] theorem op_sls {ns : List Int} {lo hi : Option Int} : slD (.scr ns) lo hi = some (.lst (cutD (ns.map .int) lo hi)) := rfl
@[simp] theorem ev_tupT {n : Nat} {g : List D → Ro → Option Ro} {ds : List D} {ρ : Ro} : tupT n g (.tup ds) ρ = if ds.length = n then g ds ρ else none := rfl
@[simp] theorem ev_tupTp {n : Nat} {g : List D → Ro → Option Ro} {ds : List D} {ρ : Ro} : tupT n g (.prt ds) ρ = if ds.length = n then g ds ρ else none := rfl
@[simp] theorem ev_consT {f : D → Ro → Option Ro} {g : List D → Ro → Option Ro} {d : D} {ds : List D} {ρ : Ro} : consT f g (d :: ds) ρ = (f d ρ).bind (g ds) := rfl
@[simp] theorem ev_nilT {ρ : Ro} : nilT [] ρ = some ρ := rfl
theorem bags_is (ns : List Int) (M : Int) (h0 : 0 ≤ M) (h1 : M ≤ 62) (hn : ns.length ≤ 63) : ∃ ws : List Bag, m__law_bags [.v (.scr ns), .v (.int M)] = .ok (.lst (ws.map Bag.d)) [.v (.scr ns), .v (.int M)] ∧
    (∀ (i j : Nat) (w u : Bag), ws[i]? = some w → ws[j]? = some u → w.c = u.c → i = j) ∧ ∀ w ∈ ws, w.ok := by
  obtain ⟨m, hm, hm2, hm3⟩ := cut_map D.int ns none (some M)
  have hm4 : m.length ≤ 62 := by
    have := congrArg List.length hm
    unfold cutD HT.sIx at this
    rw [List.length_map, List.length_take, List.length_drop] at this
    simp only [List.length_map] at this
    rw [if_neg (by omega)] at this
    omega
  obtain ⟨out, ρ', e, ws, rfl, rfl, hl, hw⟩ := lcE_inv (vs := [2, 3]) (fi := enumA (consE (bin2 addD (slE (varE 0) (retE none) (partE (varE 1))) (lstE (consE (retE (.int 0)) (retE [])))) (retE []))) (g := tupT 2 (consT (setT 2) (consT (setT 3) nilT))) (ft := yesT) (fe := callE m__law_well (argV (varE 3) (argV (bin2 mulD (retE (.int 977)) (varE 2)) (retE []))))
    (ρ0 := [.v (.scr ns), .v (.int M), .u, .u]) (ρ := [.v (.scr ns), .v (.int M), .u, .u]) (ds := enumD ((m ++ [0]).map .int))
    (fun i acc ρ => ∃ ws : List Bag, acc = ws.map Bag.d ∧ ρ = [.v (.scr ns), .v (.int M), .u, .u] ∧ ws.length = i ∧ ∀ (j : Nat) (w : Bag), ws[j]? = some w → ∃ c, w = wellB c (977 * (j : Nat)))
    (by have b1 : m.length ≤ 999999 := by omega
        simp [hm, b1]) (by simp) (by unfold enumD; simp; omega) ⟨[], rfl, rfl, rfl, fun j w h => by simp at h⟩ (fun j d acc ρ hj ⟨ws, e1, e2, q1, q2⟩ => by
      subst e1 e2
      obtain ⟨x, hx, rfl⟩ := enum_get hj
      rw [List.getElem?_map] at hx
      obtain ⟨c, hc, rfl⟩ := map_inv hx
      have mk : mulOk 977 (j : Nat) = true := by unfold mulOk; simp
      refine ⟨[.v (.scr ns), .v (.int M), .v (.int (j : Nat)), .v (.int c)], [.v (.scr ns), .v (.int M), .v (.int (j : Nat)), .v (.int c)], true, by simp, by simp, by simp, fun _ => ⟨(wellB c (977 * (j : Nat))).d, [.v (.scr ns), .v (.int M), .v (.int (j : Nat)), .v (.int c)], by simp [mulD, mk, well_is], ws ++ [wellB c (977 * (j : Nat))], by simp, by simp, by simp [q1], fun i w hi => ?_⟩⟩
      rw [List.getElem?_append] at hi
      split at hi
      · exact q2 i w hi
      · rename_i hge
        rw [List.getElem?_singleton] at hi
        split at hi
        · rename_i hz
          cases hi
          have : i = j := by omega
          subst this
          exact ⟨c, rfl⟩
        · cases hi)
  have hlen : ws.length ≤ 63 := by
    rw [hl]; unfold enumD; simp; omega
  refine ⟨ws, ?_, fun i j w u hi hj hc => ?_, fun w hwm => ?_⟩
  · unfold m__law_bags b__law_bags
    simp
    rw [e]
    simp
  · obtain ⟨c, rfl⟩ := hw i w hi
    obtain ⟨c', rfl⟩ := hw j u hj
    unfold wellB at hc
    simp at hc
    omega
  · obtain ⟨i, hi⟩ := List.mem_iff_getElem?.mp hwm
    obtain ⟨c, rfl⟩ := hw i w hi
    have hi' := (List.getElem?_eq_some_iff.mp hi).1
    unfold Bag.ok wellB p61
    refine ⟨?_, ?_, ?_, ?_, ?_⟩
    · simp only
      split <;> omega
    · exact Int.emod_nonneg _ (by decide)
    · exact Int.emod_lt_of_pos _ (by decide)
    · simp only; omega
    · simp only; omega

end DL

/-! Plain maths: what is a statement, a script (printed by split.py). -/
namespace DL
open PySem L2


/-- good data: not deep, not long -/
def Gd : Nat → D → Prop
  | _, .non => True
  | _, .bl _ => True
  | _, .int _ => True
  | _, .str s => PyData.canLay0 (.str s) = true
  | n + 1, .tup ds => ds.length ≤ 40 ∧ ∀ x ∈ ds, Gd n x
  | n + 1, .lst ds => ds.length ≤ 40 ∧ ∀ x ∈ ds, Gd n x
  | _, _ => False
theorem Gd.up : ∀ {n : Nat} {d : D}, Gd n d → Gd (n + 1) d
  | n, d, h => by
    induction n generalizing d with
    | zero => cases d <;> simp [Gd] at h ⊢ <;> assumption
    | succ n ih =>
      cases d <;> simp only [Gd] at h ⊢ <;> first | exact h | exact ⟨h.1, fun x hx => ih x (h.2 x hx)⟩
theorem Gd.toP : ∀ {n : Nat} {d : D}, Gd n d → ∃ p, toP d = some p ∧ p.canLay0 = true ∧ p.depth ≤ n
  | n, .non, _ => ⟨_, rfl, rfl, Nat.zero_le _⟩
  | n, .bl b, _ => ⟨_, rfl, rfl, Nat.zero_le _⟩
  | n, .int b, _ => ⟨_, rfl, rfl, Nat.zero_le _⟩
  | n, .str s, h => ⟨.str s, rfl, by simpa [Gd] using h, Nat.zero_le _⟩
  | 0, .tup ds, h => by simp [Gd] at h
  | 0, .lst ds, h => by simp [Gd] at h
  | n + 1, .tup ds, h => by
    simp only [Gd] at h
    have : ∀ l : List D, (∀ x ∈ l, Gd n x) → ∃ ps, toPs l = some ps ∧ PyData.canLayAll0 ps = true ∧ PyData.depthAll ps ≤ n := by
      intro l
      induction l with
      | nil => intro _; exact ⟨[], rfl, rfl, Nat.zero_le _⟩
      | cons x l ih =>
        intro h
        obtain ⟨p, h1, h2, h3⟩ := Gd.toP (h x List.mem_cons_self)
        obtain ⟨ps, h4, h5, h6⟩ := ih fun y hy => h y (List.mem_cons_of_mem _ hy)
        exact ⟨p :: ps, by rw [toPs, h1, h4], by rw [PyData.canLayAll0, h2, h5]; rfl, by rw [PyData.depthAll]; omega⟩
    obtain ⟨ps, h4, h5, h6⟩ := this ds h.2
    exact ⟨.tuple ps, by rw [DL.toP, h4]; rfl, by rw [PyData.canLay0]; exact h5, by rw [PyData.depth]; omega⟩
  | n + 1, .lst ds, h => by
    simp only [Gd] at h
    have : ∀ l : List D, (∀ x ∈ l, Gd n x) → ∃ ps, toPs l = some ps ∧ PyData.canLayAll0 ps = true ∧ PyData.depthAll ps ≤ n := by
      intro l
      induction l with
      | nil => intro _; exact ⟨[], rfl, rfl, Nat.zero_le _⟩
      | cons x l ih =>
        intro h
        obtain ⟨p, h1, h2, h3⟩ := Gd.toP (h x List.mem_cons_self)
        obtain ⟨ps, h4, h5, h6⟩ := ih fun y hy => h y (List.mem_cons_of_mem _ hy)
        exact ⟨p :: ps, by rw [toPs, h1, h4], by rw [PyData.canLayAll0, h2, h5]; rfl, by rw [PyData.depthAll]; omega⟩
    obtain ⟨ps, h4, h5, h6⟩ := this ds h.2
    exact ⟨.list ps, by rw [DL.toP, h4]; rfl, by rw [PyData.canLay0]; exact h5, by rw [PyData.depth]; omega⟩
  | n, .ref _, h => by cases n <;> simp [Gd] at h
  | n, .ty _, h => by cases n <;> simp [Gd] at h
  | n, .dct _, h => by cases n <;> simp [Gd] at h
  | n, .dcn _, h => by cases n <;> simp [Gd] at h
  | n, .ins _ _, h => by cases n <;> simp [Gd] at h
  | n, .scr _, h => by cases n <;> simp [Gd] at h
  | n, .prt _, h => by cases n <;> simp [Gd] at h
theorem Gd.shaped {n : Nat} {d : D} (h : Gd n d) (hn : n ≤ 60) : ∃ p, DL.toP d = some p ∧ PySem.SeqAt.shaped p = true := by
  obtain ⟨p, h1, h2, h3⟩ := h.toP
  exact ⟨p, h1, by unfold PySem.SeqAt.shaped; rw [h2, decide_eq_true (by omega)]; rfl⟩
theorem Gd.eq {n m : Nat} {d e : D} (h : Gd n d) (hn : n ≤ 60) (h' : Gd m e) (hm : m ≤ 60) : ∃ b, eqD d e = some (.bl b) ∧ neD d e = some (.bl (!b)) := by
  obtain ⟨p, h1, h2⟩ := h.shaped hn
  obtain ⟨q, h3, h4⟩ := h'.shaped hm
  refine ⟨PyData.eqv p q, ?_, ?_⟩
  · unfold eqD eqvD; rw [h1, h3]; simp only [h2, h4]; rfl
  · unfold neD eqvD; rw [h1, h3]; simp only [h2, h4]; rfl
/-- a list beside the empty one -/
theorem Gd.nil {n : Nat} {ds : List D} (h : Gd n (.lst ds)) (hn : n ≤ 60) : eqD (.lst ds) (.lst []) = some (.bl ds.isEmpty) ∧ neD (.lst ds) (.lst []) = some (.bl (!ds.isEmpty)) := by
  obtain ⟨p, h1, h2⟩ := h.shaped hn
  have e : PyData.eqv p (.list []) = ds.isEmpty := by
    cases ds with
    | nil => cases h1; rfl
    | cons x xs =>
      rw [DL.toP] at h1
      obtain ⟨ps, h3, rfl⟩ := map_inv h1
      rw [toPs] at h3
      cases e1 : DL.toP x with
      | none => rw [e1] at h3; cases h3
      | some p =>
        cases e2 : toPs xs with
        | none => rw [e1, e2] at h3; cases h3
        | some qs => rw [e1, e2] at h3; cases h3; rfl
  constructor
  · unfold eqD eqvD; rw [h1, show DL.toP (.lst []) = some (.list []) from rfl]; simp only [h2, show PySem.SeqAt.shaped (.list []) = true from rfl, e]; rfl
  · unfold neD eqvD; rw [h1, show DL.toP (.lst []) = some (.list []) from rfl]; simp only [h2, show PySem.SeqAt.shaped (.list []) = true from rfl, e]; rfl
/-- what a value is -/
def isTup : D → Bool
  | .tup _ => true
  | _ => false
def isStr : D → Bool
  | .str _ => true
  | _ => false
def isInt : D → Bool
  | .int _ => true
  | .bl _ => true
  | _ => false
def isBool : D → Bool
  | .bl _ => true
  | _ => false
theorem isi_tup {n : Nat} {d : D} (h : Gd n d) : isiF [d, .ty "tuple"] = some (.bl (isTup d)) := by cases d <;> first | rfl | (cases n <;> simp [Gd] at h)
theorem isi_str {n : Nat} {d : D} (h : Gd n d) : isiF [d, .ty "str"] = some (.bl (isStr d)) := by cases d <;> first | rfl | (cases n <;> simp [Gd] at h)
theorem isi_int {n : Nat} {d : D} (h : Gd n d) : isiF [d, .ty "int"] = some (.bl (isInt d)) := by cases d <;> first | rfl | (cases n <;> simp [Gd] at h)
theorem isi_bool {n : Nat} {d : D} (h : Gd n d) : isiF [d, .ty "bool"] = some (.bl (isBool d)) := by cases d <;> first | rfl | (cases n <;> simp [Gd] at h)
/-- a whole number between -/
def inI (d : D) (lo hi : Int) : Bool := match d with
  | .int i => decide (lo ≤ i) && decide (i ≤ hi)
  | _ => false
theorem within_is {n : Nat} {d : D} (h : Gd n d) (lo hi : Int) : m_is_within [.v d, .v (.int lo), .v (.int hi)] = .ok (.bl (inI d lo hi)) [.v d, .v (.int lo), .v (.int hi)] := by
  unfold m_is_within b_is_within
  have h1 := isi_int h
  have h2 := isi_bool h
  cases d <;> (try (simp [h1, h2, isInt, isBool, inI]; done))
  case int i => by_cases q : lo ≤ i <;> simp [h1, h2, isInt, isBool, inI, q]
/-- a word among some -/
def wd (d : D) (ss : List Str) : Bool := match d with
  | .str s => ss.any fun t => t == s
  | _ => false
theorem in_strs (s : Str) (ss : List Str) : memF (.str s) (ss.map .str) = ss.any fun t => t == s := by
  unfold memF
  rw [List.any_map]
  rfl
theorem flat_strs (ss : List Str) : (ss.map D.str).all flatD = true := by simp [flatD]


theorem Gd.kids {n : Nat} {ds : List D} (h : Gd n (.tup ds)) : ds.length ≤ 40 ∧ ∀ x ∈ ds, Gd n x := by
  cases n with
  | zero => simp [Gd] at h
  | succ n =>
    simp only [Gd] at h
    exact ⟨h.1, fun x hx => (h.2 x hx).up⟩
theorem bls_map (f : D → Bool) : ∀ ds : List D, blsD (ds.map fun x => .bl (f x)) = some (ds.map f)
  | [] => rfl
  | d :: ds => by rw [List.map_cons, blsD, bls_map f ds]; rfl
theorem all_map (f : D → Bool) (ds : List D) : allF [.lst (ds.map fun x => .bl (f x))] = some (.bl (ds.all f)) := by
  unfold allF
  simp only [bls_map]
  simp
def pairB (b : Int) (d : D) : Bool := match d with
  | .tup ds => ds.length == 2 && ds.all fun x => inI x 0 (b - 1)
  | _ => false
theorem pairB_inv {b : Int} {d : D} (h : pairB b d = true) : ∃ p : Int × Int, d = prD p ∧ inB b p := by
  match d, h with
  | .tup [x, y], h =>
    simp [pairB] at h
    obtain ⟨h1, h2⟩ := h
    cases x <;> simp [inI] at h1
    cases y <;> simp [inI] at h2
    rename_i i j
    exact ⟨(i, j), rfl, h1.1, by omega, h2.1, by omega⟩
  | .tup [], h => simp [pairB] at h
  | .tup [_], h => simp [pairB] at h
  | .tup (_ :: _ :: _ :: _), h => simp [pairB] at h
theorem pairB_pr {b : Int} {p : Int × Int} (h : inB b p) : pairB b (prD p) = true := by
  obtain ⟨h1, h2, h3, h4⟩ := h
  simp [pairB, prD, inI]
  omega
theorem pairs_inv {b : Int} : ∀ {ds : List D}, ds.all (pairB b) = true → ∃ l : List (Int × Int), ds = l.map prD ∧ ∀ p ∈ l, inB b p
  | [], _ => ⟨[], rfl, by simp⟩
  | d :: ds, h => by
    rw [List.all_cons, Bool.and_eq_true] at h
    obtain ⟨p, rfl, hp⟩ := pairB_inv h.1
    obtain ⟨l, rfl, hl⟩ := pairs_inv h.2
    exact ⟨p :: l, rfl, fun q hq => by
      rcases List.mem_cons.mp hq with e | hq
      · exact e ▸ hp
      · exact hl q hq⟩
theorem is_pair_is {n : Nat} {d : D} (h : Gd n d) (b : Int) : m_is_pair [.v (.int b), .v d] = .ok (.bl (pairB b d)) [.v (.int b), .v d] := by
  unfold m_is_pair b_is_pair
  have h1 := isi_tup h
  cases d <;> (try (simp [h1, isTup, pairB]; done))
  case tup ds =>
    obtain ⟨h2, h3⟩ := h.kids
    have e := lcE_map (vs := [2]) (fi := seqI (varE 1)) (g := setT 2) (ft := yesT) (fe := callE m_is_within (argV (varE 2) (argV (retE (.int 0)) (argV (bin2 subD (varE 0) (retE (.int 1))) (retE [])))))
      (ρ := [.v (.int b), .v (.tup ds), .u]) (ds := ds) (fun x => .bl (inI x 0 (b - 1))) (by simp) (by simp) (by omega) (fun x hx => ⟨[.v (.int b), .v (.tup ds), .v x], [.v (.int b), .v (.tup ds), .v x], [.v (.int b), .v (.tup ds), .v x], by simp, by simp, by simp [within_is (h3 x hx)], by simp⟩)
    by_cases q : ds.length = 2
    · simp [h1, isTup, pairB, q, e, all_map]
    · have q2 : ¬ ((ds.length : Int) = 2) := by omega
      simp [h1, isTup, pairB, q, q2]
/-! ### rising -/
def risesB (l : List Int) : Bool := (l.zip (l.drop 1)).all fun p => decide (p.1 < p.2)
theorem risesB_iff : ∀ l : List Int, risesB l = true ↔ l.Pairwise (· < ·)
  | [] => by simp [risesB]
  | [x] => by simp [risesB]
  | x :: y :: l => by
    have ih := risesB_iff (y :: l)
    have e : risesB (x :: y :: l) = (decide (x < y) && risesB (y :: l)) := by simp [risesB]
    rw [e, Bool.and_eq_true, ih, decide_eq_true_eq, List.pairwise_cons (a := x)]
    constructor
    · rintro ⟨h1, h2⟩
      refine ⟨fun z hz => ?_, h2⟩
      rcases List.mem_cons.mp hz with rfl | hz
      · exact h1
      · exact Int.lt_trans h1 ((List.pairwise_cons.mp h2).1 z hz)
    · rintro ⟨h1, h2⟩
      exact ⟨h1 y List.mem_cons_self, h2⟩
theorem cut_tail (xs : List D) : cutD xs (some 1) none = xs.drop 1 := by
  unfold cutD HT.sIx
  simp only
  rw [if_neg (by omega)]
  rcases Nat.eq_zero_or_pos xs.length with h | h
  · rw [List.eq_nil_of_length_eq_zero h]; rfl
  · rw [show min (1 : Int).toNat xs.length = 1 by simp; omega, List.take_of_length_le (by simp)]
theorem zip_ints (l m : List Int) : zipD (l.map .int) (m.map .int) = (l.zip m).map fun p => .prt [.int p.1, .int p.2] := by
  unfold zipD
  rw [List.zip_map, List.map_map]
  rfl
@[simp] theorem ev_zipI {fa : EM (List D)} {ρ : Ro} : zipI fa ρ = (fa ρ).bind fun ds ρ1 => liftO (match ds with | [.lst xs, .lst ys] => some (zipD xs ys) | [.tup xs, .tup ys] => some (zipD xs ys) | _ => none) ρ1 := rfl
@[simp] theorem op_sll {ds : List D} {lo hi : Option Int} : slD (.lst ds) lo hi = some (.lst (cutD ds lo hi)) := rfl
theorem rises_is (l : List Int) (s : D) (hs : s = .lst (l.map .int) ∨ s = .tup (l.map .int)) (hl : l.length ≤ 1000) : m_rises [.v s] = .ok (.bl (risesB l)) [.v s] := by
  unfold m_rises b_rises
  have hz : zipD (l.map .int) ((l.map .int).drop 1) = (l.zip (l.drop 1)).map fun p => .prt [.int p.1, .int p.2] := by rw [← List.map_drop, zip_ints]
  have e := lcE_map (vs := [1, 2]) (fi := zipI (consE (varE 0) (consE (slE (varE 0) (partE (retE (.int 1))) (retE none)) (retE [])))) (g := tupT 2 (consT (setT 1) (consT (setT 2) nilT))) (ft := yesT) (fe := bin2 ltD (varE 1) (varE 2))
    (ρ := [.v s, .u, .u]) (ds := (l.zip (l.drop 1)).map fun p => .prt [.int p.1, .int p.2]) (fun d => match d with | .prt [.int x, .int y] => .bl (decide (x < y)) | _ => .non)
    (by
      have hz2 : zipD (l.map D.int) (l.map D.int).tail = (l.zip l.tail).map (fun p => D.prt [.int p.1, .int p.2]) := by simpa using hz
      rcases hs with rfl | rfl <;> simp [cut_tail, hz2]) (by simp) (by simp; omega) (fun d hd => by
      obtain ⟨p, _, rfl⟩ := List.mem_map.mp hd
      exact ⟨[.v s, .v (.int p.1), .v (.int p.2)], [.v s, .v (.int p.1), .v (.int p.2)], [.v s, .v (.int p.1), .v (.int p.2)], by simp, by simp, by simp, by simp⟩)
  have ha : allF [.lst (((l.zip (l.drop 1)).map fun p => D.prt [.int p.1, .int p.2]).map fun d => match d with | .prt [.int x, .int y] => .bl (decide (x < y)) | _ => .non)] = some (.bl (risesB l)) := by
    rw [List.map_map]
    have := all_map (fun d => match d with | .prt [.int x, .int y] => decide (x < y) | _ => false) ((l.zip (l.drop 1)).map fun p => D.prt [.int p.1, .int p.2])
    rw [List.map_map, List.all_map] at this
    exact this
  simp
  rw [e]
  simp only [ev_okb, ev_lift1]
  rw [ha]
  simp
/-- how many of rising numbers below a bound -/
theorem rise_len : ∀ (l : List Int) (m b : Int), l.Pairwise (· < ·) → (∀ i ∈ l, m ≤ i ∧ i < b) → (l.length : Int) ≤ max 0 (b - m)
  | [], m, b, _, _ => by simp; omega
  | x :: l, m, b, h1, h2 => by
    have q := List.pairwise_cons.mp h1
    have hx := h2 x List.mem_cons_self
    have := rise_len l (x + 1) b q.2 fun i hi => ⟨by have := q.1 i hi; omega, (h2 i (List.mem_cons_of_mem _ hi)).2⟩
    rw [List.length_cons]
    omega
/-! ### tables and rows of pairs -/
def fst0 (d : D) : Int := match d with
  | .tup (.int i :: _) => i
  | _ => 0
theorem fst_pr (l : List (Int × Int)) : (l.map prD).map fst0 = l.map (·.1) := by rw [List.map_map]; rfl
def prsB (b : Int) (d : D) : Bool := match d with
  | .tup ds => decide (1 ≤ ds.length) && decide (ds.length ≤ 6) && ds.all (pairB b)
  | _ => false
def tabB (b : Int) (d : D) : Bool := match d with
  | .tup ds => decide (1 ≤ ds.length) && decide ((ds.length : Int) ≤ b) && ds.all (pairB b) && risesB (ds.map fst0)
  | _ => false
theorem lc_pairs {n : Nat} {ds : List D} (h : Gd n (.tup ds)) (b : Int) : lcE [2] (seqI (varE 1)) (setT 2) yesT (callE m_is_pair (argV (varE 0) (argV (varE 2) (retE [])))) [.v (.int b), .v (.tup ds), .u] = .ok (.lst (ds.map fun x => .bl (pairB b x))) [.v (.int b), .v (.tup ds), .u] := by
  obtain ⟨h2, h3⟩ := h.kids
  exact lcE_map (ρ := [.v (.int b), .v (.tup ds), .u]) (ds := ds) (fun x => .bl (pairB b x)) (by simp) (by simp) (by omega) (fun x hx => ⟨[.v (.int b), .v (.tup ds), .v x], [.v (.int b), .v (.tup ds), .v x], [.v (.int b), .v (.tup ds), .v x], by simp, by simp, by simp [is_pair_is (h3 x hx)], by simp⟩)
theorem lc_firsts (l : List (Int × Int)) (b : Int) (hl : l.length ≤ 1000) : lcE [2] (seqI (varE 1)) (setT 2) yesT (bin2 ixD (varE 2) (retE (.int 0))) [.v (.int b), .v (prsD l), .u] = .ok (.lst ((l.map (·.1)).map .int)) [.v (.int b), .v (prsD l), .u] := by
  have := lcE_map (vs := [2]) (fi := seqI (varE 1)) (g := setT 2) (ft := yesT) (fe := bin2 ixD (varE 2) (retE (.int 0))) (ρ := [.v (.int b), .v (prsD l), .u]) (ds := l.map prD) (fun d => .int (fst0 d)) (by simp [prsD]) (by simp) (by simp; omega) (fun x hx => by
    obtain ⟨p, _, rfl⟩ := List.mem_map.mp hx
    exact ⟨[.v (.int b), .v (prsD l), .v (prD p)], [.v (.int b), .v (prsD l), .v (prD p)], [.v (.int b), .v (prsD l), .v (prD p)], by simp, by simp, by simp [prD, atI, ixN, fst0], by simp⟩)
  rw [this, List.map_map, List.map_map]
  rfl


@[simp] theorem w_one_one : wd (.str "one") ["one"] = true := by kernel_rfl
@[simp] theorem w_one_add : wd (.str "one") ["add"] = false := by kernel_rfl
@[simp] theorem w_one_all : wd (.str "one") ["all"] = false := by kernel_rfl
@[simp] theorem w_one_each : wd (.str "one") ["each"] = false := by kernel_rfl
@[simp] theorem w_add_one : wd (.str "add") ["one"] = false := by kernel_rfl
@[simp] theorem w_add_add : wd (.str "add") ["add"] = true := by kernel_rfl
@[simp] theorem w_add_all : wd (.str "add") ["all"] = false := by kernel_rfl
@[simp] theorem w_add_each : wd (.str "add") ["each"] = false := by kernel_rfl
@[simp] theorem w_all_one : wd (.str "all") ["one"] = false := by kernel_rfl
@[simp] theorem w_all_add : wd (.str "all") ["add"] = false := by kernel_rfl
@[simp] theorem w_all_all : wd (.str "all") ["all"] = true := by kernel_rfl
@[simp] theorem w_all_each : wd (.str "all") ["each"] = false := by kernel_rfl
@[simp] theorem w_each_one : wd (.str "each") ["one"] = false := by kernel_rfl
@[simp] theorem w_each_add : wd (.str "each") ["add"] = false := by kernel_rfl
@[simp] theorem w_each_all : wd (.str "each") ["all"] = false := by kernel_rfl
@[simp] theorem w_each_each : wd (.str "each") ["each"] = true := by kernel_rfl
theorem wd_one {d : D} {t : Str} (h : wd d [t] = true) : d = .str t := by
  cases d <;> simp [wd] at h
  rw [h]
theorem wd_cons (d : D) (t u : Str) : wd d [t, u] = (wd d [t] || wd d [u]) := by cases d <;> simp [wd]
theorem kcases (k : D) : k = .str "one" ∨ k = .str "add" ∨ k = .str "all" ∨ k = .str "each" ∨ (wd k ["one"] = false ∧ wd k ["add"] = false ∧ wd k ["all"] = false ∧ wd k ["each"] = false) := by
  cases h1 : wd k ["one"] with
  | true => exact .inl (wd_one h1)
  | false =>
    cases h2 : wd k ["add"] with
    | true => exact .inr (.inl (wd_one h2))
    | false =>
      cases h3 : wd k ["all"] with
      | true => exact .inr (.inr (.inl (wd_one h3)))
      | false =>
        cases h4 : wd k ["each"] with
        | true => exact .inr (.inr (.inr (.inl (wd_one h4))))
        | false => exact .inr (.inr (.inr (.inr ⟨rfl, rfl, rfl, rfl⟩)))
def nz (d : D) : Bool := match d with
  | .int i => !(i == 0)
  | _ => false
def stB (b : Int) (d : D) : Bool := match d with
  | .tup [k, p, t] => wd p ["refs", "rows"] && ((wd k ["all"] && tabB b t) || (wd k ["each"] && prsB b t))
  | .tup [k, p, x, y] => wd p ["refs", "rows"] && ((wd k ["one"] && pairB b (.tup [x, y])) || (wd k ["add"] && inI x (-4) 4 && nz x && wd y ["down", "up"]))
  | _ => false


theorem Gd.tnil {n : Nat} {ds : List D} (h : Gd n (.tup ds)) (hn : n ≤ 60) : eqD (.tup ds) (.tup []) = some (.bl ds.isEmpty) := by
  obtain ⟨p, h1, h2⟩ := h.shaped hn
  have e : PyData.eqv p (.tuple []) = ds.isEmpty := by
    cases ds with
    | nil => cases h1; rfl
    | cons x xs =>
      rw [DL.toP] at h1
      obtain ⟨ps, h3, rfl⟩ := map_inv h1
      rw [toPs] at h3
      cases e1 : DL.toP x with
      | none => rw [e1] at h3; cases h3
      | some p =>
        cases e2 : toPs xs with
        | none => rw [e1, e2] at h3; cases h3
        | some qs => rw [e1, e2] at h3; cases h3; rfl
  unfold eqD eqvD; rw [h1, show DL.toP (.tup []) = some (.tuple []) from rfl]; simp only [h2, show PySem.SeqAt.shaped (.tuple []) = true from rfl, e]; rfl
theorem eqv_ints : ∀ l m : List Int, PyData.eqvAll (l.map PyData.int) (m.map PyData.int) = decide (l = m)
  | [], [] => rfl
  | [], _ :: _ => rfl
  | _ :: _, [] => rfl
  | i :: l, j :: m => by
    rw [List.map_cons, List.map_cons, PyData.eqvAll, eqv_ints l m, PyData.eqv]
    by_cases h1 : i = j <;> by_cases h2 : l = m <;> simp [h1, h2]
theorem eq_ints (l m : List Int) : eqD (.lst (l.map .int)) (.lst (m.map .int)) = some (.bl (decide (l = m))) := by
  unfold eqD eqvD
  rw [show toP (.lst (l.map D.int)) = some (.list (l.map PyData.int)) by rw [toP, toPs_ints]; rfl, show toP (.lst (m.map D.int)) = some (.list (m.map PyData.int)) by rw [toP, toPs_ints]; rfl]
  simp only [shaped_ints]
  rw [PyData.eqv, eqv_ints]
  rfl
theorem ints_of : ∀ l : List Int, intsD (l.map D.int) = some l
  | [] => rfl
  | i :: l => by rw [List.map_cons, intsD, ints_of l]; rfl
@[simp] theorem ev_sortSet {fe : EM D} {ρ : Ro} : sortSetE fe ρ = (fe ρ).bind fun d ρ1 => liftO (match seqInts d with | some ns => if ns.length < 64 then some (.lst ((sortU ns).map .int)) else none | none => none) ρ1 := rfl
@[simp] theorem si_lst (l : List Int) : seqInts (.lst (l.map .int)) = some l := ints_of l
@[simp] theorem si_tup (l : List Int) : seqInts (.tup (l.map .int)) = some l := ints_of l
theorem rises_sort (l : List Int) : decide (l = sortU l) = risesB l := by
  by_cases h : risesB l = true
  · rw [h, decide_eq_true_eq]
    exact pw_uniq ((risesB_iff l).mp h) sortU_pw fun k => mem_sortU.symm
  · have : ¬ l = sortU l := fun e => h ((risesB_iff l).mpr (e ▸ sortU_pw))
    rw [decide_eq_false this]
    cases q : risesB l
    · rfl
    · exact absurd q h
theorem not_pairs {P : D → Bool} : ∀ ds : List D, (ds.filter fun x => !P x).isEmpty = ds.all P
  | [] => rfl
  | d :: ds => by
    have ih := not_pairs (P := P) ds
    cases h : P d
    · rw [List.filter_cons_of_pos (by simp [h])]; simp [h]
    · rw [List.filter_cons_of_neg (by simp [h]), ih]; simp [h]
theorem Gd.part {n : Nat} {ds : List D} (h : Gd n (.tup ds)) (P : D → Bool) : Gd n (.lst (ds.filter P)) := by
  cases n with
  | zero => simp [Gd] at h
  | succ n =>
    simp only [Gd] at h ⊢
    exact ⟨Nat.le_trans (List.length_filter_le _ _) h.1, fun x hx => h.2 x (List.mem_filter.mp hx).1⟩
theorem amount_is (x : D) : (inI x (-4) (-1) || inI x 1 4) = (inI x (-4) 4 && nz x) := by
  cases x <;> simp [inI, nz]
  rename_i i
  rw [Bool.eq_iff_iff]
  simp
  omega


theorem size_ok (b : Int) (h1 : 2 ≤ b) (h2 : b ≤ 5) : m_look_at_size [.v (.int b)] = .ok .non [.v (.int b)] := by
  unfold m_look_at_size b_look_at_size
  have e := within_is (n := 0) (d := .int b) trivial 2 5
  have : inI (.int b) 2 5 = true := by simp [inI]; omega
  simp [e, this]
def scB (b : Int) (d : D) : Bool := match d with
  | .tup ds => decide (ds.length ≤ 8) && ds.all (stB b)
  | _ => false
/-! ### contents -/
def int0 (d : D) : Int := match d with
  | .int i => i
  | _ => 0
def coB (b : Int) (d : D) : Bool := match d with
  | .tup ds => ds.all (fun x => inI x 0 (b - 1)) && risesB (ds.map int0)
  | _ => false
theorem ints_inv {lo hi : Int} : ∀ {ds : List D}, (ds.all fun x => inI x lo hi) = true → ∃ l : List Int, ds = l.map .int ∧ ∀ i ∈ l, lo ≤ i ∧ i ≤ hi
  | [], _ => ⟨[], rfl, by simp⟩
  | d :: ds, h => by
    rw [List.all_cons, Bool.and_eq_true] at h
    obtain ⟨l, rfl, hl⟩ := ints_inv h.2
    obtain ⟨i, rfl⟩ : ∃ i, d = .int i := by cases d <;> first | exact ⟨_, rfl⟩ | (have := h.1; simp [inI] at this)
    exact ⟨i :: l, rfl, fun j hj => by
      rcases List.mem_cons.mp hj with rfl | hj
      · have := h.1; simpa [inI] using this
      · exact hl j hj⟩
theorem int0_map (l : List Int) : (l.map D.int).map int0 = l := by
  rw [List.map_map]
  exact List.map_id' l


/-- data of a depth and of lengths -/
def GL (L : Nat) : Nat → D → Prop
  | _, .non => True
  | _, .bl _ => True
  | _, .int _ => True
  | _, .str s => PyData.canLay0 (.str s) = true
  | n + 1, .tup ds => ds.length ≤ L ∧ ∀ x ∈ ds, GL L n x
  | n + 1, .lst ds => ds.length ≤ L ∧ ∀ x ∈ ds, GL L n x
  | _, _ => False
theorem GL.up : ∀ {L n : Nat} {d : D}, GL L n d → GL L (n + 1) d
  | L, n, d, h => by
    induction n generalizing d with
    | zero => cases d <;> simp [GL] at h ⊢ <;> assumption
    | succ n ih =>
      cases d <;> simp only [GL] at h ⊢ <;> first | exact h | exact ⟨h.1, fun x hx => ih x (h.2 x hx)⟩
theorem GL.wide : ∀ {L M n : Nat} {d : D}, L ≤ M → GL L n d → GL M n d
  | L, M, n, d, hl, h => by
    induction n generalizing d with
    | zero => cases d <;> simp [GL] at h ⊢ <;> assumption
    | succ n ih =>
      cases d <;> simp only [GL] at h ⊢ <;> first | exact h | exact ⟨Nat.le_trans h.1 hl, fun x hx => ih x (h.2 x hx)⟩
theorem GL.gd : ∀ {n : Nat} {d : D}, GL 40 n d → Gd n d
  | n, d, h => by
    induction n generalizing d with
    | zero => cases d <;> simp [GL, Gd] at h ⊢ <;> assumption
    | succ n ih =>
      cases d <;> simp only [GL, Gd] at h ⊢ <;> first | exact h | exact ⟨h.1, fun x hx => ih x (h.2 x hx)⟩
theorem GL.kids {L n : Nat} {ds : List D} (h : GL L n (.tup ds)) : ds.length ≤ L ∧ ∃ m, n = m + 1 ∧ ∀ x ∈ ds, GL L m x := by
  cases n with
  | zero => simp [GL] at h
  | succ n => simp only [GL] at h; exact ⟨h.1, n, rfl, h.2⟩
@[simp] theorem lay0 : PyData.canLay0 (.str "") = true := by kernel_rfl
@[simp] theorem lay1 : PyData.canLay0 (.str "one") = true := by kernel_rfl
@[simp] theorem lay2 : PyData.canLay0 (.str "all") = true := by kernel_rfl
@[simp] theorem lay3 : PyData.canLay0 (.str "each") = true := by kernel_rfl
@[simp] theorem lay4 : PyData.canLay0 (.str "add") = true := by kernel_rfl
@[simp] theorem lay5 : PyData.canLay0 (.str "rows") = true := by kernel_rfl
@[simp] theorem lay6 : PyData.canLay0 (.str "refs") = true := by kernel_rfl
@[simp] theorem lay7 : PyData.canLay0 (.str "up") = true := by kernel_rfl
@[simp] theorem lay8 : PyData.canLay0 (.str "down") = true := by kernel_rfl
@[simp] theorem lay9 : PyData.canLay0 (.str "Up") = true := by kernel_rfl
@[simp] theorem ev_parS {i j : Nat} {fr : EM (List D)} {ρ : Ro} : parS i j fr ρ = (fr ρ).bind fun ds ρ1 => match ds with | [d, e] => (match (setT i d ρ1).bind (setT j e) with | some ρ2 => .ok .nx ρ2 | none => .bad) | _ => .bad := rfl
theorem cut1 (ds : List D) (k : Nat) (h : k ≤ ds.length) : cutD ds none (some (k : Int)) = ds.take k := by
  unfold cutD
  rw [HT.sIx_nat, HT.sIx_none, List.drop_zero, Nat.sub_zero, Nat.min_eq_left h]
theorem cut2 (ds : List D) (k : Nat) (h : k ≤ ds.length) : cutD ds (some (k : Int)) none = ds.drop k := by
  unfold cutD
  rw [HT.sIx_nat, HT.sIx_none, Nat.min_eq_left h, List.take_of_length_le (by rw [List.length_drop]; omega)]
theorem cut3 (ds : List D) (k : Nat) (h : k < ds.length) : cutD ds (some (k : Int)) (some ((k : Int) + 1)) = (ds.drop k).take 1 := by
  unfold cutD
  rw [show (k : Int) + 1 = ((k + 1 : Nat) : Int) by omega, HT.sIx_nat, HT.sIx_nat, Nat.min_eq_left (by omega), Nat.min_eq_left (by omega), show k + 1 - k = 1 by omega]
theorem cut2' (ds : List D) (k : Nat) (h : k + 1 ≤ ds.length) : cutD ds (some ((k : Int) + 1)) none = ds.drop (k + 1) := by
  rw [show (k : Int) + 1 = ((k + 1 : Nat) : Int) by omega, cut2 ds (k + 1) h]
theorem GL.up2 {L n m : Nat} {d : D} (h : GL L n d) (hm : n ≤ m) : GL L m d := by
  induction hm with
  | refl => exact h
  | step _ ih => exact ih.up
theorem nt_of {L n : Nat} {x : D} (h : GL L n x) : isiF [x, .ty "tuple"] = some (.bl (isTup x)) := by cases x <;> first | rfl | (cases n <;> simp [GL] at h)


theorem lst_len {xs : List D} : lenF [.lst xs] = some (.int xs.length) := rfl
/-! ### what was drawn is good data -/
theorem gl_prs {b : Int} {L : Nat} {t : List (Int × Int)} (h : t.length ≤ L) (hL : 2 ≤ L) : GL L 2 (prsD t) := by
  refine ⟨by rw [List.length_map]; exact h, fun x hx => ?_⟩
  obtain ⟨p, _, rfl⟩ := List.mem_map.mp hx
  exact ⟨hL, by simp [GL]⟩
theorem tab_len {b : Int} {t : List (Int × Int)} (h : okTab b t) (hb : 0 ≤ b) : (t.length : Int) ≤ b := by
  have := rise_len (t.map (·.1)) 0 b (by have := h.2.1; unfold incr at this; exact this) fun i hi => by
    obtain ⟨p, hp, rfl⟩ := List.mem_map.mp hi
    exact ⟨(h.2.2 p hp).1, (h.2.2 p hp).2.1⟩
  rw [List.length_map] at this
  omega
theorem gl_stm {b : Int} {s : Stm} (h : s.ok b) (h0 : 0 ≤ b) (hb : b ≤ 5) : GL 10 3 s.d := by
  have lp : ∀ p : Str, place p → PyData.canLay0 (.str p) = true := fun p hp => by rcases hp with rfl | rfl <;> simp
  cases s with
  | one p x y => exact ⟨by simp, by simp [GL, lp p h.1]⟩
  | all p t =>
    have hl := tab_len h.2 h0
    have := gl_prs (b := b) (L := 10) (t := t) (by omega) (by decide)
    exact ⟨by simp, by simp [lp p h.1, this]; simp [GL, lp p h.1]⟩
  | each p t =>
    have := gl_prs (b := b) (L := 10) (t := t) (by have := h.2.2.1; omega) (by decide)
    exact ⟨by simp, by simp [lp p h.1, this]; simp [GL, lp p h.1]⟩
  | add p n y =>
    have hy : PyData.canLay0 (.str y) = true := by rcases h.2.2.2.2 with rfl | rfl <;> simp
    exact ⟨by simp, by simp [GL, lp p h.1, hy]⟩
theorem gl_sc {b n : Int} {l : List Stm} (h : okSc b n l) (h0 : 0 ≤ b) (hb : b ≤ 5) (hn : n ≤ 10) : GL 10 4 (scD l) := by
  refine ⟨by rw [List.length_map]; have := h.1; omega, fun x hx => ?_⟩
  obtain ⟨s, hs, rfl⟩ := List.mem_map.mp hx
  exact gl_stm (h.2 s hs) h0 hb

end DL

/-! Plain maths: what is a statement, a script (printed by split.py). -/
namespace DL
open PySem L2


def notP : Sl → Bool
  | .p _ => false
  | _ => true
@[simp] theorem notP_u : notP .u = true := rfl
@[simp] theorem notP_v {d : D} : notP (.v d) = true := rfl
theorem ev_setTn {i : Nat} {d : D} {ρ : Ro} : setT i d ρ = if ((ρ[i]?).map notP).getD false = true then some (ρ.set i (.v d)) else none := by
  unfold setT
  cases ρ[i]? with
  | none => rfl
  | some x => cases x <;> rfl
def tupI' (l : List Int) : D := .tup (l.map .int)
def addZ (b n x : Int) : Int := if 0 ≤ x + n ∧ x + n < b then x + n else x
def lkp (t : List (Int × Int)) (x : Int) : Int := (t.lookup x).getD x
def eachZ (t : List (Int × Int)) (x : Int) : Int := t.foldl (fun x p => if x = p.1 then p.2 else x) x
def Stm.turn (b : Int) : Stm → Int → Int
  | .one _ a c, x => if x = a then c else x
  | .all _ t, x => lkp t x
  | .each _ t, x => eachZ t x
  | .add _ n _, x => addZ b n x
/-- (index, new number) -/
def chD (p : Nat × Int) : D := .tup [.int (p.1 : Nat), .int p.2]
def chO (a c : Int) (rows : List Int) : List (Nat × Int) := (rows.zipIdx.filter fun p => p.1 == a).map fun p => (p.2, c)
def leZN (x y : Int × Nat) : Bool := !decide (y.1 < x.1 ∨ (y.1 = x.1 ∧ y.2 < x.2))
def ordZ (y : Str) (rows : List Int) : List (Int × Nat) := if y = "down" then (isort leZN rows.zipIdx).reverse else isort leZN rows.zipIdx
def chA (b n : Int) (y : Str) (rows : List Int) : List (Nat × Int) := (ordZ y rows).map fun p => (p.2, addZ b n p.1)

@[simp] theorem ev_lenSet {fe : EM D} {ρ : Ro} : lenSetE fe ρ = (fe ρ).bind fun d ρ1 => liftO (match seqInts d with | some ns => if ns.length < 4000 then some (.int (sortU ns).length) else none | none => none) ρ1 := rfl
theorem sortU_nodup (l : List Int) : (sortU l).Nodup := List.Pairwise.imp (fun h => by omega) (sortU_pw (l := l))
theorem enum_ints (l : List Int) : enumD (l.map .int) = l.zipIdx.map fun p => .prt [.int (p.2 : Nat), .int p.1] := by
  unfold enumD
  rw [List.zipIdx_map, List.map_map]
  rfl
/-! ### sorting pairs of ints -/
def leZZ (x y : Int × Int) : Bool := !decide (y.1 < x.1 ∨ (y.1 = x.1 ∧ y.2 < x.2))
theorem isort_congr {α : Type} {le le' : α → α → Bool} : ∀ {l : List α}, (∀ x ∈ l, ∀ y ∈ l, le x y = le' x y) → isort le l = isort le' l
  | [], _ => rfl
  | x :: l, h => by
    have e : isort le l = isort le' l := isort_congr fun a ha b hb => h a (List.mem_cons_of_mem _ ha) b (List.mem_cons_of_mem _ hb)
    show insD le x (isort le l) = insD le' x (isort le' l)
    rw [e]
    have : ∀ m : List α, (∀ y ∈ m, y ∈ l) → insD le x m = insD le' x m := by
      intro m
      induction m with
      | nil => intro _; rfl
      | cons y m ih =>
        intro hm
        show (if le x y then _ else _) = (if le' x y then _ else _)
        rw [h x List.mem_cons_self y (List.mem_cons_of_mem _ (hm y List.mem_cons_self)), ih fun z hz => hm z (List.mem_cons_of_mem _ hz)]
    exact this _ fun y hy => mem_isort hy
theorem toPs_prs : ∀ L : List (Int × Int), toPs (L.map prD) = some (L.map fun p => PyData.tuple [.int p.1, .int p.2])
  | [] => rfl
  | p :: L => by
    rw [List.map_cons, toPs, toPs_prs L]; rfl
theorem leD_prs (x y : Int × Int) : leD' (prD x) (prD y) = leZZ x y := by
  unfold leD' leZZ
  rw [show pOf (prD y) = .tuple [.int y.1, .int y.2] from rfl, show pOf (prD x) = .tuple [.int x.1, .int x.2] from rfl, PySem.W.dataLt_ii]
theorem sort_prs (L : List (Int × Int)) : sortF [.lst (L.map prD)] = some (.lst ((isort leZZ L).map prD)) := by
  have key : isort leD' (L.map prD) = (isort leZZ L).map prD := by
    rw [← isort_map prD leD' L, isort_congr (le' := leZZ) fun x _ y _ => leD_prs x y]
  have ok : sortOk (L.map fun p => PyData.tuple [.int p.1, .int p.2]) = true := by
    unfold sortOk
    simp only [List.all_map, Bool.and_eq_true, Bool.or_eq_true, List.all_eq_true]
    exact ⟨⟨fun x _ => List.all_eq_true.mpr fun y _ => rfl, .inl fun x _ => rfl⟩, fun x _ => rfl⟩
  simp only [sortF]
  by_cases h2 : (L.map prD).length < 2
  · rw [if_pos h2, ← key]
    match L, h2 with
    | [], _ => rfl
    | [_], _ => rfl
    | _ :: _ :: _, h2 => exact absurd h2 (by simp)
  · rw [if_neg h2, toPs_prs]
    simp only [ok, if_true, key]
def zn (p : Int × Nat) : Int × Int := (p.1, (p.2 : Nat))
theorem leZN_is (x y : Int × Nat) : leZZ (zn x) (zn y) = leZN x y := by
  unfold leZZ leZN zn
  simp
theorem sort_zn (T : List (Int × Nat)) : isort leZZ (T.map zn) = (isort leZN T).map zn := by
  rw [← isort_map zn leZZ T, isort_congr (le' := leZN) fun x _ y _ => leZN_is x y]


theorem set_cut (rows : List Int) (i : Nat) (n : Int) (h : i < rows.length) : cutD (rows.map .int) none (some (i : Int)) ++ D.int n :: cutD (rows.map .int) (some ((i : Int) + 1)) none = (rows.set i n).map .int := by
  rw [cut1 _ _ (by simp; omega), cut2' _ _ (by simp; omega), List.set_eq_take_append_cons_drop, if_pos h, List.map_append, List.map_cons, List.map_take, List.map_drop]
@[simp] theorem ev_forS {fi : EM (List D)} {g : D → Ro → Option Ro} {f : SM} {ρ : Ro} : forS fi g f ρ = (fi ρ).bind fun ds ρ1 => loopS g f ds ρ1 := rfl
theorem loop_cons {g : D → Ro → Option Ro} {f : SM} {d : D} {ds : List D} {ρ ρ1 : Ro} (h : g d ρ = some ρ1) : loopS g f (d :: ds) ρ = match f ρ1 with
      | .ok .nx ρ2 => loopS g f ds ρ2
      | .ok .cnt ρ2 => loopS g f ds ρ2
      | .ok .brk ρ2 => .ok .nx ρ2
      | r => r := by
  conv => lhs; unfold loopS
  first
    | (rw [h]; done)
    | (rw [h]; rfl)


@[simp] theorem ev_getE {fd fk fx : EM D} {ρ : Ro} : getE' fd fk fx ρ = (fd ρ).bind fun d ρ1 => if isDct d = true then (fk ρ1).bind fun k ρ2 => (fx ρ2).bind fun z ρ3 => liftO (getF d k z) ρ3 else .bad := by
  unfold getE' bindM
  congr
  funext d ρ1
  cases isDct d <;> rfl
@[simp] theorem ev_disp1 {fk fv : EM D} {ρ : Ro} : disp1E fk fv ρ = (fk ρ).bind fun kd ρ1 => (fv ρ1).bind fun d ρ2 => liftO ((keyD kd).map fun _ => .dct [(kd, d)]) ρ2 := rfl
@[simp] theorem key_int {i : Int} : keyD (.int i) = some (.inl i) := rfl
@[simp] theorem is_dct {kvs : List (D × D)} : isDct (.dct kvs) = true := rfl
theorem get_int (kvs : List (D × D)) (x : Int) : getF (.dct kvs) (.int x) (.int x) = some ((valD kvs (.inl x)).getD (.int x)) := rfl
theorem one_val (a c x : Int) : (valD [(.int a, .int c)] (.inl x)).getD (.int x) = .int (if x = a then c else x) := by
  unfold valD
  by_cases h : x = a
  · simp [h]
  · have : ¬ a = x := fun e => h e.symm
    simp [h, this]
def kvD (p : Int × Int) : D × D := (.int p.1, .int p.2)
theorem tab_val (t : List (Int × Int)) (x : Int) : valD (t.map kvD) (.inl x) = (t.lookup x).map .int := by
  induction t with
  | nil => rfl
  | cons p t ih =>
    unfold valD at ih ⊢
    rw [List.map_cons, List.find?_cons, List.lookup_cons]
    by_cases h : x = p.1
    · subst h; simp [kvD]
    · have h1 : ¬ p.1 = x := fun e => h e.symm
      have h2 : (x == p.1) = false := beq_eq_false_iff_ne.mpr h
      rw [h2]
      simp only [kvD, key_int, Option.some.injEq, Sum.inl.injEq, h1, decide_false]
      exact ih
theorem lkp_val (t : List (Int × Int)) (x : Int) : (valD (t.map kvD) (.inl x)).getD (.int x) = .int (lkp t x) := by
  rw [tab_val]
  unfold lkp
  cases t.lookup x <;> rfl
theorem merge_tab : ∀ (t acc : List (Int × Int)), ((acc ++ t).map (·.1)).Nodup → mergeD (acc.map kvD) (t.map prD) = some ((acc ++ t).map kvD)
  | [], acc, _ => by simp [mergeD]
  | p :: t, acc, h => by
    have hp : putD (acc.map kvD) (.int p.1) (.inl p.1) (.int p.2) = (acc ++ [p]).map kvD := by
      unfold putD
      have : ((acc.map kvD).any fun q => decide (keyD q.1 = some (.inl p.1))) = false := by
        rw [List.any_map, List.any_eq_false]
        intro q hq
        simp only [Function.comp, kvD, key_int, Option.some.injEq, Sum.inl.injEq, decide_eq_true_eq]
        intro e
        rw [List.map_append, List.nodup_append] at h
        exact h.2.2 q.1 (List.mem_map.mpr ⟨q, hq, rfl⟩) p.1 (by simp) e
      rw [if_neg (by rw [this]; simp), List.map_append]
      rfl
    rw [List.map_cons]
    unfold mergeD
    simp only [prD, key_int]
    rw [hp]
    have := merge_tab t (acc ++ [p]) (by rw [List.append_assoc]; exact h)
    rw [this, List.append_assoc]
    rfl
theorem dict_tab (t : List (Int × Int)) (h : (t.map (·.1)).Nodup) : dictF2 [prsD t] = some (.dct (t.map kvD)) := by
  have := merge_tab t [] (by simpa using h)
  simp only [List.map_nil, List.nil_append] at this
  show Option.map D.dct (mergeD [] (t.map prD)) = _
  rw [this]
  rfl
theorem tab_nodup {b : Int} {t : List (Int × Int)} (h : okTab b t) : (t.map (·.1)).Nodup := List.Pairwise.imp (fun h => by omega) (show (t.map (·.1)).Pairwise (· < ·) from h.2.1)

/-! ### statements on rows -/
def eachR : List (Int × Int) → List Int → List Int × Bool
  | [], rows => (rows, false)
  | (a, c) :: t, rows => if (sing (chO a c rows) rows).2 = true then sing (chO a c rows) rows else eachR t (sing (chO a c rows) rows).1
def rowsSt (b : Int) : Stm → List Int → List Int × Bool
  | .one _ a c, rows => sing (chO a c rows) rows
  | .all _ t, rows => if (rows.map (lkp t)).Nodup then (rows.map (lkp t), false) else (rows, true)
  | .each _ t, rows => eachR t rows
  | .add _ n y, rows => sing (chA b n y rows) rows
theorem eachR_keep : ∀ (t : List (Int × Int)) (rows : List Int), rows.Nodup → (eachR t rows).1.Nodup ∧ (eachR t rows).1.length = rows.length
  | [], rows, h => ⟨h, rfl⟩
  | (a, c) :: t, rows, h => by
    obtain ⟨h1, h2⟩ := sing_keep (chO a c rows) rows h
    unfold eachR
    split
    · exact ⟨h1, h2⟩
    · obtain ⟨h3, h4⟩ := eachR_keep t _ h1
      exact ⟨h3, by omega⟩
theorem rowsSt_keep (b : Int) (s : Stm) (rows : List Int) (h : rows.Nodup) : (rowsSt b s rows).1.Nodup ∧ (rowsSt b s rows).1.length = rows.length := by
  cases s with
  | one p a c => exact sing_keep _ _ h
  | all p t =>
    show (if (rows.map (lkp t)).Nodup then (rows.map (lkp t), false) else (rows, true)).1.Nodup ∧ (if (rows.map (lkp t)).Nodup then (rows.map (lkp t), false) else (rows, true)).1.length = _
    by_cases q : (rows.map (lkp t)).Nodup
    · rw [if_pos q]; exact ⟨q, by simp⟩
    · rw [if_neg q]; exact ⟨h, rfl⟩
  | each p t => exact eachR_keep t rows h
  | add p n y => exact sing_keep _ _ h
theorem chO_lt {a c : Int} {rows : List Int} {q : Nat × Int} (h : q ∈ chO a c rows) : q.1 < rows.length := by
  unfold chO at h
  obtain ⟨p, hp, rfl⟩ := List.mem_map.mp h
  exact (List.mem_zipIdx' (List.mem_filter.mp hp).1).1
theorem ordZ_mem {y : Str} {rows : List Int} {p : Int × Nat} (h : p ∈ ordZ y rows) : p ∈ rows.zipIdx := by
  unfold ordZ at h
  split at h
  · exact mem_isort (List.mem_reverse.mp h)
  · exact mem_isort h
theorem chA_lt {b n : Int} {y : Str} {rows : List Int} {q : Nat × Int} (h : q ∈ chA b n y rows) : q.1 < rows.length := by
  unfold chA at h
  obtain ⟨p, hp, rfl⟩ := List.mem_map.mp h
  exact (List.mem_zipIdx' (ordZ_mem hp)).1


/-! ### scripts -/
abbrev Eff := List Int × List Int × Int
def doneP (b : Int) : List (Stm × Nat) → List Int → List Int → Eff
  | [], rows, refs => (rows, refs, -1)
  | (s, i) :: l, rows, refs => if s.p = "refs" then doneP b l rows (refs.map (s.turn b)) else if (rowsSt b s rows).2 = true then ((rowsSt b s rows).1, refs, (i : Int)) else doneP b l (rowsSt b s rows).1 refs
def effD (e : Eff) : D := .tup [tupI' e.1, tupI' e.2.1, .int e.2.2]
def stI (p : Stm × Nat) : D := .prt [.int (p.2 : Nat), p.1.d]
theorem enum_stm (l : List Stm) : enumD (l.map Stm.d) = l.zipIdx.map stI := by
  unfold enumD
  rw [List.zipIdx_map, List.map_map]
  rfl
theorem place_eq {b : Int} {s : Stm} (h : s.ok b) : eqD (.str s.p) (.str "refs") = some (.bl (decide (s.p = "refs"))) := by
  have : place s.p := by cases s <;> exact h.1
  rcases this with e | e
  · rw [e]; kernel_rfl
  · rw [e]; kernel_rfl
theorem stm_p (s : Stm) : ixD s.d (.int 1) = some (.str s.p) := by cases s <;> rfl
theorem doneP_keep (b : Int) : ∀ (l : List (Stm × Nat)) (rows refs : List Int), rows.Nodup → (doneP b l rows refs).1.Nodup ∧ (doneP b l rows refs).1.length = rows.length ∧ (doneP b l rows refs).2.1.length = refs.length ∧ -1 ≤ (doneP b l rows refs).2.2
  | [], rows, refs, h => ⟨h, rfl, rfl, by show (-1 : Int) ≤ -1; omega⟩
  | (s, i) :: l, rows, refs, h => by
    obtain ⟨h1, h2⟩ := rowsSt_keep b s rows h
    unfold doneP
    split
    · obtain ⟨k1, k2, k3, k4⟩ := doneP_keep b l rows (refs.map (s.turn b)) h
      exact ⟨k1, k2, by rw [k3]; simp, k4⟩
    · split
      · exact ⟨h1, h2, rfl, by show (-1 : Int) ≤ (i : Int); omega⟩
      · obtain ⟨k1, k2, k3, k4⟩ := doneP_keep b l _ refs h1
        exact ⟨k1, by omega, k3, k4⟩
def rgZ (b : Int) : List Int := (List.range b.toNat).map fun i : Nat => (i : Int)
theorem rg_ints (b : Int) : rngD 0 b.toNat = (rgZ b).map .int := by
  unfold rngD rgZ
  rw [List.map_map]
  exact List.map_congr_left fun i _ => by simp
def effP (b : Int) (l : List Stm) (cs : List Int) : Eff := doneP b l.zipIdx cs (rgZ b)


@[simp] theorem ev_inRg {fa fb : EM D} {ρ : Ro} : inRgE fa fb ρ = (fa ρ).bind fun x ρ1 => (fb ρ1).bind fun y ρ2 => liftO (match x, y with | .int i, .int n => some (.bl (decide (0 ≤ i) && decide (i < n))) | _, _ => none) ρ2 := rfl
@[simp] theorem ev_vals {fe : EM D} {ρ : Ro} : valsE fe ρ = (fe ρ).bind fun d ρ1 => liftO (match d with | .dct kvs => if kvs.length ≤ 1000000 then some (.lst (kvs.map (·.2))) else none | _ => none) ρ1 := rfl
@[simp] theorem ev_ownK {i : Nat} {ρ : Ro} : ownK i ρ = match ρ[i]? with | some (.o (.dct kvs)) => .ok kvs ρ | some (.p (.dct kvs)) => .ok kvs ρ | _ => .bad := rfl
@[simp] theorem ev_setK {i : Nat} {fk fv : EM D} {ρ : Ro} : setK i fk fv ρ = (fv ρ).bind fun d ρ1 => (ownS i ρ1).bind fun _ ρ2 => (fk ρ2).bind fun j ρ3 => (ownK i ρ3).bind fun kvs ρ4 => (liftO (setKF kvs d j) ρ4).bind fun es ρ5 => .ok .nx (putO i (.dct es) ρ5) := by
  unfold setK doS bindM
  cases fv ρ with
  | bad => rfl
  | err x => rfl
  | ok d ρ1 =>
    simp only [ev_okb]
    cases ownS i ρ1 with
    | bad => rfl
    | err x => rfl
    | ok u ρ2 =>
      simp only [ev_okb]
      cases fk ρ2 with
      | bad => rfl
      | err x => rfl
      | ok j ρ3 =>
        simp only [ev_okb]
        cases ownK i ρ3 with
        | bad => rfl
        | err x => rfl
        | ok ds ρ4 =>
          simp only [ev_okb]
          cases (liftO (setKF ds d j) ρ4) <;> rfl
theorem lkp_first (t : List (Int × Int)) (x : Int) : (((t.filter fun p => p.1 == x).map fun p => D.int p.2) ++ [D.int x])[0]? = some (.int (lkp t x)) := by
  unfold lkp
  induction t with
  | nil => rfl
  | cons p t ih =>
    rw [List.lookup_cons]
    by_cases h : p.1 = x
    · subst h; simp
    · have h1 : (p.1 == x) = false := beq_eq_false_iff_ne.mpr h
      have h2 : (x == p.1) = false := beq_eq_false_iff_ne.mpr fun e => h e.symm
      rw [List.filter_cons_of_neg (by simp [h1]), ih, h2]
theorem law_each (b : Int) (st : D) : ∀ (t : List (Int × Int)) (x : Int) (x3 x4 : Sl), notP x3 = true → notP x4 = true →
    ∃ y3 y4, loopS (tupT 2 (consT (setT 3) (consT (setT 4) nilT))) (ifS (testE (bin2 eqD (varE 2) (varE 3))) (asgS (varE 4) (setT 2)) nextS) (t.map prD) [.v (.int b), .v st, .v (.int x), x3, x4] = .ok .nx [.v (.int b), .v st, .v (.int (eachZ t x)), y3, y4]
  | [], x, x3, x4, _, _ => ⟨x3, x4, rfl⟩
  | (a, c) :: t, x, x3, x4, h3, h4 => by
    obtain ⟨y3, y4, e⟩ := law_each b st t (if x = a then c else x) (.v (.int a)) (.v (.int c)) rfl rfl
    have e2 : eachZ ((a, c) :: t) x = eachZ t (if x = a then c else x) := rfl
    refine ⟨y3, y4, ?_⟩
    rw [e2, List.map_cons, loop_cons (ρ1 := [.v (.int b), .v st, .v (.int x), .v (.int a), .v (.int c)]) (by simp [-ev_setT, ev_setTn, prD, h3, h4]), ← e]
    by_cases h : x = a <;> simp [h]
/-! ### dicts from row to number -/
def dz (cs rows : List Int) : D := .dct ((cs.zip rows).map kvD)
theorem dz_keys {cs rows : List Int} (h : cs.length = rows.length) : ((cs.zip rows).map kvD).map (·.1) = cs.map .int := by
  rw [List.map_map]
  have : (fun p : D × D => p.1) ∘ kvD = D.int ∘ Prod.fst := rfl
  rw [this, ← List.map_map, List.map_fst_zip (by omega)]
/-- what is walked of a value -/
def seqD (d : D) : Option (List D) := match d with
  | .lst ds => some ds
  | .tup ds => some ds
  | .dct kvs => some (kvs.map (·.1))
  | _ => none
theorem ev_seqD {fe : EM D} {ρ : Ro} : seqI fe ρ = (fe ρ).bind fun d ρ1 => liftO (seqD d) ρ1 := rfl
theorem seq_dz {cs rows : List Int} (h : cs.length = rows.length) : seqD (dz cs rows) = some (cs.map D.int) := by
  show some (((cs.zip rows).map kvD).map (·.1)) = _
  rw [dz_keys h]
theorem dz_vals {cs rows : List Int} (h : cs.length = rows.length) : ((cs.zip rows).map kvD).map (·.2) = rows.map .int := by
  rw [List.map_map]
  have : (fun p : D × D => p.2) ∘ kvD = D.int ∘ Prod.snd := rfl
  rw [this, ← List.map_map, List.map_snd_zip (by omega)]
theorem dz_at {cs rows : List Int} {c : Int} (hc : cs.Nodup) (hl : cs.length = rows.length) (h : c ∈ cs) : ixD (dz cs rows) (.int c) = some (.int (getZ cs rows c)) := by
  obtain ⟨j, hj, rfl⟩ := List.getElem_of_mem h
  have e1 : cs[j]? = some cs[j] := List.getElem?_eq_getElem hj
  have e2 : rows[j]? = some rows[j] := List.getElem?_eq_getElem (by omega)
  show (keyD (.int cs[j])).bind (valD ((cs.zip rows).map kvD)) = _
  rw [key_int, Option.bind_some, tab_val, getZ_at hc e1 e2, lookup_zip hc e1 e2]
  rfl
theorem dz_get {cs rows : List Int} (hc : cs.Nodup) (hl : cs.length = rows.length) : cs.map (getZ cs rows) = rows := by
  apply List.ext_getElem?
  intro j
  rw [List.getElem?_map]
  rcases Nat.lt_or_ge j cs.length with h | h
  · have e1 : cs[j]? = some cs[j] := List.getElem?_eq_getElem h
    have e2 : rows[j]? = some rows[j] := List.getElem?_eq_getElem (by omega)
    rw [e1, e2, Option.map_some, getZ_at hc e1 e2]
  · rw [List.getElem?_eq_none h, List.getElem?_eq_none (by omega)]; rfl
theorem dz_put {cs rows : List Int} {i : Nat} {c n : Int} (hc : cs.Nodup) (hl : cs.length = rows.length) (hi : cs[i]? = some c) (hz : cs.length ≤ 1000) : setKF ((cs.zip rows).map kvD) (.int n) (.int c) = some ((cs.zip (rows.set i n)).map kvD) := by
  have hil : i < cs.length := (List.getElem?_eq_some_iff.mp hi).1
  unfold setKF
  rw [key_int]
  simp only
  rw [if_pos (by simp; omega)]
  congr 1
  unfold putD
  rw [if_pos ?_, ← put_zip hc hi, List.map_map, List.map_map]
  · refine List.map_congr_left fun p _ => ?_
    simp only [Function.comp, kvD, key_int, Option.some.injEq, Sum.inl.injEq]
    by_cases h : p.1 = c <;> simp [h]
  · rw [List.any_map, List.any_eq_true]
    refine ⟨(c, rows[i]'(by omega)), ?_, by simp [kvD]⟩
    have : (cs.zip rows)[i]? = some (c, rows[i]'(by omega)) := by
      rw [List.getElem?_zip_eq_some]
      exact ⟨hi, List.getElem?_eq_getElem (by omega)⟩
    exact List.mem_of_getElem? this
theorem cs_map {cs rows : List Int} (hl : cs.length = rows.length) : rows.zipIdx.map (fun p => cs.getD p.2 0) = cs := by
  apply List.ext_getElem?
  intro j
  rw [List.getElem?_map, List.getElem?_zipIdx]
  rcases Nat.lt_or_ge j cs.length with h | h
  · have e1 : cs[j]? = some cs[j] := List.getElem?_eq_getElem h
    have e2 : rows[j]? = some rows[j] := List.getElem?_eq_getElem (by omega)
    rw [e1, e2]
    simp [e1]
  · rw [List.getElem?_eq_none h, List.getElem?_eq_none (by omega)]; rfl



/-- (content, new number) -/
def chL (cs : List Int) (q : Nat × Int) : D := .tup [.int (cs.getD q.1 0), .int q.2]
theorem getD_at {cs : List Int} {i : Nat} (h : i < cs.length) : cs[i]? = some (cs.getD i 0) := by
  rw [List.getD_eq_getElem?_getD, List.getElem?_eq_getElem h]; rfl
theorem zi_get {rows : List Int} {p : Int × Nat} (h : p ∈ rows.zipIdx) : rows[p.2]? = some p.1 := by
  obtain ⟨h1, h2⟩ := List.mem_zipIdx' h
  rw [List.getElem?_eq_getElem h1, h2]
def oneP (cs rows : List Int) (a : Int) : D → Bool
  | .int k => getZ cs rows k == a
  | _ => false
def addF (cs rows : List Int) : D → D
  | .int k => .tup [.int (getZ cs rows k), .int k]
  | _ => .non
theorem pw_lt {cs : List Int} (h : cs.Pairwise (· < ·)) {i j : Nat} (hi : i < cs.length) (hj : j < cs.length) : cs.getD i 0 < cs.getD j 0 ↔ i < j := by
  have h' := List.pairwise_iff_getElem.mp h
  rw [List.getD_eq_getElem?_getD, List.getD_eq_getElem?_getD, List.getElem?_eq_getElem hi, List.getElem?_eq_getElem hj]
  simp only [Option.getD_some]
  constructor
  · intro q
    rcases Nat.lt_trichotomy i j with c | c | c
    · exact c
    · subst c; omega
    · have := h' j i hj hi c; omega
  · exact fun q => h' i j hi hj q
def zc (cs : List Int) (p : Int × Nat) : Int × Int := (p.1, cs.getD p.2 0)
theorem sort_zc {cs rows : List Int} (h : cs.Pairwise (· < ·)) (hl : cs.length = rows.length) : isort leZZ (rows.zipIdx.map (zc cs)) = (isort leZN rows.zipIdx).map (zc cs) := by
  rw [← isort_map (zc cs) leZZ, isort_congr (le' := leZN) fun x hx y hy => ?_]
  have hx' : x.2 < cs.length := by rw [hl]; exact (List.mem_zipIdx' hx).1
  have hy' : y.2 < cs.length := by rw [hl]; exact (List.mem_zipIdx' hy).1
  unfold leZZ leZN zc
  simp only [pw_lt h hy' hx']
theorem ordZ_len (y : Str) (rows : List Int) : (ordZ y rows).length = rows.length := by
  have h5 : (isort leZN rows.zipIdx).length = rows.length := by
    have : ∀ l : List (Int × Nat), (isort leZN l).length = l.length := by
      intro l
      induction l with
      | nil => rfl
      | cons a l ih =>
        have ins : ∀ m : List (Int × Nat), (insD leZN a m).length = m.length + 1 := by
          intro m
          induction m with
          | nil => rfl
          | cons c m ih => unfold insD; split <;> simp [ih]
        show (insD leZN a (isort leZN l)).length = _
        rw [ins, ih]; rfl
    rw [this, List.length_zipIdx]
  unfold ordZ
  split <;> simp [h5]


def othP (cs rows : List Int) (ci n : Int) : D → Bool
  | .int k => !(k == ci) && getZ cs rows k == n
  | _ => false
theorem others_is (b : Int) (st x6 x8 : D) (cs rows : List Int) (i : Nat) (n : Int) (x9' : Sl) (hc : cs.Nodup) (hl : cs.length = rows.length) (hr : rows.Nodup) (hz : cs.length ≤ 1000) (hi : i < cs.length) :
    ∃ L : List Int, lcE [10] (seqI (varE 2)) (setT 10) (andT (testE (bin2 neD (varE 10) (varE 4))) (testE (bin2 eqD (bin2 ixD (varE 2) (varE 10)) (varE 9)))) (varE 10)
      [.v (.int b), .v st, .v (dz cs rows), .u, .v (.int (cs.getD i 0)), .u, .v x6, .u, .v x8, .v (.int n), .u] = .ok (.lst (L.map .int)) [.v (.int b), .v st, .v (dz cs rows), .u, .v (.int (cs.getD i 0)), .u, .v x6, .u, .v x8, .v (.int n), .u] ∧ L.isEmpty = decide ((rows.set i n).Nodup) := by
  have sq := seq_dz hl
  have hat := fun {k : Int} (h : k ∈ cs) => dz_at hc hl h
  generalize hci : cs.getD i 0 = ci
  have oi := other_is (n := n) hc hl hr (hci ▸ getD_at hi)
  generalize hdz : dz cs rows = dd at *
  refine ⟨cs.filter fun c => !(c == ci) && getZ cs rows c == n, ?_, oi⟩
  have e := lcE_filter (vs := [10]) (fi := seqI (varE 2)) (g := setT 10) (ft := andT (testE (bin2 neD (varE 10) (varE 4))) (testE (bin2 eqD (bin2 ixD (varE 2) (varE 10)) (varE 9)))) (fe := varE 10)
    (ρ := [.v (.int b), .v st, .v dd, .u, .v (.int ci), .u, .v x6, .u, .v x8, .v (.int n), .u]) (ds := cs.map .int) (othP cs rows ci n) (fun d => d)
    (by simp [-ev_seqI, ev_seqD, sq]) (by simp) (by simp; omega) (fun d hd => by
      obtain ⟨k, hk, rfl⟩ := List.mem_map.mp hd
      refine ⟨[.v (.int b), .v st, .v dd, .u, .v (.int ci), .u, .v x6, .u, .v x8, .v (.int n), .v (.int k)], [.v (.int b), .v st, .v dd, .u, .v (.int ci), .u, .v x6, .u, .v x8, .v (.int n), .v (.int k)], by simp, ?_, by simp, fun _ => ⟨[.v (.int b), .v st, .v dd, .u, .v (.int ci), .u, .v x6, .u, .v x8, .v (.int n), .v (.int k)], by simp, by simp⟩⟩
      by_cases h : k = ci <;> simp [h, hat hk, othP])
  rw [e]
  rw [List.map_id', List.filter_map]
  rfl
theorem law_single_loop (b : Int) (st x6 x8 : D) (cs : List Int) (hc : cs.Nodup) (hz : cs.length ≤ 1000) : ∀ (ch : List (Nat × Int)) (rows : List Int) (x4 x9 : Sl), notP x4 = true → notP x9 = true → cs.length = rows.length → rows.Nodup → (∀ q ∈ ch, q.1 < rows.length) →
    ∃ y4 y9, notP y4 = true ∧ notP y9 = true ∧ loopS (tupT 2 (consT (setT 4) (consT (setT 9) nilT))) (seqS (ifS (testE (bin2 neD (lcE [10] (seqI (varE 2)) (setT 10) (andT (testE (bin2 neD (varE 10) (varE 4))) (testE (bin2 eqD (bin2 ixD (varE 2) (varE 10)) (varE 9)))) (varE 10)) (lstE (retE [])))) (retS (tupE (consE (varE 2) (consE (retE (.bl true)) (retE []))))) nextS) (seqS (newS 2 (callB dictF2 (consE (varE 2) (retE [])))) (seqS (setK 2 (varE 4) (varE 9)) (seqS (thawS 2) nextS)))) (ch.map (chL cs))
      [.v (.int b), .v st, .v (dz cs rows), .u, x4, .u, .v x6, .u, .v x8, x9, .u] = .ok (if (sing ch rows).2 = true then .ret (.tup [dz cs (sing ch rows).1, .bl true]) else .nx) [.v (.int b), .v st, .v (dz cs (sing ch rows).1), .u, y4, .u, .v x6, .u, .v x8, y9, .u]
  | [], rows, x4, x9, h4, h9, _, _, _ => ⟨x4, x9, h4, h9, rfl⟩
  | (i, n) :: ch, rows, x4, x9, h4, h9, hl, hr, hch => by
    have hi : i < rows.length := hch (i, n) List.mem_cons_self
    obtain ⟨L, e0, oL⟩ := others_is b st x6 x8 cs rows i n .u hc hl hr hz (by omega)
    have e1 : tupT 2 (consT (setT 4) (consT (setT 9) nilT)) (chL cs (i, n)) [.v (.int b), .v st, .v (dz cs rows), .u, x4, .u, .v x6, .u, .v x8, x9, .u] = some [.v (.int b), .v st, .v (dz cs rows), .u, .v (.int (cs.getD i 0)), .u, .v x6, .u, .v x8, .v (.int n), .u] := by
      simp only [chL]
      generalize cs.getD i 0 = ci
      simp [-ev_setT, ev_setTn, h4, h9]
    have pu := dz_put (n := n) hc hl (getD_at (show i < cs.length by omega)) hz
    have hll : (rows.set i n).length = rows.length := List.length_set
    have hsing : sing ((i, n) :: ch) rows = if (rows.set i n).Nodup then sing ch (rows.set i n) else (rows, true) := rfl
    rw [hsing]
    generalize cs.getD i 0 = ci at *
    generalize rows.set i n = r' at *
    have nl := ne_nil L
    have dd : dz cs rows = .dct ((cs.zip rows).map kvD) := rfl
    have dd' : dz cs r' = .dct ((cs.zip r').map kvD) := rfl
    rw [List.map_cons, loop_cons e1]
    by_cases hn : r'.Nodup
    · obtain ⟨y4, y9, n4, n9, e⟩ := law_single_loop b st x6 x8 cs hc hz ch r' (.v (.int ci)) (.v (.int n)) rfl rfl (by omega) hn fun q hq => by rw [hll]; exact hch q (List.mem_cons_of_mem _ hq)
      refine ⟨y4, y9, n4, n9, ?_⟩
      rw [if_pos hn, ← e]
      rw [decide_eq_true hn] at oL
      simp
      rw [e0]
      simp [nl, oL]
      rw [dd, dd']
      have d2 : dictF2 [.dct ((cs.zip rows).map kvD)] = some (.dct ((cs.zip rows).map kvD)) := rfl
      simp [d2, pu]
    · refine ⟨.v (.int ci), .v (.int n), rfl, rfl, ?_⟩
      rw [if_neg hn]
      rw [decide_eq_false hn] at oL
      simp
      rw [e0]
      simp [nl, oL]
/-- the statements that a part is -/
def parts : Stm → List Stm
  | .each _ t => t.map fun q => .one "rows" q.1 q.2
  | s => [s]
def foldR (b : Int) : List Stm → List Int → List Int × Bool
  | [], rows => (rows, false)
  | s :: l, rows => if (rowsSt b s rows).2 = true then rowsSt b s rows else foldR b l (rowsSt b s rows).1
theorem fold_each (b : Int) : ∀ (t : List (Int × Int)) (rows : List Int), foldR b (t.map fun q => .one "rows" q.1 q.2) rows = eachR t rows
  | [], rows => rfl
  | (a, c) :: t, rows => by
    rw [List.map_cons]
    unfold foldR eachR
    rw [fold_each b t]
    rfl
/-- one or add -/
def simple (b : Int) : Stm → Prop
  | .one _ _ _ => True
  | .add _ _ y => y = "up" ∨ y = "down"
  | _ => False


def bdK (F : Int → Int) (c : Int) : D × D := (.int c, .int (F c))
theorem bd_put (F : Int → Int) {cs : List Int} {j : Nat} {c : Int} (hc : cs.Nodup) (h : cs[j]? = some c) (hz : cs.length ≤ 1000) : setKF ((cs.take j).map (bdK F)) (.int (F c)) (.int c) = some ((cs.take (j + 1)).map (bdK F)) := by
  have hj : j < cs.length := (List.getElem?_eq_some_iff.mp h).1
  unfold setKF
  rw [key_int]
  simp only
  rw [if_pos (by simp; omega)]
  congr 1
  unfold putD
  rw [if_neg ?_, List.take_add_one, h, List.map_append]
  · rfl
  · rw [List.any_map, Bool.not_eq_true, List.any_eq_false]
    intro k hk
    simp only [Function.comp, bdK, key_int, Option.some.injEq, Sum.inl.injEq, decide_eq_true_eq]
    rintro rfl
    obtain ⟨i, hi, e⟩ := List.getElem_of_mem hk
    rw [List.getElem_take] at e
    rw [List.length_take] at hi
    have := (List.getElem?_inj (i := i) (j := j) (by omega) hc).mp (by rw [h, List.getElem?_eq_getElem (by omega), e])
    omega
theorem bd_all (F : Int → Int) (cs : List Int) : D.dct (cs.map (bdK F)) = dz cs (cs.map F) := by
  unfold dz
  congr 1
  induction cs with
  | nil => rfl
  | cons c cs ih => rw [List.map_cons, List.map_cons, List.zip_cons_cons, List.map_cons, ih]; rfl
def vlsD (d : D) : Option D := match d with
  | .dct kvs => if kvs.length ≤ 1000000 then some (.lst (kvs.map (·.2))) else none
  | _ => none
theorem ev_vlsD {fe : EM D} {ρ : Ro} : valsE fe ρ = (fe ρ).bind fun d ρ1 => liftO (vlsD d) ρ1 := rfl


def refF (b : Int) (s : Stm) : D → D
  | .int x => .int (s.turn b x)
  | _ => .non
def effL (cs : List Int) (e : Eff) : D := .tup [dz cs e.1, tupI' e.2.1, .int e.2.2]
/-- behind stops -/
def stopsP (b : Int) (l : List Stm) : List Nat → List Int → List Int → List Int × List Int
  | [], rows, refs => (rows, refs)
  | k :: ks, rows, refs => stopsP b l ks (doneP b (l.take k).zipIdx rows refs).1 (doneP b (l.take k).zipIdx rows refs).2.1
def effW (b : Int) (l : List Stm) (cs : List Int) (ks : List Nat) : Eff := doneP b l.zipIdx (stopsP b l ks cs (rgZ b)).1 (stopsP b l ks cs (rgZ b)).2
theorem stopsP_keep (b : Int) (l : List Stm) : ∀ (ks : List Nat) (rows refs : List Int), rows.Nodup → (stopsP b l ks rows refs).1.Nodup ∧ (stopsP b l ks rows refs).1.length = rows.length ∧ (stopsP b l ks rows refs).2.length = refs.length
  | [], rows, refs, h => ⟨h, rfl, rfl⟩
  | k :: ks, rows, refs, h => by
    obtain ⟨h1, h2, h3, _⟩ := doneP_keep b (l.take k).zipIdx rows refs h
    obtain ⟨h4, h5, h6⟩ := stopsP_keep b l ks _ (doneP b (l.take k).zipIdx rows refs).2.1 h1
    exact ⟨h4, by rw [← h2]; exact h5, by rw [← h3]; exact h6⟩
theorem sc_take (l : List Stm) (k : Nat) (h : k ≤ l.length) : slD (scD l) none (some (k : Int)) = some (scD (l.take k)) := by
  show some (D.tup (cutD (l.map Stm.d) none (some (k : Int)))) = _
  rw [cut1 _ _ (by simpa using h), ← List.map_take]
  rfl
def nsD (ks : List Nat) : D := .tup (ks.map fun k : Nat => .int (k : Int))
@[simp] theorem ev_parNew {i j : Nat} {fa fb : EM D} {ρ : Ro} : parNewS i j fa fb ρ = (fa ρ).bind fun d ρ1 => (fb ρ1).bind fun e ρ2 => match ρ2[i]? with
  | none => .bad
  | some (.p _) => .bad
  | some _ => match setT j e (ρ2.set i (.o d)) with
    | some ρ3 => .ok .nx ρ3
    | none => .bad := rfl
def getF' (cs r : List Int) : D → D
  | .int c => .int (getZ cs r c)
  | _ => .non


/-! ### all contents -/
def outI : D → List Int
  | .tup ds => ds.map int0
  | _ => []
def outR (r : Res D) : List (List Int) := match r with
  | .ok (.lst ds) _ => ds.map outI
  | _ => []
/-! ### fit scripts -/
theorem wd_place {p : Str} (h : place p) : wd (.str p) ["refs", "rows"] = true := by rcases h with rfl | rfl <;> simp [wd]
theorem prsB_ok {b : Int} {t : List (Int × Int)} (h1 : 1 ≤ t.length) (h2 : t.length ≤ 6) (h : ∀ q ∈ t, inB b q) : prsB b (prsD t) = true := by
  have : (t.map prD).all (pairB b) = true := List.all_eq_true.mpr fun x hx => by
    obtain ⟨q, hq, rfl⟩ := List.mem_map.mp hx
    exact pairB_pr (h q hq)
  unfold prsB prsD
  simp [h1, h2]
  exact fun a c hq => pairB_pr (h (a, c) hq)
theorem tabB_ok {b : Int} {t : List (Int × Int)} (h : okTab b t) (hb : 0 ≤ b) : tabB b (prsD t) = true := by
  have hl := tab_len h hb
  have h1 : 1 ≤ t.length := List.length_pos_iff.mpr h.1
  have hr : risesB ((t.map prD).map fst0) = true := by
    rw [fst_pr]
    exact (risesB_iff _).mpr h.2.1
  have ha : (t.map prD).all (pairB b) = true := List.all_eq_true.mpr fun x hx => by
    obtain ⟨q, hq, rfl⟩ := List.mem_map.mp hx
    exact pairB_pr (h.2.2 q hq)
  show (decide (1 ≤ (t.map prD).length) && decide (((t.map prD).length : Int) ≤ b) && (t.map prD).all (pairB b) && risesB ((t.map prD).map fst0)) = true
  rw [hr, ha, List.length_map, decide_eq_true h1, decide_eq_true hl]
  rfl
theorem stB_ok {b : Int} {s : Stm} (h : s.ok b) (hb : 0 ≤ b) : stB b s.d = true := by
  cases s with
  | one p x y =>
    have hp := wd_place h.1
    have h2 : pairB b (.tup [.int x, .int y]) = true := pairB_pr (p := (x, y)) ⟨h.2.1.1, h.2.1.2, h.2.2.1, h.2.2.2⟩
    have hk : wd (.str "one") ["one"] = true := by simp [wd]
    simp [Stm.d, stB, hp, h2, hk]
  | all p t =>
    have hp := wd_place h.1
    have h2 := tabB_ok h.2 hb
    have hk : wd (.str "all") ["all"] = true := by simp [wd]
    simp [Stm.d, stB, hp, h2, hk]
  | each p t =>
    have hp := wd_place h.1
    have h2 := prsB_ok h.2.1 h.2.2.1 h.2.2.2
    have hk : wd (.str "each") ["each"] = true := by simp [wd]
    simp [Stm.d, stB, hp, h2, hk]
  | add p n y =>
    have hp := wd_place h.1
    obtain ⟨_, n1, n2, n3, hy⟩ := h
    have h2 : inI (.int n) (-4) 4 = true := by simp [inI, n1, n2]
    have h3 : nz (.int n) = true := by simp [nz, n3]
    have h4 : wd (.str y) ["down", "up"] = true := by rcases hy with rfl | rfl <;> simp [wd]
    have hk : wd (.str "add") ["add"] = true := by simp [wd]
    simp [Stm.d, stB, hp, h2, h3, h4, hk]
theorem scB_ok {b n : Int} {l : List Stm} (h : okSc b n l) (hn : n ≤ 8) (hb : 0 ≤ b) : scB b (scD l) = true := by
  have hl := h.1
  have h1 : l.length ≤ 8 := by omega
  unfold scB scD
  simp [h1]
  exact fun s hs => stB_ok (h.2 s hs) hb
/-! ### a value is like itself -/
theorem eq_self {n : Nat} {d : D} (h : Gd n d) (hn : n ≤ 60) : eqD d d = some (.bl true) := by
  obtain ⟨p, h1, h2, h3⟩ := h.toP
  have h4 : PySem.SeqAt.shaped p = true := by unfold PySem.SeqAt.shaped; rw [h2, decide_eq_true (by omega)]; rfl
  unfold eqD eqvD
  rw [h1]
  simp only [h4]
  rw [PySem.SeqAt.eqv_refl p h2]
  rfl
def sameF (k : Nat) : D → D
  | .prt [x, _] => .bl true
  | _ => .bl true
theorem zip_self (ds : List D) : zipD ds ds = ds.map fun x => .prt [x, x] := by
  unfold zipD
  induction ds with
  | nil => rfl
  | cons x xs ih => rw [List.zip_cons_cons, List.map_cons, List.map_cons, ih]
theorem all_true (ds : List D) : allF [.lst (ds.map fun _ => D.bl true)] = some (.bl true) := by
  have := all_map (fun _ => true) ds
  rw [this]
  congr 2
  induction ds with
  | nil => rfl
  | cons x xs ih => simp
theorem same_self : ∀ (k : Nat) (d : D), Gd k d → k ≤ 60 → r__law_same (k + 1) [.v d, .v d] = .ok (.bl true) [.v d, .v d] := by
  have atom : ∀ (k n : Nat) (d : D), Gd n d → n ≤ 60 → isTup d = false → isiF [d, .ty "list"] = some (.bl false) → r__law_same (k + 1) [.v d, .v d] = .ok (.bl true) [.v d, .v d] := fun k n d h hn ht hl => by
    have h1 := isi_tup h
    have h2 := isi_str h
    have h3 := isi_int h
    have h4 := isi_bool h
    have h5 := eq_self h hn
    rw [ht] at h1
    unfold r__law_same b__law_same
    cases d with
    | non =>
      have q1 : ∀ ρ : Ro, ρ[0]? = some (.v .non) → isiTE ["bool", "list", "tuple"] (varE 0) ρ = .ok (.bl false) ρ := fun ρ hρ => by
        show (varE 0 ρ).bind _ = _
        rw [ev_varE, hρ]; rfl
      have q2 : ∀ ρ : Ro, ρ[1]? = some (.v .non) → isiTE ["bool", "list", "tuple"] (varE 1) ρ = .ok (.bl false) ρ := fun ρ hρ => by
        show (varE 1 ρ).bind _ = _
        rw [ev_varE, hρ]; rfl
      have q3 : isD .non .non = some (.bl true) := rfl
      simp [h1, h2, h3, hl, q1, q2, q3, isStr, isInt]
    | bl b =>
      have q1 : ∀ ρ : Ro, ρ[0]? = some (.v (.bl b)) → isiTE ["bool", "list", "tuple"] (varE 0) ρ = .ok (.bl true) ρ := fun ρ hρ => by
        show (varE 0 ρ).bind _ = _
        rw [ev_varE, hρ]; rfl
      simp [h1, h4, hl, q1, isBool]
    | int i =>
      have q1 : ∀ ρ : Ro, ρ[0]? = some (.v (.int i)) → isiTE ["bool", "list", "tuple"] (varE 0) ρ = .ok (.bl false) ρ := fun ρ hρ => by
        show (varE 0 ρ).bind _ = _
        rw [ev_varE, hρ]; rfl
      have q2 : ∀ ρ : Ro, ρ[1]? = some (.v (.int i)) → isiTE ["bool", "list", "tuple"] (varE 1) ρ = .ok (.bl false) ρ := fun ρ hρ => by
        show (varE 1 ρ).bind _ = _
        rw [ev_varE, hρ]; rfl
      simp [h1, h3, hl, q1, q2, isInt]
    | str s =>
      have q1 : ∀ ρ : Ro, ρ[0]? = some (.v (.str s)) → isiTE ["bool", "list", "tuple"] (varE 0) ρ = .ok (.bl false) ρ := fun ρ hρ => by
        show (varE 0 ρ).bind _ = _
        rw [ev_varE, hρ]; rfl
      have q2 : ∀ ρ : Ro, ρ[1]? = some (.v (.str s)) → isiTE ["bool", "list", "tuple"] (varE 1) ρ = .ok (.bl false) ρ := fun ρ hρ => by
        show (varE 1 ρ).bind _ = _
        rw [ev_varE, hρ]; rfl
      simp [h1, h2, h3, hl, q1, q2, isInt, isStr, h5]
    | tup ds => simp [isTup] at ht
    | lst ds => exact absurd (show some (D.bl true) = some (D.bl false) from hl) (by simp)
    | _ => cases n <;> simp [Gd] at h
  have seq : ∀ (k : Nat) (d : D) (ds : List D), (d = .tup ds ∨ d = .lst ds) → Gd (k + 1) d → (∀ x ∈ ds, r__law_same (k + 1) [.v x, .v x] = .ok (.bl true) [.v x, .v x]) → ds.length ≤ 40 → r__law_same (k + 2) [.v d, .v d] = .ok (.bl true) [.v d, .v d] := fun k d ds hd h hx hl => by
    have e := lcE_map (vs := [2, 3]) (fi := zipI (consE (varE 0) (consE (varE 1) (retE [])))) (g := tupT 2 (consT (setT 2) (consT (setT 3) nilT))) (ft := yesT) (fe := callE (r__law_same (k + 1)) (argV (varE 2) (argV (varE 3) (retE [])))) (ρ := [.v d, .v d, .u, .u]) (ds := ds.map fun x => .prt [x, x]) (fun _ => .bl true)
      (by rcases hd with rfl | rfl <;> simp [zip_self]) (by simp) (by simp; omega) (fun y hy => by
        obtain ⟨x, hxm, rfl⟩ := List.mem_map.mp hy
        exact ⟨[.v d, .v d, .v x, .v x], [.v d, .v d, .v x, .v x], [.v d, .v d, .v x, .v x], by simp, by simp, by simp [hx x hxm], by simp⟩)
    rw [List.map_map] at e
    have al := all_true ds
    unfold r__law_same b__law_same
    rcases hd with rfl | rfl
    · have i1 : isiF [.tup ds, .ty "list"] = some (.bl false) := rfl
      have i2 : isiF [.tup ds, .ty "tuple"] = some (.bl true) := rfl
      simp [i1, i2]
      rw [e]
      simp only [ev_okb]
      rw [show ds.map ((fun _ => D.bl true) ∘ fun x => D.prt [x, x]) = ds.map fun _ => D.bl true from rfl, al]
      simp
    · have i1 : isiF [.lst ds, .ty "list"] = some (.bl true) := rfl
      simp [i1]
      rw [e]
      simp only [ev_okb]
      rw [show ds.map ((fun _ => D.bl true) ∘ fun x => D.prt [x, x]) = ds.map fun _ => D.bl true from rfl, al]
      simp
  intro k
  induction k with
  | zero =>
    intro d h hn
    cases d <;> first | exact atom 0 0 _ h hn rfl rfl | (simp [Gd] at h)
  | succ k ih =>
    intro d h hn
    cases d with
    | tup ds =>
      simp only [Gd] at h
      exact seq k _ ds (.inl rfl) h (fun x hx => ih x (h.2 x hx) (by omega)) h.1
    | lst ds =>
      simp only [Gd] at h
      exact seq k _ ds (.inr rfl) h (fun x hx => ih x (h.2 x hx) (by omega)) h.1
    | _ => first | exact atom (k + 1) (k + 1) _ h hn rfl rfl | (simp [Gd] at h)
theorem same_ok {d : D} (h : Gd 7 d) : m__law_same [.v d, .v d] = .ok (.bl true) [.v d, .v d] := same_self 7 d h (by omega)

end DL

/-! Plain maths: what is a statement, a script (printed by split.py). -/
namespace DL
open PySem L2


def erD (p : Str × Int) : D := .tup [.str p.1, .int p.2]
def errZ (cs rows : List Int) (n there : Int) : List (Str × Int) := if n ∈ cs then (if getZ cs rows n = there then [] else [("astray", n)]) else (if there ∈ rows then [("caught", n)] else [])
def errF (cs : List Int) (e : Eff) : List (Str × Int) := e.2.1.zipIdx.flatMap fun p => errZ cs e.1 (p.2 : Nat) p.1
def clsF (e : Eff) : List (Str × Int) := if 0 ≤ e.2.2 then [("clash", e.2.2)] else []
def errL (cs : List Int) (e : Eff) : List D := isort leD' ((errF cs e).map erD) ++ (clsF e).map erD
def errD (cs : List Int) (e : Eff) : D := .lst (errL cs e)
/-! ### sorting -/
theorem toPs_ers : ∀ L : List (Str × Int), toPs (L.map erD) = some (L.map fun p => PyData.tuple [.str p.1, .int p.2])
  | [] => rfl
  | p :: L => by rw [List.map_cons, toPs, toPs_ers L]; rfl
theorem sort_ers (L : List (Str × Int)) : sortF [.lst (L.map erD)] = some (.lst (isort leD' (L.map erD))) := by
  have ok : sortOk (L.map fun p => PyData.tuple [PyData.str p.1, PyData.int p.2]) = true := by
    unfold sortOk
    simp only [List.all_map, Bool.and_eq_true, Bool.or_eq_true, List.all_eq_true]
    exact ⟨⟨fun x _ => List.all_eq_true.mpr fun y _ => rfl, .inl fun x _ => rfl⟩, fun x _ => rfl⟩
  simp only [sortF]
  by_cases h2 : (L.map erD).length < 2
  · rw [if_pos h2]
    match L, h2 with
    | [], _ => rfl
    | [_], _ => rfl
    | _ :: _ :: _, h2 => exact absurd h2 (by simp)
  · rw [if_neg h2, toPs_ers]
    simp only [ok, if_true]
theorem clash_last (i j : Int) (s : Str) (hs : s = "astray" ∨ s = "caught") : leD' (erD ("clash", i)) (erD (s, j)) = false := by
  unfold leD'
  rw [show pOf (erD (s, j)) = .tuple [.str s, .int j] from rfl, show pOf (erD ("clash", i)) = .tuple [.str "clash", .int i] from rfl, PySem.W.dataLt_pair rfl rfl]
  rcases hs with rfl | rfl
  · rw [if_neg (by decide), PySem.W.dataLt_str]; rfl
  · rw [if_neg (by decide), PySem.W.dataLt_str]; rfl
theorem errF_words {cs : List Int} {e : Eff} {p : Str × Int} (h : p ∈ errF cs e) : p.1 = "astray" ∨ p.1 = "caught" := by
  unfold errF at h
  obtain ⟨q, _, hq⟩ := List.mem_flatMap.mp h
  unfold errZ at hq
  split at hq
  · split at hq
    · simp at hq
    · rw [List.mem_singleton] at hq; rw [hq]; exact .inl rfl
  · split at hq
    · rw [List.mem_singleton] at hq; rw [hq]; exact .inr rfl
    · simp at hq
theorem sort_clash (cs : List Int) (e : Eff) : isort leD' ((clsF e ++ errF cs e).map erD) = errL cs e := by
  unfold clsF errL
  by_cases h : 0 ≤ e.2.2
  · rw [if_pos h]
    unfold clsF
    rw [if_pos h]
    show insD leD' (erD ("clash", e.2.2)) (isort leD' ((errF cs e).map erD)) = _
    have := insD_mid (le := leD') (x := erD ("clash", e.2.2)) (l1 := isort leD' ((errF cs e).map erD)) (l2 := []) (fun y hy => by
      obtain ⟨p, hp, rfl⟩ := List.mem_map.mp (mem_isort hy)
      exact clash_last _ _ _ (errF_words hp)) (by simp)
    rw [List.append_nil] at this
    exact this
  · rw [if_neg h]
    unfold clsF
    rw [if_neg h]
    simp
/-! ### the program -/
@[simp] theorem ev_dictZip {fa : EM (List D)} {ρ : Ro} : dictZipE fa ρ = (fa ρ).bind fun ds ρ1 => liftO (match ds with | [.tup xs, .tup ys] => zipF xs ys | [.lst xs, .lst ys] => zipF xs ys | _ => none) ρ1 := rfl
theorem keysD_ints : ∀ l : List Int, keysD (l.map D.int) = some (l.map Sum.inl)
  | [] => rfl
  | i :: l => by rw [List.map_cons, keysD, keysD_ints l]; rfl
theorem mergeZ_ints : ∀ (cs rows : List Int) (acc : List (Int × Int)), (acc.map (·.1) ++ cs).Nodup → mergeZ (acc.map kvD) (cs.map .int) (rows.map .int) = some ((acc ++ cs.zip rows).map kvD)
  | [], rows, acc, _ => by simp [mergeZ]
  | c :: cs, [], acc, _ => by simp [mergeZ]
  | c :: cs, r :: rows, acc, h => by
    have hp : putD (acc.map kvD) (.int c) (.inl c) (.int r) = (acc ++ [(c, r)]).map kvD := by
      unfold putD
      have : ((acc.map kvD).any fun q => decide (keyD q.1 = some (.inl c))) = false := by
        rw [List.any_map, List.any_eq_false]
        intro q hq
        simp only [Function.comp, kvD, key_int, Option.some.injEq, Sum.inl.injEq, decide_eq_true_eq]
        intro e
        rw [List.nodup_append] at h
        exact h.2.2 q.1 (List.mem_map.mpr ⟨q, hq, rfl⟩) c (by simp) e
      rw [if_neg (by rw [this]; simp), List.map_append]
      rfl
    rw [List.map_cons, List.map_cons]
    unfold mergeZ
    simp only [key_int]
    rw [hp]
    have := mergeZ_ints cs rows (acc ++ [(c, r)]) (by rw [List.map_append, List.append_assoc]; exact h)
    rw [this, List.append_assoc]
    rfl
theorem zip_dz (cs rows : List Int) (h : cs.Nodup) : zipF (cs.map .int) (rows.map .int) = some (dz cs rows) := by
  have := mergeZ_ints cs rows [] (by simpa using h)
  unfold zipF
  rw [keysD_ints]
  simp only
  rw [show ([] : List (D × D)) = ([] : List (Int × Int)).map kvD from rfl, this]
  rfl
theorem lookup_mem {cs rows : List Int} (hl : cs.length = rows.length) (n : Int) : ((cs.zip rows).lookup n).isSome = decide (n ∈ cs) := by
  induction cs generalizing rows with
  | nil => simp
  | cons c cs ih =>
    cases rows with
    | nil => simp at hl
    | cons r rows =>
      rw [List.zip_cons_cons, List.lookup_cons]
      by_cases h : n = c
      · subst h; simp
      · have : (n == c) = false := beq_eq_false_iff_ne.mpr h
        rw [this]
        simp only
        rw [ih (by simpa using hl)]
        simp [h]
theorem in_dz {cs rows : List Int} (hl : cs.length = rows.length) (n : Int) : inK (.int n) (dz cs rows) = some (.bl (decide (n ∈ cs))) := by
  show (keyD (.int n)).map (fun k => D.bl (valD ((cs.zip rows).map kvD) k).isSome) = _
  rw [key_int, Option.map_some, tab_val, Option.isSome_map, lookup_mem hl]
theorem in_rows (rows : List Int) (x : Int) : inD (.int x) (tupI' rows) = some (.bl (decide (x ∈ rows))) := by
  unfold inD
  have h1 : seqOf (tupI' rows) = some (rows.map .int) := rfl
  rw [h1]
  simp only
  have h2 : (rows.map D.int).all flatD = true := by rw [List.all_map]; exact List.all_eq_true.mpr fun _ _ => rfl
  rw [h2]
  have h3 : memF (.int x) (rows.map .int) = decide (x ∈ rows) := by
    unfold memF
    rw [List.any_map, Bool.eq_iff_iff, List.any_eq_true, decide_eq_true_eq]
    constructor
    · rintro ⟨y, hy, e⟩
      have : y = x := by
        have : (y == x) = true := e
        simpa using this
      exact this ▸ hy
    · intro h
      exact ⟨x, h, by show (x == x) = true; simp⟩
  rw [h3]
  rfl
def rfD (p : Int × Nat) : D := .prt [.int (p.2 : Nat), .int p.1]
theorem errs_loop (x1 x3 x4 : Sl) (cs rows : List Int) (hc : cs.Nodup) (hl : cs.length = rows.length) : ∀ (l : List (Int × Nat)) (acc : List (Str × Int)) (x7 x8 : Sl), notP x7 = true → notP x8 = true → acc.length + l.length ≤ 1000 →
    ∃ y7 y8, loopS (tupT 2 (consT (setT 7) (consT (setT 8) nilT))) (ifS (testE (bin2 inK (varE 7) (varE 5))) (ifS (testE (bin2 neD (bin2 ixD (varE 5) (varE 7)) (varE 8))) (appS 6 (tupE (consE (retE (.str "astray")) (consE (varE 7) (retE []))))) nextS) (ifS (testE (bin2 inD (varE 8) (varE 2))) (appS 6 (tupE (consE (retE (.str "caught")) (consE (varE 7) (retE []))))) nextS)) (l.map rfD)
      [.v (tupI' cs), x1, .v (tupI' rows), x3, x4, .v (dz cs rows), .o (.lst (acc.map erD)), x7, x8] = .ok .nx [.v (tupI' cs), x1, .v (tupI' rows), x3, x4, .v (dz cs rows), .o (.lst ((acc ++ l.flatMap fun p => errZ cs rows (p.2 : Nat) p.1).map erD)), y7, y8]
  | [], acc, x7, x8, _, _, _ => ⟨x7, x8, by simp; rfl⟩
  | (t, n) :: l, acc, x7, x8, h7, h8, hz => by
    have i1 := in_dz hl (n : Int)
    have i2 := in_rows rows t
    have i3 := fun (h : (n : Int) ∈ cs) => dz_at hc hl h
    have rest := fun acc' h => errs_loop x1 x3 x4 cs rows hc hl l acc' (.v (.int (n : Nat))) (.v (.int t)) rfl rfl h
    have hla : (acc.map erD).length ≤ 1000000 := by rw [List.length_map]; omega
    rw [List.length_cons] at hz
    generalize dz cs rows = dd at *
    rw [List.map_cons, loop_cons (ρ1 := [.v (tupI' cs), x1, .v (tupI' rows), x3, x4, .v dd, .o (.lst (acc.map erD)), .v (.int (n : Nat)), .v (.int t)]) (by simp [-ev_setT, ev_setTn, rfD, h7, h8]), show ((t, n) :: l).flatMap (fun p => errZ cs rows (p.2 : Nat) p.1) = errZ cs rows (n : Int) t ++ l.flatMap (fun p => errZ cs rows (p.2 : Nat) p.1) from List.flatMap_cons ..]
    have ez : errZ cs rows (n : Int) t = if (n : Int) ∈ cs then (if getZ cs rows n = t then [] else [(("astray" : Str), (n : Int))]) else (if t ∈ rows then [(("caught" : Str), (n : Int))] else []) := rfl
    rw [ez]
    by_cases c1 : (n : Int) ∈ cs
    · rw [decide_eq_true c1] at i1
      have i3' := i3 c1
      rw [if_pos c1]
      by_cases c2 : getZ cs rows n = t
      · rw [if_pos c2, List.nil_append]
        obtain ⟨y7, y8, e⟩ := rest acc (by omega)
        refine ⟨y7, y8, ?_⟩
        generalize (acc ++ l.flatMap fun p => errZ cs rows (p.2 : Nat) p.1).map erD = R at e ⊢
        simp [i1, i3', c2]
        exact e
      · rw [if_neg c2]
        obtain ⟨y7, y8, e⟩ := rest (acc ++ [(("astray" : Str), (n : Int))]) (by rw [List.length_append]; simp; omega)
        refine ⟨y7, y8, ?_⟩
        have hm : (acc ++ [(("astray" : Str), (n : Int))]).map erD = acc.map erD ++ [.tup [.str "astray", .int (n : Int)]] := by rw [List.map_append]; rfl
        rw [hm, List.append_assoc] at e
        generalize (acc ++ ([(("astray" : Str), (n : Int))] ++ l.flatMap fun p => errZ cs rows (p.2 : Nat) p.1)).map erD = R at e ⊢
        have hla' : acc.length ≤ 1000000 := by omega
        simp [i1, i3', c2, hla']
        exact e
    · rw [decide_eq_false c1] at i1
      rw [if_neg c1]
      by_cases c2 : t ∈ rows
      · rw [decide_eq_true c2] at i2
        rw [if_pos c2]
        obtain ⟨y7, y8, e⟩ := rest (acc ++ [(("caught" : Str), (n : Int))]) (by rw [List.length_append]; simp; omega)
        refine ⟨y7, y8, ?_⟩
        have hm : (acc ++ [(("caught" : Str), (n : Int))]).map erD = acc.map erD ++ [.tup [.str "caught", .int (n : Int)]] := by rw [List.map_append]; rfl
        rw [hm, List.append_assoc] at e
        generalize (acc ++ ([(("caught" : Str), (n : Int))] ++ l.flatMap fun p => errZ cs rows (p.2 : Nat) p.1)).map erD = R at e ⊢
        have hla' : acc.length ≤ 1000000 := by omega
        simp [i1, i2, hla']
        exact e
      · rw [decide_eq_false c2] at i2
        rw [if_neg c2, List.nil_append]
        obtain ⟨y7, y8, e⟩ := rest acc (by omega)
        refine ⟨y7, y8, ?_⟩
        generalize (acc ++ l.flatMap fun p => errZ cs rows (p.2 : Nat) p.1).map erD = R at e ⊢
        simp [i1, i2]
        exact e


theorem ne_of_eq {a b : D} {k : Bool} (h : eqD a b = some (.bl k)) : neD a b = some (.bl (!k)) := by
  unfold eqD at h
  unfold neD
  cases e : eqvD a b with
  | none => rw [e] at h; cases h
  | some q =>
    rw [e] at h
    have : D.bl q = D.bl k := Option.some.inj h
    rw [D.bl.inj this]
    rfl
theorem own_is : ∀ (cs rows : List Int) (n : Int), cs.Nodup → cs.length = rows.length → ((cs.zip rows).filter fun p => p.1 == n).map (·.2) = if n ∈ cs then [getZ cs rows n] else []
  | [], rows, n, _, _ => by simp
  | c :: cs, [], n, _, hl => by simp at hl
  | c :: cs, r :: rows, n, hc, hl => by
    rw [List.nodup_cons] at hc
    have ih := own_is cs rows n hc.2 (by simpa using hl)
    rw [List.zip_cons_cons]
    by_cases h : c = n
    · subst h
      rw [if_neg hc.1] at ih
      rw [List.filter_cons_of_pos (by simp), List.map_cons, ih, if_pos List.mem_cons_self]
      simp [getZ]
    · rw [List.filter_cons_of_neg (by simp [h]), ih]
      have h1 : (n ∈ c :: cs) ↔ n ∈ cs := by
        rw [List.mem_cons]
        exact ⟨fun q => q.resolve_left fun e => h e.symm, .inr⟩
      have h2 : getZ (c :: cs) (r :: rows) n = getZ cs rows n := by
        unfold getZ
        rw [List.zip_cons_cons, List.lookup_cons]
        have : (n == c) = false := beq_eq_false_iff_ne.mpr fun e => h e.symm
        rw [this]
      simp only [h1, h2]
theorem own_lc (x1 x3 x4 : Sl) (x5 : Sl) (cs rows : List Int) (hc : cs.Nodup) (hl : cs.length = rows.length) (hz : cs.length ≤ 1000) (n : Int) (there : D) (x8 : Sl) :
    lcE [9, 10] (zipI (consE (varE 0) (consE (varE 2) (retE [])))) (tupT 2 (consT (setT 9) (consT (setT 10) nilT))) (testE (bin2 eqD (varE 9) (varE 6))) (varE 10)
      [.v (tupI' cs), x1, .v (tupI' rows), x3, x4, x5, .v (.int n), .v there, x8, .u, .u] = .ok (.lst ((if n ∈ cs then [getZ cs rows n] else []).map .int)) [.v (tupI' cs), x1, .v (tupI' rows), x3, x4, x5, .v (.int n), .v there, x8, .u, .u] := by
  have zi : zipD (cs.map .int) (rows.map .int) = (cs.zip rows).map fun p => .prt [.int p.1, .int p.2] := zip_ints cs rows
  have e := lcE_filter (vs := [9, 10]) (fi := zipI (consE (varE 0) (consE (varE 2) (retE [])))) (g := tupT 2 (consT (setT 9) (consT (setT 10) nilT))) (ft := testE (bin2 eqD (varE 9) (varE 6))) (fe := varE 10) (ρ := [.v (tupI' cs), x1, .v (tupI' rows), x3, x4, x5, .v (.int n), .v there, x8, .u, .u]) (ds := (cs.zip rows).map fun p => .prt [.int p.1, .int p.2])
    (fun d => match d with | .prt [.int k, _] => k == n | _ => false) (fun d => match d with | .prt [_, v] => v | _ => .non)
    (by simp [tupI', zi]) (by simp) (by simp; omega) (fun d hd => by
      obtain ⟨q, _, rfl⟩ := List.mem_map.mp hd
      exact ⟨[.v (tupI' cs), x1, .v (tupI' rows), x3, x4, x5, .v (.int n), .v there, x8, .v (.int q.1), .v (.int q.2)], [.v (tupI' cs), x1, .v (tupI' rows), x3, x4, x5, .v (.int n), .v there, x8, .v (.int q.1), .v (.int q.2)], by simp, by simp, by simp, fun _ => ⟨[.v (tupI' cs), x1, .v (tupI' rows), x3, x4, x5, .v (.int n), .v there, x8, .v (.int q.1), .v (.int q.2)], by simp, by simp⟩⟩)
  have e2 : (((cs.zip rows).map fun p => D.prt [.int p.1, .int p.2]).filter fun d => match d with | .prt [.int k, _] => k == n | _ => false).map (fun d => match d with | .prt [_, v] => v | _ => .non) = (((cs.zip rows).filter fun p => p.1 == n).map (·.2)).map D.int := by
    rw [List.filter_map, List.map_map, List.map_map]
    rfl
  rw [e2, own_is cs rows n hc hl] at e
  exact e
theorem law_errs_loop (x1 x3 x4 : Sl) (cs rows : List Int) (hc : cs.Nodup) (hl : cs.length = rows.length) (hcz : cs.length ≤ 1000) : ∀ (l : List (Int × Nat)) (acc : List (Str × Int)) (x6 x7 x8 : Sl), notP x6 = true → notP x7 = true → notP x8 = true → acc.length + l.length ≤ 1000 →
    ∃ y6 y7 y8, loopS (tupT 2 (consT (setT 6) (consT (setT 7) nilT))) (seqS (asgS (lcE [9, 10] (zipI (consE (varE 0) (consE (varE 2) (retE [])))) (tupT 2 (consT (setT 9) (consT (setT 10) nilT))) (testE (bin2 eqD (varE 9) (varE 6))) (varE 10)) (setT 8)) (seqS (ifS (andT (testE (bin2 neD (varE 8) (lstE (retE [])))) (testE (bin2 neD (varE 8) (lstE (consE (varE 7) (retE [])))))) (appS 5 (tupE (consE (retE (.str "astray")) (consE (varE 6) (retE []))))) nextS) (ifS (andT (testE (bin2 eqD (varE 8) (lstE (retE [])))) (testE (bin2 inD (varE 7) (varE 2)))) (appS 5 (tupE (consE (retE (.str "caught")) (consE (varE 6) (retE []))))) nextS))) (l.map rfD)
      [.v (tupI' cs), x1, .v (tupI' rows), x3, x4, .o (.lst (acc.map erD)), x6, x7, x8, .u, .u] = .ok .nx [.v (tupI' cs), x1, .v (tupI' rows), x3, x4, .o (.lst ((acc ++ l.flatMap fun p => errZ cs rows (p.2 : Nat) p.1).map erD)), y6, y7, y8, .u, .u]
  | [], acc, x6, x7, x8, _, _, _, _ => ⟨x6, x7, x8, by simp; rfl⟩
  | (t, n) :: l, acc, x6, x7, x8, h6, h7, h8, hz => by
    have ow := own_lc x1 x3 x4 (.o (.lst (acc.map erD))) cs rows hc hl hcz (n : Int) (.int t) x8
    have i2 := in_rows rows t
    have rest := fun acc' z8 n8 h => law_errs_loop x1 x3 x4 cs rows hc hl hcz l acc' (.v (.int (n : Nat))) (.v (.int t)) z8 rfl rfl n8 h
    rw [List.length_cons] at hz
    have hla' : acc.length ≤ 1000000 := by omega
    rw [List.map_cons, loop_cons (ρ1 := [.v (tupI' cs), x1, .v (tupI' rows), x3, x4, .o (.lst (acc.map erD)), .v (.int (n : Nat)), .v (.int t), x8, .u, .u]) (by simp [-ev_setT, ev_setTn, rfD, h6, h7]), show ((t, n) :: l).flatMap (fun p => errZ cs rows (p.2 : Nat) p.1) = errZ cs rows (n : Int) t ++ l.flatMap (fun p => errZ cs rows (p.2 : Nat) p.1) from List.flatMap_cons ..]
    have ez : errZ cs rows (n : Int) t = if (n : Int) ∈ cs then (if getZ cs rows n = t then [] else [(("astray" : Str), (n : Int))]) else (if t ∈ rows then [(("caught" : Str), (n : Int))] else []) := rfl
    rw [ez]
    by_cases c1 : (n : Int) ∈ cs
    · rw [if_pos c1] at ow ⊢
      have n1 : neD (.lst [.int (getZ cs rows n)]) (.lst []) = some (.bl true) := ne_nil [getZ cs rows n]
      have n2 : eqD (.lst [.int (getZ cs rows n)]) (.lst []) = some (.bl false) := eq_ints [getZ cs rows n] []
      have n3 : neD (.lst [.int (getZ cs rows n)]) (.lst [.int t]) = some (.bl (!decide (getZ cs rows n = t))) := by
        have := ne_of_eq (eq_ints [getZ cs rows n] [t])
        simpa using this
      rw [List.map_cons, List.map_nil] at ow
      by_cases c2 : getZ cs rows n = t
      · rw [if_pos c2, List.nil_append]
        rw [decide_eq_true c2] at n3
        obtain ⟨y6, y7, y8, e⟩ := rest acc (.v (.lst [.int (getZ cs rows n)])) rfl (by omega)
        refine ⟨y6, y7, y8, ?_⟩
        generalize (acc ++ l.flatMap fun p => errZ cs rows (p.2 : Nat) p.1).map erD = R at e ⊢
        simp [-ev_setT, ev_setTn, h8]
        rw [ow]
        simp [-ev_setT, ev_setTn, h8, n1, n2, n3]
        exact e
      · rw [if_neg c2]
        rw [decide_eq_false c2] at n3
        obtain ⟨y6, y7, y8, e⟩ := rest (acc ++ [(("astray" : Str), (n : Int))]) (.v (.lst [.int (getZ cs rows n)])) rfl (by rw [List.length_append]; simp; omega)
        refine ⟨y6, y7, y8, ?_⟩
        have hm : (acc ++ [(("astray" : Str), (n : Int))]).map erD = acc.map erD ++ [.tup [.str "astray", .int (n : Int)]] := by rw [List.map_append]; rfl
        rw [hm, List.append_assoc] at e
        generalize (acc ++ ([(("astray" : Str), (n : Int))] ++ l.flatMap fun p => errZ cs rows (p.2 : Nat) p.1)).map erD = R at e ⊢
        simp [-ev_setT, ev_setTn, h8]
        rw [ow]
        simp [-ev_setT, ev_setTn, h8, n1, n2, n3, hla']
        exact e
    · rw [if_neg c1] at ow ⊢
      have n1 : neD (.lst []) (.lst []) = some (.bl false) := rfl
      have n2 : eqD (.lst []) (.lst []) = some (.bl true) := rfl
      rw [List.map_nil] at ow
      by_cases c2 : t ∈ rows
      · rw [decide_eq_true c2] at i2
        rw [if_pos c2]
        obtain ⟨y6, y7, y8, e⟩ := rest (acc ++ [(("caught" : Str), (n : Int))]) (.v (.lst [])) rfl (by rw [List.length_append]; simp; omega)
        refine ⟨y6, y7, y8, ?_⟩
        have hm : (acc ++ [(("caught" : Str), (n : Int))]).map erD = acc.map erD ++ [.tup [.str "caught", .int (n : Int)]] := by rw [List.map_append]; rfl
        rw [hm, List.append_assoc] at e
        generalize (acc ++ ([(("caught" : Str), (n : Int))] ++ l.flatMap fun p => errZ cs rows (p.2 : Nat) p.1)).map erD = R at e ⊢
        simp [-ev_setT, ev_setTn, h8]
        rw [ow]
        simp [-ev_setT, ev_setTn, h8, n1, n2, i2, hla']
        exact e
      · rw [decide_eq_false c2] at i2
        rw [if_neg c2, List.nil_append]
        obtain ⟨y6, y7, y8, e⟩ := rest acc (.v (.lst [])) rfl (by omega)
        refine ⟨y6, y7, y8, ?_⟩
        generalize (acc ++ l.flatMap fun p => errZ cs rows (p.2 : Nat) p.1).map erD = R at e ⊢
        simp [-ev_setT, ev_setTn, h8]
        rw [ow]
        simp [-ev_setT, ev_setTn, h8, n1, n2, i2]
        exact e


theorem gd_ints {n : Nat} {c : List Int} (h : c.length ≤ 40) : Gd (n + 1) (tupI' c) := ⟨by simpa using h, fun x hx => by
  obtain ⟨i, _, rfl⟩ := List.mem_map.mp hx
  cases n <;> trivial⟩
theorem rg_len (b : Int) (h1 : 2 ≤ b) (h2 : b ≤ 5) : (rgZ b).length ≤ 5 := by unfold rgZ; simp; omega
theorem eff_lens (b : Int) (l : List Stm) (c : List Int) (hn : c.Nodup) : (effP b l c).1.length = c.length ∧ (effP b l c).2.1.length = (rgZ b).length ∧ -1 ≤ (effP b l c).2.2 :=
  let ⟨_, k2, k3, k4⟩ := doneP_keep b l.zipIdx c (rgZ b) hn; ⟨k2, k3, k4⟩
theorem isort_len (l : List D) : (isort leD' l).length = l.length := by
  induction l with
  | nil => rfl
  | cons a l ih =>
    have ins : ∀ m : List D, (insD leD' a m).length = m.length + 1 := by
      intro m
      induction m with
      | nil => rfl
      | cons c m ih => unfold insD; split <;> simp [ih]
    show (insD leD' a (isort leD' l)).length = _
    rw [ins, ih]; rfl
theorem errF_len (cs : List Int) (e : Eff) : (errF cs e).length ≤ e.2.1.length := by
  have key : ∀ l : List (Int × Nat), (l.flatMap fun p => errZ cs e.1 (p.2 : Nat) p.1).length ≤ l.length := by
    intro l
    induction l with
    | nil => simp
    | cons p l ih =>
      rw [List.flatMap_cons, List.length_append, List.length_cons]
      have : (errZ cs e.1 (p.2 : Nat) p.1).length ≤ 1 := by unfold errZ; split <;> split <;> simp
      omega
  have := key e.2.1.zipIdx
  rw [List.length_zipIdx] at this
  exact this
theorem gd_er (p : Str × Int) (h : p.1 = "astray" ∨ p.1 = "caught" ∨ p.1 = "clash") (n : Nat) : Gd (n + 1) (erD p) := by
  have hs : PyData.canLay0 (.str p.1) = true := by rcases h with h | h | h <;> rw [h] <;> kernel_rfl
  refine ⟨by simp, fun x hx => ?_⟩
  simp only [List.mem_cons, List.not_mem_nil, or_false] at hx
  rcases hx with rfl | rfl
  · cases n <;> exact hs
  · cases n <;> trivial
theorem gd_errD (cs : List Int) (e : Eff) (h : e.2.1.length ≤ 30) (n : Nat) : Gd (n + 2) (errD cs e) := by
  have h1 := errF_len cs e
  have hcl : (clsF e).length ≤ 1 := by unfold clsF; split <;> simp
  refine ⟨?_, fun x hx => ?_⟩
  · unfold errL
    rw [List.length_append, isort_len, List.length_map, List.length_map]
    omega
  · unfold errL at hx
    rcases List.mem_append.mp hx with hx | hx
    · obtain ⟨p, hp, rfl⟩ := List.mem_map.mp (mem_isort hx)
      exact gd_er p ((errF_words hp).elim .inl fun q => .inr (.inl q)) n
    · obtain ⟨p, hp, rfl⟩ := List.mem_map.mp hx
      unfold clsF at hp
      split at hp
      · rw [List.mem_singleton] at hp
        rw [hp]
        exact gd_er _ (.inr (.inr rfl)) n
      · simp at hp
theorem gd_effD (e : Eff) (h1 : e.1.length ≤ 40) (h2 : e.2.1.length ≤ 40) (n : Nat) : Gd (n + 2) (effD e) := by
  refine ⟨by simp, fun x hx => ?_⟩
  simp only [List.mem_cons, List.not_mem_nil, or_false] at hx
  rcases hx with rfl | rfl | rfl
  · exact gd_ints h1
  · exact gd_ints h2
  · trivial
/-! ### the first wrong contents -/
def badZ (b : Int) (l : List Stm) (c : List Int) : Bool := !(errL c (effP b l c)).isEmpty
def headD (L : List D) : D := L.headD .non
def firstD (b : Int) (l : List Stm) : Option (List Int) → D
  | some c => .tup [tupI' c, headD (errL c (effP b l c))]
  | none => .non
theorem errs_ne (b : Int) (h1 : 2 ≤ b) (h2 : b ≤ 5) (l : List Stm) {c : List Int} (h : c.Pairwise (· < ·)) : neD (errD c (effP b l c)) (.lst []) = some (.bl (badZ b l c)) := by
  have hn : c.Nodup := List.Pairwise.imp (fun h => by omega) h
  obtain ⟨_, m2, _⟩ := eff_lens b l c hn
  have rl := rg_len b h1 h2
  exact (Gd.nil (gd_errD c (effP b l c) (by omega) 0) (by omega)).2
theorem head_at {L : List D} (h : L.isEmpty = false) : ixD (.lst L) (.int 0) = some (headD L) := by
  cases L with
  | nil => simp at h
  | cons x L =>
    show atI (x :: L) ((0 : Nat) : Int) = _
    rw [at_nat]; rfl
end DL

/-! Plain maths: what is a statement, a script (printed by split.py). -/
namespace DL
open PySem L2


def inR (b : Int) (l : List Int) : Prop := ∀ i ∈ l, okI b i
theorem lookup_pair : ∀ {t : List (Int × Int)} {x y : Int}, t.lookup x = some y → (x, y) ∈ t
  | q :: t, x, y, h => by
    rw [List.lookup_cons] at h
    by_cases e : x = q.1
    · subst e
      simp at h
      subst h
      exact List.mem_cons_self
    · have : (x == q.1) = false := beq_eq_false_iff_ne.mpr e
      rw [this] at h
      exact List.mem_cons_of_mem _ (lookup_pair h)
theorem each_range {b : Int} : ∀ {t : List (Int × Int)} {x : Int}, (∀ q ∈ t, inB b q) → okI b x → okI b (eachZ t x)
  | [], _, _, hx => hx
  | q :: t, x, h, hx => by
    have hq := h q List.mem_cons_self
    show okI b (eachZ t (if x = q.1 then q.2 else x))
    refine each_range (fun q hq => h q (List.mem_cons_of_mem _ hq)) ?_
    split
    · exact ⟨hq.2.2.1, hq.2.2.2⟩
    · exact hx
theorem lkp_range {b : Int} {t : List (Int × Int)} {x : Int} (h : ∀ q ∈ t, inB b q) (hx : okI b x) : okI b (lkp t x) := by
  unfold lkp
  cases e : t.lookup x with
  | none => exact hx
  | some y =>
    have := h _ (lookup_pair e)
    exact ⟨this.2.2.1, this.2.2.2⟩
theorem add_range {b n x : Int} (hx : okI b x) : okI b (addZ b n x) := by
  unfold addZ
  split
  · rename_i h; exact h
  · exact hx
theorem turn_range {b : Int} {s : Stm} (hs : s.ok b) {x : Int} (hx : okI b x) : okI b (s.turn b x) := by
  cases s with
  | one p a c =>
    show okI b (if x = a then c else x)
    split
    · exact hs.2.2
    · exact hx
  | all p t => exact lkp_range hs.2.2.2 hx
  | each p t => exact each_range hs.2.2.2 hx
  | add p n y => exact add_range hx
theorem sing_range {b : Int} : ∀ {cs : List (Nat × Int)} {rows : List Int}, inR b rows → (∀ q ∈ cs, okI b q.2) → inR b (sing cs rows).1
  | [], rows, h, _ => h
  | (i, n) :: cs, rows, h, hc => by
    unfold sing
    split
    · refine sing_range (fun j hj => ?_) fun q hq => hc q (List.mem_cons_of_mem _ hq)
      rcases List.mem_or_eq_of_mem_set hj with e | e
      · exact h j e
      · rw [e]; exact hc _ List.mem_cons_self
    · exact h
theorem chO_range {b a c : Int} {rows : List Int} (hc : okI b c) {q : Nat × Int} (h : q ∈ chO a c rows) : okI b q.2 := by
  unfold chO at h
  obtain ⟨p, _, rfl⟩ := List.mem_map.mp h
  exact hc
theorem chA_range {b n : Int} {y : Str} {rows : List Int} (hr : inR b rows) {q : Nat × Int} (h : q ∈ chA b n y rows) : okI b q.2 := by
  unfold chA at h
  obtain ⟨p, hp, rfl⟩ := List.mem_map.mp h
  have h1 := ordZ_mem hp
  have : p.1 ∈ rows := by
    have := (List.mem_zipIdx' h1).2
    rw [this]
    exact List.getElem_mem _
  exact add_range (hr _ this)
theorem eachR_range {b : Int} : ∀ {t : List (Int × Int)} {rows : List Int}, (∀ q ∈ t, inB b q) → inR b rows → inR b (eachR t rows).1
  | [], rows, _, h => h
  | (a, c) :: t, rows, ht, h => by
    have hq := ht _ List.mem_cons_self
    have hc : okI b c := ⟨hq.2.2.1, hq.2.2.2⟩
    have h1 := sing_range (cs := chO a c rows) h fun q hq => chO_range hc hq
    unfold eachR
    split
    · exact h1
    · exact eachR_range (fun q hq => ht q (List.mem_cons_of_mem _ hq)) h1
theorem rowsSt_range {b : Int} {s : Stm} (hs : s.ok b) {rows : List Int} (h : inR b rows) : inR b (rowsSt b s rows).1 := by
  cases s with
  | one p a c => exact sing_range h fun q hq => chO_range hs.2.2 hq
  | all p t =>
    show inR b (if (rows.map (lkp t)).Nodup then (rows.map (lkp t), false) else (rows, true)).1
    split
    · intro i hi
      obtain ⟨x, hx, rfl⟩ := List.mem_map.mp hi
      exact lkp_range hs.2.2.2 (h x hx)
    · exact h
  | each p t => exact eachR_range hs.2.2.2 h
  | add p n y => exact sing_range h fun q hq => chA_range h hq
theorem doneP_range (b : Int) : ∀ (l : List (Stm × Nat)) (rows refs : List Int), (∀ p ∈ l, p.1.ok b) → inR b rows → inR b refs → inR b (doneP b l rows refs).1 ∧ inR b (doneP b l rows refs).2.1
  | [], rows, refs, _, h1, h2 => ⟨h1, h2⟩
  | (s, i) :: l, rows, refs, hl, h1, h2 => by
    have hs := hl _ List.mem_cons_self
    have hl' : ∀ p ∈ l, p.1.ok b := fun p hp => hl p (List.mem_cons_of_mem _ hp)
    unfold doneP
    split
    · exact doneP_range b l rows _ hl' h1 fun i hi => by
        obtain ⟨x, hx, rfl⟩ := List.mem_map.mp hi
        exact turn_range hs (h2 x hx)
    · have := rowsSt_range hs h1
      split
      · exact ⟨this, h2⟩
      · exact doneP_range b l _ refs hl' this h2
/-! ### counting -/
def codeZ (b : Nat) : List Int → Nat
  | [] => 0
  | i :: l => i.toNat + b * codeZ b l
theorem code_lt {b : Nat} (hb : 0 < b) : ∀ {l : List Int}, inR b l → codeZ b l < b ^ l.length
  | [], _ => by simp [codeZ]
  | i :: l, h => by
    have ih := code_lt hb (l := l) fun j hj => h j (List.mem_cons_of_mem _ hj)
    have hi := h i List.mem_cons_self
    have h1 : i.toNat < b := by have := hi.1; have := hi.2; omega
    unfold codeZ
    rw [List.length_cons, Nat.pow_succ]
    have : b * codeZ b l + b ≤ b ^ l.length * b := by
      have : codeZ b l + 1 ≤ b ^ l.length := ih
      calc b * codeZ b l + b = b * (codeZ b l + 1) := by rw [Nat.mul_add, Nat.mul_one]
        _ ≤ b * b ^ l.length := Nat.mul_le_mul_left _ this
        _ = b ^ l.length * b := Nat.mul_comm _ _
    omega
theorem code_inj {b : Nat} (hb : 0 < b) : ∀ {l m : List Int}, inR b l → inR b m → l.length = m.length → codeZ b l = codeZ b m → l = m
  | [], [], _, _, _, _ => rfl
  | [], _ :: _, _, _, h, _ => by simp at h
  | _ :: _, [], _, _, h, _ => by simp at h
  | i :: l, j :: m, hl, hm, hlen, h => by
    have hi := hl i List.mem_cons_self
    have hj := hm j List.mem_cons_self
    have h1 : i.toNat < b := by have := hi.1; have := hi.2; omega
    have h2 : j.toNat < b := by have := hj.1; have := hj.2; omega
    unfold codeZ at h
    have e1 : i.toNat = j.toNat := by
      have := congrArg (· % b) h
      simp only [Nat.add_mul_mod_self_left, Nat.mod_eq_of_lt h1, Nat.mod_eq_of_lt h2] at this
      exact this
    have e2 : codeZ b l = codeZ b m := by
      rw [e1] at h
      exact Nat.eq_of_mul_eq_mul_left hb (Nat.add_left_cancel h)
    rw [code_inj hb (fun k hk => hl k (List.mem_cons_of_mem _ hk)) (fun k hk => hm k (List.mem_cons_of_mem _ hk)) (by simpa using hlen) e2]
    have : i = j := by have := hi.1; have := hj.1; omega
    rw [this]
abbrev Sta := List Int × List Int
/-- lists of m unlike numbers -/
def arr (b : Nat) : Nat → List (List Int)
  | 0 => [[]]
  | m + 1 => (arr b m).flatMap fun l => (((List.range b).map Int.ofNat).filter fun i => !l.contains i).map fun i => i :: l
theorem mem_arr {b : Nat} : ∀ {l : List Int}, l.Nodup → inR b l → l ∈ arr b l.length
  | [], _, _ => List.mem_singleton.mpr rfl
  | i :: l, h, r => by
    rw [List.nodup_cons] at h
    have ih := mem_arr h.2 fun j hj => r j (List.mem_cons_of_mem _ hj)
    have hi := r i List.mem_cons_self
    show _ ∈ List.flatMap _ _
    refine List.mem_flatMap.mpr ⟨l, ih, List.mem_map.mpr ⟨i, List.mem_filter.mpr ⟨List.mem_map.mpr ⟨i.toNat, List.mem_range.mpr (by have := hi.1; have := hi.2; omega), ?_⟩, by simpa using h.1⟩, rfl⟩⟩
    show Int.ofNat i.toNat = i
    exact Int.toNat_of_nonneg hi.1
theorem arr_len {b m : Nat} (hb : b ≤ 5) (hm : m ≤ 5) : (arr b m).length ≤ 120 := by
  have : ∀ b : Fin 6, ∀ m : Fin 6, (arr b.1 m.1).length ≤ 120 := by decide +kernel
  exact this ⟨b, by omega⟩ ⟨m, by omega⟩
theorem sta_count {b : Nat} (hb : 0 < b) (hb5 : b ≤ 5) {L : List Sta} {m n : Nat} (hm : m ≤ 5) (hn : n ≤ 5) (h : L.Nodup) (hs : ∀ s ∈ L, s.1.Nodup ∧ s.1.length = m ∧ s.2.length = n ∧ inR b s.1 ∧ inR b s.2) : L.length ≤ 375000 := by
  have n2 : (L.map fun s => (s.1, codeZ b s.2)).Nodup := by
    rw [List.nodup_iff_pairwise_ne, List.pairwise_map]
    exact (List.nodup_iff_pairwise_ne.mp h).imp_of_mem fun ha hb' hne e => hne (by
      injection e with e1 e2
      exact Prod.ext e1 (code_inj hb (hs _ ha).2.2.2.2 (hs _ hb').2.2.2.2 (by rw [(hs _ ha).2.2.1, (hs _ hb').2.2.1]) e2))
  have := sub_len (l := (arr b m).flatMap fun r => (List.range (b ^ n)).map fun k => (r, k)) n2 fun x hx => by
    obtain ⟨s, hs', rfl⟩ := List.mem_map.mp hx
    obtain ⟨h1, h2, h3, h4, h5⟩ := hs s hs'
    refine List.mem_flatMap.mpr ⟨s.1, by rw [← h2]; exact mem_arr h1 h4, List.mem_map.mpr ⟨codeZ b s.2, List.mem_range.mpr (by rw [← h3]; exact code_lt hb h5), rfl⟩⟩
  have hl : ((arr b m).flatMap fun r => (List.range (b ^ n)).map fun k => (r, k)).length = (arr b m).length * b ^ n := by
    rw [List.length_flatMap]; simp [List.map_const', List.sum_replicate_nat]
  have p : b ^ n ≤ 5 ^ 5 := Nat.le_trans (Nat.pow_le_pow_left hb5 n) (Nat.pow_le_pow_right (by omega) hn)
  have q := Nat.mul_le_mul (arr_len hb5 hm) p
  have h5 : 5 ^ 5 = 3125 := by decide
  rw [List.length_map, hl] at this
  rw [h5] at q
  omega



abbrev Nod := Sta × List Nat
def nxt (b : Int) (l : List Stm) (st : Sta) (k : Nat) : Sta := ((doneP b (l.take k).zipIdx st.1 st.2).1, (doneP b (l.take k).zipIdx st.1 st.2).2.1)
def addN (b : Int) (l : List Stm) (nd : Nod) (q : List Nod) (k : Nat) : List Nod := if nxt b l nd.1 k ∈ q.map (·.1) then q else q ++ [(nxt b l nd.1 k, nd.2 ++ [k])]
def turnN (b : Int) (l : List Stm) (nd : Nod) (q : List Nod) : List Nod := (List.range (l.length + 1)).foldl (addN b l nd) q
def bfsN (b : Int) (l : List Stm) : Nat → Nat → List Nod → List Nod
  | 0, _, q => q
  | n + 1, i, q => match q[i]? with
    | some nd => bfsN b l n (i + 1) (turnN b l nd q)
    | none => q
def waysN (b : Int) (l : List Stm) (c : List Int) : List Nod := bfsN b l nW 0 [((c, rgZ b), [])]
/-- a state of m rows -/
def goodS (b : Int) (m : Nat) (st : Sta) : Prop := st.1.Nodup ∧ st.1.length = m ∧ st.2.length = b.toNat ∧ inR b st.1 ∧ inR b st.2
def okQ (b : Int) (m i : Nat) (q : List Nod) : Prop := (q.map (·.1)).Nodup ∧ ∀ nd ∈ q, goodS b m nd.1 ∧ nd.2.length ≤ i
theorem take_ok' {b : Int} {l : List Stm} (hl : ∀ s ∈ l, s.ok b) (k : Nat) : ∀ p ∈ (l.take k).zipIdx, p.1.ok b := fun p hp => by
  have := (List.mem_zipIdx' hp).2
  rw [this]
  exact hl _ (List.mem_of_mem_take (List.getElem_mem _))
theorem nxt_good {b : Int} {m : Nat} {l : List Stm} (hl : ∀ s ∈ l, s.ok b) {st : Sta} (h : goodS b m st) (k : Nat) : goodS b m (nxt b l st k) := by
  obtain ⟨h1, h2, h3, h4, h5⟩ := h
  obtain ⟨k1, k2, k3, _⟩ := doneP_keep b (l.take k).zipIdx st.1 st.2 h1
  obtain ⟨r1, r2⟩ := doneP_range b (l.take k).zipIdx st.1 st.2 (take_ok' hl k) h4 h5
  exact ⟨k1, k2.trans h2, k3.trans h3, r1, r2⟩
theorem addN_ok {b : Int} {m i : Nat} {l : List Stm} (hl : ∀ s ∈ l, s.ok b) {nd : Nod} (hg : goodS b m nd.1) (hn : nd.2.length ≤ i) {q : List Nod} (h : okQ b m (i + 1) q) (k : Nat) : okQ b m (i + 1) (addN b l nd q k) := by
  unfold addN
  split
  · exact h
  · rename_i hne
    refine ⟨?_, fun x hx => ?_⟩
    · rw [List.map_append, List.map_singleton, List.nodup_append]
      refine ⟨h.1, by simp, fun a ha c hc => ?_⟩
      rw [List.mem_singleton.mp hc]
      intro e
      have e' : a = nxt b l nd.1 k := e
      rw [e'] at ha
      exact hne ha
    · rcases List.mem_append.mp hx with hx | hx
      · exact h.2 x hx
      · rw [List.mem_singleton.mp hx]
        exact ⟨nxt_good hl hg k, by rw [List.length_append, List.length_singleton]; omega⟩
theorem addN_pre (b : Int) (l : List Stm) (nd : Nod) (q : List Nod) (k : Nat) : q <+: addN b l nd q k := by
  unfold addN
  split
  · exact List.prefix_refl _
  · exact List.prefix_append _ _
theorem foldN_ok {b : Int} {m i : Nat} {l : List Stm} (hl : ∀ s ∈ l, s.ok b) {nd : Nod} (hg : goodS b m nd.1) (hn : nd.2.length ≤ i) : ∀ (ks : List Nat) {q : List Nod}, okQ b m (i + 1) q → okQ b m (i + 1) (ks.foldl (addN b l nd) q)
  | [], _, h => h
  | k :: ks, q, h => foldN_ok hl hg hn ks (addN_ok hl hg hn h k)
theorem foldN_pre (b : Int) (l : List Stm) (nd : Nod) : ∀ (ks : List Nat) (q : List Nod), q <+: ks.foldl (addN b l nd) q
  | [], q => List.prefix_refl _
  | k :: ks, q => (addN_pre b l nd q k).trans (foldN_pre b l nd ks _)
theorem okQ_up {b : Int} {m i : Nat} {q : List Nod} (h : okQ b m i q) : okQ b m (i + 1) q := ⟨h.1, fun nd hn => ⟨(h.2 nd hn).1, Nat.le_succ_of_le (h.2 nd hn).2⟩⟩
theorem turnN_ok {b : Int} {m i : Nat} {l : List Stm} (hl : ∀ s ∈ l, s.ok b) {nd : Nod} {q : List Nod} (h : okQ b m i q) (hn : nd ∈ q) : okQ b m (i + 1) (turnN b l nd q) :=
  foldN_ok hl (h.2 nd hn).1 (h.2 nd hn).2 _ (okQ_up h)
theorem okQ_len {b : Int} {m i : Nat} {q : List Nod} (hb : 2 ≤ b) (hb2 : b ≤ 5) (hm : m ≤ 5) (h : okQ b m i q) : q.length ≤ 375000 := by
  obtain ⟨n, rfl⟩ := Int.eq_ofNat_of_zero_le (show 0 ≤ b by omega)
  have := sta_count (b := n) (m := m) (n := n) (by omega) (by omega) hm (by omega) h.1 fun s hs => by
    obtain ⟨nd, hn, rfl⟩ := List.mem_map.mp hs
    obtain ⟨⟨g1, g2, g3, g4, g5⟩, _⟩ := h.2 nd hn
    exact ⟨g1, g2, by rw [g3]; simp, g4, g5⟩
  rw [List.length_map] at this
  exact this
theorem start_ok {b : Int} {c : List Int} (hc : c.Nodup) (hr : inR b c) : okQ b c.length 0 [((c, rgZ b), [])] := by
  refine ⟨by simp, fun nd hn => ?_⟩
  rw [List.mem_singleton.mp hn]
  refine ⟨⟨hc, rfl, ?_, hr, fun i hi => ?_⟩, Nat.le_refl _⟩
  · unfold rgZ; simp
  · unfold rgZ at hi
    obtain ⟨k, hk, rfl⟩ := List.mem_map.mp hi
    have := List.mem_range.mp hk
    exact ⟨by omega, by omega⟩
/-- what is kept by the whole walk -/
theorem bfsN_ok {b : Int} {m : Nat} {l : List Stm} (hl : ∀ s ∈ l, s.ok b) : ∀ (n i : Nat) (q : List Nod), okQ b m i q → i ≤ q.length → ∃ j, j ≤ (bfsN b l n i q).length ∧ okQ b m j (bfsN b l n i q)
  | 0, i, q, h, hi => ⟨i, hi, h⟩
  | n + 1, i, q, h, hi => by
    unfold bfsN
    cases e : q[i]? with
    | none => exact ⟨i, hi, h⟩
    | some nd =>
      have h1 := (List.getElem?_eq_some_iff.mp e).1
      have h2 := (foldN_pre b l nd (List.range (l.length + 1)) q).length_le
      exact bfsN_ok hl n (i + 1) _ (turnN_ok hl h (List.mem_of_getElem? e)) (Nat.le_trans h1 h2)
theorem find_node {q : List Nod} {nd : Nod} (h : (q.map (·.1)).Nodup) (hn : nd ∈ q) : q.find? (fun x => decide (x.1 = nd.1)) = some nd := by
  induction q with
  | nil => exact nomatch hn
  | cons x q ih =>
    rw [List.map_cons, List.nodup_cons] at h
    rcases List.mem_cons.mp hn with rfl | hn
    · rw [List.find?_cons]; simp
    · have : x.1 ≠ nd.1 := fun e => h.1 (by rw [e]; exact List.mem_map_of_mem hn)
      rw [List.find?_cons, decide_eq_false this]
      exact ih h.2 hn
theorem find_some {q : List Nod} {t : Sta} : (q.find? (fun x => decide (x.1 = t))).isSome = decide (t ∈ q.map (·.1)) := by
  rw [Bool.eq_iff_iff, List.find?_isSome, decide_eq_true_eq, List.mem_map]
  exact ⟨fun ⟨x, h1, h2⟩ => ⟨x, h1, of_decide_eq_true h2⟩, fun ⟨x, h1, h2⟩ => ⟨x, h1, decide_eq_true h2⟩⟩
/-! ### dicts whose keys are made of nodes -/
section
variable {kd vd : Nod → D} {kn : Nod → NestedKey}
theorem valN_map {q : List Nod} (h : ∀ nd ∈ q, nk8 (kd nd) = some (kn nd)) (k : NestedKey) : valN (q.map fun nd => (kd nd, vd nd)) k = (q.find? fun nd => decide (kn nd = k)).map vd := by
  unfold valN
  induction q with
  | nil => rfl
  | cons x q ih =>
    rw [List.map_cons, List.find?_cons, List.find?_cons]
    have e : keyIsN k (kd x, vd x) = decide (kn x = k) := by
      unfold keyIsN
      rw [h x List.mem_cons_self]
      simp
    rw [e]
    cases q' : decide (kn x = k) with
    | true => rfl
    | false => exact ih fun nd hn => h nd (List.mem_cons_of_mem _ hn)
theorem putN_new {q : List Nod} (h : ∀ nd ∈ q, nk8 (kd nd) = some (kn nd)) {k : NestedKey} {kdt d : D} (hn : valN (q.map fun nd => (kd nd, vd nd)) k = none) : putN (q.map fun nd => (kd nd, vd nd)) kdt k d = (q.map fun nd => (kd nd, vd nd)) ++ [(kdt, d)] := by
  unfold putN
  rw [if_neg]
  intro z
  unfold valN at hn
  rw [List.any_eq_true] at z
  obtain ⟨p, hp, hk⟩ := z
  cases e : (q.map fun nd => (kd nd, vd nd)).find? (keyIsN k) with
  | none => exact absurd hk (by have := List.find?_eq_none.mp e p hp; simpa using this)
  | some y => rw [e] at hn; cases hn
end
theorem find_congr' {α : Type} {f g : α → Bool} : ∀ {l : List α}, (∀ x ∈ l, f x = g x) → l.find? f = l.find? g
  | [], _ => rfl
  | x :: l, h => by
    rw [List.find?_cons, List.find?_cons, h x List.mem_cons_self, find_congr' fun y hy => h y (List.mem_cons_of_mem _ hy)]



/-! ### what mirrors do -/
@[simp] theorem ev_ownN {i : Nat} {ρ : Ro} : ownN i ρ = match ρ[i]? with | some (.o (.dcn kvs)) => .ok kvs ρ | some (.p (.dcn kvs)) => .ok kvs ρ | _ => .bad := rfl
def inNF (neg : Bool) (x : D) (kvs : List (D × D)) : Option D := (tupK x).map fun k => .bl (if neg then !(valN kvs k).isSome else (valN kvs k).isSome)
@[simp] theorem ev_inNO {neg : Bool} {fe : EM D} {i : Nat} {ρ : Ro} : inNO neg fe i ρ = (fe ρ).bind fun x ρ1 => (ownN i ρ1).bind fun kvs ρ2 => liftO (inNF neg x kvs) ρ2 := rfl
def ixNF (kvs : List (D × D)) (j : D) : Option D := (tupK j).bind (valN kvs)
@[simp] theorem ev_ixNO {i : Nat} {fe : EM D} {ρ : Ro} : ixNO i fe ρ = (ownS i ρ).bind fun _ ρ1 => (fe ρ1).bind fun j ρ2 => (ownN i ρ2).bind fun kvs ρ3 => liftO (ixNF kvs j) ρ3 := rfl
@[simp] theorem ev_setN {i : Nat} {fk fv : EM D} {ρ : Ro} : setN i fk fv ρ = (fv ρ).bind fun d ρ1 => (ownS i ρ1).bind fun _ ρ2 => (fk ρ2).bind fun j ρ3 => (ownN i ρ3).bind fun kvs ρ4 => (liftO (setNF kvs d j) ρ4).bind fun es ρ5 => .ok .nx (putO i (.dcn es) ρ5) := by
  show (Res.bind (Res.bind (fv ρ) _) _) = Res.bind (fv ρ) _
  cases fv ρ with
  | bad => rfl
  | err x => rfl
  | ok d ρ1 =>
    show (Res.bind (Res.bind (ownS i ρ1) _) _) = Res.bind (ownS i ρ1) _
    cases ownS i ρ1 with
    | bad => rfl
    | err x => rfl
    | ok u ρ2 =>
      show (Res.bind (Res.bind (fk ρ2) _) _) = Res.bind (fk ρ2) _
      cases fk ρ2 with
      | bad => rfl
      | err x => rfl
      | ok j ρ3 =>
        show (Res.bind (Res.bind (ownN i ρ3) _) _) = Res.bind (ownN i ρ3) _
        cases ownN i ρ3 with
        | bad => rfl
        | err x => rfl
        | ok kvs ρ4 =>
          show (Res.bind (Res.bind (liftO (setNF kvs d j) ρ4) _) _) = Res.bind (liftO (setNF kvs d j) ρ4) _
          cases setNF kvs d j <;> rfl
def dispNF (kd d : D) : Option D := (tupK kd).map fun _ => .dcn [(kd, d)]
@[simp] theorem ev_disp1N {fk fv : EM D} {ρ : Ro} : disp1N fk fv ρ = (fk ρ).bind fun kd ρ1 => (fv ρ1).bind fun d ρ2 => liftO (dispNF kd d) ρ2 := rfl
@[simp] theorem ev_parNN3 {i j l : Nat} {fa fb fc : EM D} {ρ : Ro} : parNN3S i j l fa fb fc ρ = (fa ρ).bind fun d ρ1 => (fb ρ1).bind fun e ρ2 => (fc ρ2).bind fun f ρ3 => match ρ3[i]? with
  | none => .bad
  | some (.p _) => .bad
  | some _ => match (ρ3.set i (.o d))[j]? with
    | none => .bad
    | some (.p _) => .bad
    | some _ => match setT l f ((ρ3.set i (.o d)).set j (.o e)) with
      | some ρ5 => .ok .nx ρ5
      | none => .bad := rfl
@[simp] theorem ev_ifT {c a b : EM Bool} {ρ : Ro} : ifT c a b ρ = (c ρ).bind fun k ρ1 => if k then a ρ1 else b ρ1 := by
  show (c ρ).bind _ = (c ρ).bind _
  congr
  funext k ρ1
  cases k <;> rfl
theorem iter_end {c : EM Bool} {f : SM} {n : Nat} {ρ ρ1 : Ro} (h : c ρ = .ok false ρ1) : iterS c f (n + 1) ρ = .ok .nx ρ1 := by
  unfold iterS
  rw [h]
theorem iter_go {c : EM Bool} {f : SM} {n : Nat} {ρ ρ1 ρ2 : Ro} (h : c ρ = .ok true ρ1) (h2 : f ρ1 = .ok .nx ρ2) : iterS c f (n + 1) ρ = iterS c f n ρ2 := by
  conv => lhs; unfold iterS
  rw [h]
  simp only
  rw [h2]
/-! ### data -/
def inM (k : Nat) : D := .int (k : Int)
theorem rng_inM (n : Nat) : rngD 0 n = (List.range n).map inM := by
  unfold rngD
  exact List.map_congr_left fun i _ => by unfold inM; simp
def stD (st : Sta) : D := .tup [tupI' st.1, tupI' st.2]
def nkS (st : Sta) : NestedKey := .tup [.tup (st.1.map .num), .tup (st.2.map .num)]
theorem nks_ints : ∀ l : List Int, nksD (l.map .int) = some (l.map .num)
  | [] => rfl
  | i :: l => by rw [List.map_cons, nksD, nks_ints l]; rfl
theorem depth_nums : ∀ l : List Int, NestedKey.depthAll (l.map .num) = 0
  | [] => rfl
  | i :: l => by rw [List.map_cons, NestedKey.depthAll, depth_nums l]; rfl
theorem nk_ints (l : List Int) : nkD (tupI' l) = some (.tup (l.map .num)) := by
  unfold tupI' nkD
  rw [nks_ints]; rfl
theorem nk8_st (st : Sta) : nk8 (stD st) = some (nkS st) := by
  have h : nkD (stD st) = some (nkS st) := by
    unfold stD nkD
    rw [nksD, nksD, nksD, nk_ints, nk_ints]; rfl
  unfold nk8
  rw [h]
  have : (nkS st).depth ≤ 8 := by
    unfold nkS
    simp only [NestedKey.depth, NestedKey.depthAll, depth_nums]
    decide
  simp only
  rw [if_pos this]
theorem tupK_st (st : Sta) : tupK (stD st) = some (nkS st) := nk8_st st
theorem nums_inj : ∀ {l m : List Int}, l.map NestedKey.num = m.map NestedKey.num → l = m
  | [], [], _ => rfl
  | [], _ :: _, h => by simp at h
  | _ :: _, [], h => by simp at h
  | i :: l, j :: m, h => by
    rw [List.map_cons, List.map_cons] at h
    injection h with h1 h2
    injection h1 with h1
    rw [h1, nums_inj h2]
theorem nkS_inj {s t : Sta} (h : nkS s = nkS t) : s = t := by
  unfold nkS at h
  injection h with h
  injection h with h1 h2
  injection h2 with h2 _
  injection h1 with h1
  injection h2 with h2
  exact Prod.ext (nums_inj h1) (nums_inj h2)
def fD (nd : Nod) : D × D := (stD nd.1, nsD nd.2)
def wD (nd : Nod) : D := stD nd.1
theorem fval (q : List Nod) (t : Sta) : valN (q.map fD) (nkS t) = (q.find? fun nd => decide (nd.1 = t)).map fun nd => nsD nd.2 := by
  have h := valN_map (kd := fun nd => stD nd.1) (vd := fun nd => nsD nd.2) (kn := fun nd => nkS nd.1) (q := q) (fun nd _ => nk8_st nd.1) (nkS t)
  have e : (q.find? fun nd => decide (nkS nd.1 = nkS t)) = q.find? fun nd => decide (nd.1 = t) := find_congr' fun x _ => decide_eq_decide.mpr ⟨nkS_inj, fun e => by rw [e]⟩
  rw [e] at h
  exact h
theorem f_in (q : List Nod) (t : Sta) : inNF true (stD t) (q.map fD) = some (.bl (!decide (t ∈ q.map (·.1)))) := by
  unfold inNF
  rw [tupK_st, Option.map_some, fval, Option.isSome_map, find_some]
  rfl
theorem f_at {q : List Nod} {nd : Nod} (h : (q.map (·.1)).Nodup) (hn : nd ∈ q) : ixNF (q.map fD) (stD nd.1) = some (nsD nd.2) := by
  unfold ixNF
  rw [tupK_st, Option.bind_some, fval, find_node h hn]
  rfl
theorem f_put {q : List Nod} {t : Sta} {ks : List Nat} (hl : q.length ≤ 400000) (h : t ∉ q.map (·.1)) : setNF (q.map fD) (nsD ks) (stD t) = some ((q ++ [(t, ks)]).map fD) := by
  unfold setNF
  rw [tupK_st]
  simp only
  rw [if_pos (by rw [List.length_map]; omega)]
  have hv : valN (q.map fD) (nkS t) = none := by
    have := find_some (q := q) (t := t)
    rw [decide_eq_false h] at this
    rw [fval]
    cases e : q.find? fun nd => decide (nd.1 = t) with
    | none => rfl
    | some x => rw [e] at this; simp at this
  have := putN_new (kd := fun nd => stD nd.1) (vd := fun nd => nsD nd.2) (kn := fun nd => nkS nd.1) (q := q) (kdt := stD t) (d := nsD ks) (fun nd _ => nk8_st nd.1) hv
  rw [List.map_append]
  exact congrArg some this
theorem ns_add (ks : List Nat) (k : Nat) (h : ks.length ≤ 400000) : addD (nsD ks) (.tup [.int (k : Int)]) = some (nsD (ks ++ [k])) := by
  have h2 : (ks.map fun k : Nat => D.int (k : Int)).length + [D.int (k : Int)].length ≤ 1000000 := by rw [List.length_map, List.length_singleton]; omega
  unfold nsD
  rw [op_at, if_pos h2, List.map_append]
  rfl
theorem eff_two (e : Eff) : slD (effD e) none (some 2) = some (stD (e.1, e.2.1)) := rfl
/-! ### the inner walk -/
/-- the numbers of statements (the length kept apart: a literal million must not meet it) -/
theorem rng_len1 (S : D) (L : Int) (n : Nat) (ll : lenF [S] = some (.int L)) (sm : smallI (L + 1) = true) (hL : (L + 1).toNat = n + 1) (ρ : Ro) (hρ : ρ[1]? = some (.v S)) : rng1I (consE (bin2 addD (callB lenF (consE (varE 1) (retE []))) (retE (.int 1))) (retE [])) ρ = .ok ((List.range (n + 1)).map inM) ρ := by
  simp [hρ, ll, sm, hL, rng_inM]
/-! ### the outer walk -/
abbrev PCond : EM Bool := testE (bin2 ltD (varE 6) (lenO 5))
theorem pro_cond (x0 x1 x2 x3 x4 x7 x8 x9 x10 : Sl) (Wl : List D) (i : Nat) : PCond [x0, x1, x2, x3, x4, .o (.lst Wl), .v (.int (i : Int)), x7, x8, x9, x10] = .ok (decide (i < Wl.length)) [x0, x1, x2, x3, x4, .o (.lst Wl), .v (.int (i : Int)), x7, x8, x9, x10] := by
  simp


@[simp] theorem ev_sortIt {fe : EM D} {ρ : Ro} : sortItE fe ρ = (fe ρ).bind fun d ρ1 => liftO (sortItF d) ρ1 := rfl
theorem intKV_kv : ∀ t : List (Int × Int), intKV (t.map kvD) = some t
  | [] => rfl
  | p :: t => by
    rw [List.map_cons]
    show (intKV (t.map kvD)).map _ = _
    rw [intKV_kv t]; rfl
theorem insD_first {α : Type} {le : α → α → Bool} {x : α} : ∀ {l : List α}, (∀ y ∈ l, le x y = true) → insD le x l = x :: l
  | [], _ => rfl
  | y :: l, h => by
    show (if le x y then _ else _) = _
    rw [h y List.mem_cons_self]; rfl
theorem isort_sorted {α : Type} {le : α → α → Bool} : ∀ {l : List α}, l.Pairwise (fun x y => le x y = true) → isort le l = l
  | [], _ => rfl
  | x :: l, h => by
    rw [List.pairwise_cons] at h
    show insD le x (isort le l) = _
    rw [isort_sorted h.2, insD_first h.1]
theorem zip_pw : ∀ {c r : List Int}, c.Pairwise (· < ·) → (c.zip r).Pairwise fun x y => leII x y = true
  | [], _, _ => by simp
  | _ :: _, [], _ => by simp
  | a :: c, x :: r, h => by
    rw [List.pairwise_cons] at h
    rw [List.zip_cons_cons, List.pairwise_cons]
    refine ⟨fun y hy => ?_, zip_pw h.2⟩
    have := h.1 y.1 (List.of_mem_zip (a := y.1) (b := y.2) hy).1
    unfold leII
    simp
    omega
def zD (c : List Int) (st : Sta) : D := .tup [dz c st.1, tupI' st.2]
def kyD (c : List Int) (st : Sta) : D := .tup [prsD (c.zip st.1), tupI' st.2]
theorem sortIt_dz {c r : List Int} (hc : c.Pairwise (· < ·)) (hl : c.length ≤ 1000) : sortItF (dz c r) = some (.lst ((c.zip r).map prD)) := by
  show (match intKV ((c.zip r).map kvD) with | some ps => if ps.length ≤ 1000 then some (D.lst ((isort leII ps).map prII)) else none | none => none) = _
  rw [intKV_kv]
  simp only
  rw [if_pos (by rw [List.length_zip]; omega), isort_sorted (zip_pw hc)]
  rfl
/-! ### keys -/
def nkP (p : Int × Int) : NestedKey := .tup [.num p.1, .num p.2]
def nkC (c : List Int) (st : Sta) : NestedKey := .tup [.tup ((c.zip st.1).map nkP), .tup (st.2.map .num)]
theorem nk_pr (p : Int × Int) : nkD (prD p) = some (nkP p) := rfl
theorem nks_prs : ∀ l : List (Int × Int), nksD (l.map prD) = some (l.map nkP)
  | [] => rfl
  | p :: l => by rw [List.map_cons, nksD, nk_pr, nks_prs l]; rfl
theorem depth_prs : ∀ l : List (Int × Int), NestedKey.depthAll (l.map nkP) ≤ 2
  | [] => by decide
  | p :: l => by
    have := depth_prs l
    rw [List.map_cons, NestedKey.depthAll]
    have h : (nkP p).depth ≤ 2 := by unfold nkP; simp [NestedKey.depth, NestedKey.depthAll]
    omega
theorem nk8_ky (c : List Int) (st : Sta) : nk8 (kyD c st) = some (nkC c st) := by
  have h : nkD (kyD c st) = some (nkC c st) := by
    unfold kyD nkD
    have h1 : nkD (prsD (c.zip st.1)) = some (.tup ((c.zip st.1).map nkP)) := by unfold prsD nkD; rw [nks_prs]; rfl
    rw [nksD, nksD, nksD, nk_ints, h1]; rfl
  unfold nk8
  rw [h]
  have : (nkC c st).depth ≤ 8 := by
    have := depth_prs (c.zip st.1)
    unfold nkC
    simp only [NestedKey.depth, NestedKey.depthAll, depth_nums]
    omega
  simp only
  rw [if_pos this]
theorem tupK_ky (c : List Int) (st : Sta) : tupK (kyD c st) = some (nkC c st) := nk8_ky c st
theorem prs_inj : ∀ {l m : List (Int × Int)}, l.map nkP = m.map nkP → l = m
  | [], [], _ => rfl
  | [], _ :: _, h => by simp at h
  | _ :: _, [], h => by simp at h
  | p :: l, q :: m, h => by
    rw [List.map_cons, List.map_cons] at h
    injection h with h1 h2
    unfold nkP at h1
    injection h1 with h1
    injection h1 with h3 h4
    injection h4 with h4 _
    injection h3 with h3
    injection h4 with h4
    rw [prs_inj h2, Prod.ext h3 h4]
theorem nkC_inj {c : List Int} {s t : Sta} (hs : s.1.length = c.length) (ht : t.1.length = c.length) (h : nkC c s = nkC c t) : s = t := by
  unfold nkC at h
  injection h with h
  injection h with h1 h2
  injection h2 with h2 _
  injection h1 with h1
  injection h2 with h2
  have e := prs_inj h1
  have e1 : s.1 = t.1 := by
    have := congrArg (List.map Prod.snd) e
    rwa [List.map_snd_zip (by omega), List.map_snd_zip (by omega)] at this
  exact Prod.ext e1 (nums_inj h2)
def mD (c : List Int) (nd : Nod) : D × D := (kyD c nd.1, .bl true)
def rD (c : List Int) (nd : Nod) : D := .tup [zD c nd.1, nsD nd.2]
def fitQ (c : List Int) (q : List Nod) : Prop := ∀ nd ∈ q, nd.1.1.length = c.length
theorem mval {c : List Int} {q : List Nod} (hq : fitQ c q) {t : Sta} (ht : t.1.length = c.length) : valN (q.map (mD c)) (nkC c t) = (q.find? fun nd => decide (nd.1 = t)).map fun _ => D.bl true := by
  have h := valN_map (kd := fun nd => kyD c nd.1) (vd := fun _ => D.bl true) (kn := fun nd => nkC c nd.1) (q := q) (fun nd _ => nk8_ky c nd.1) (nkC c t)
  have e : (q.find? fun nd => decide (nkC c nd.1 = nkC c t)) = q.find? fun nd => decide (nd.1 = t) := find_congr' fun x hx => decide_eq_decide.mpr ⟨fun e => nkC_inj (hq x hx) ht e, fun e => by rw [e]⟩
  rw [e] at h
  exact h
theorem mky_in {c : List Int} {q : List Nod} (hq : fitQ c q) {t : Sta} (ht : t.1.length = c.length) : inNF true (kyD c t) (q.map (mD c)) = some (.bl (!decide (t ∈ q.map (·.1)))) := by
  unfold inNF
  rw [tupK_ky, Option.map_some, mval hq ht, Option.isSome_map, find_some]
  rfl
theorem mky_put {c : List Int} {q : List Nod} (hq : fitQ c q) {t : Sta} (ht : t.1.length = c.length) {ks : List Nat} (hl : q.length ≤ 400000) (h : t ∉ q.map (·.1)) : setNF (q.map (mD c)) (.bl true) (kyD c t) = some ((q ++ [(t, ks)]).map (mD c)) := by
  unfold setNF
  rw [tupK_ky]
  simp only
  rw [if_pos (by rw [List.length_map]; omega)]
  have hv : valN (q.map (mD c)) (nkC c t) = none := by
    have := find_some (q := q) (t := t)
    rw [decide_eq_false h] at this
    rw [mval hq ht]
    cases e : q.find? fun nd => decide (nd.1 = t) with
    | none => rfl
    | some x => rw [e] at this; simp at this
  have := putN_new (kd := fun nd => kyD c nd.1) (vd := fun _ => D.bl true) (kn := fun nd => nkC c nd.1) (q := q) (kdt := kyD c t) (d := .bl true) (fun nd _ => nk8_ky c nd.1) hv
  rw [List.map_append]
  exact congrArg some this
theorem effL_two (c : List Int) (e : Eff) : slD (effL c e) none (some 2) = some (zD c (e.1, e.2.1)) := rfl
theorem okQ_fit {b : Int} {i : Nat} {c : List Int} {q : List Nod} (h : okQ b c.length i q) : fitQ c q := fun nd hn => (h.2 nd hn).1.2.1
/-! ### the inner walk -/
/-! ### the outer walk -/
abbrev LCond : EM Bool := testE (bin2 ltD (varE 7) (lenO 5))
theorem law_cond (x0 x1 x2 x3 x4 x6 x8 x9 x10 x11 x12 : Sl) (Wl : List D) (i : Nat) : LCond [x0, x1, x2, x3, x4, .o (.lst Wl), x6, .v (.int (i : Int)), x8, x9, x10, x11, x12] = .ok (decide (i < Wl.length)) [x0, x1, x2, x3, x4, .o (.lst Wl), x6, .v (.int (i : Int)), x8, x9, x10, x11, x12] := by
  simp


/-! ### bad ends -/
theorem toP_ints2 (l : List Int) : toP (tupI' l) = some (.tuple (l.map PyData.int)) := by
  unfold tupI'
  rw [toP, toPs_ints]; rfl
theorem toP_eff (e : Eff) : toP (effD e) = some (.tuple [.tuple (e.1.map PyData.int), .tuple (e.2.1.map PyData.int), .int e.2.2]) := by
  unfold effD
  rw [toP, toPs, toPs, toPs, toP_ints2, toP_ints2]
  rfl
theorem shaped_eff (e : Eff) : PySem.SeqAt.shaped (.tuple [.tuple (e.1.map PyData.int), .tuple (e.2.1.map PyData.int), .int e.2.2]) = true := by
  unfold PySem.SeqAt.shaped
  simp [PyData.canLay0, PyData.canLayAll0, PyData.depth, PyData.depthAll, lay_ints, dep_ints]
theorem ne_eff (e f : Eff) : neD (effD e) (effD f) = some (.bl (!decide (e = f))) := by
  unfold neD eqvD
  rw [toP_eff, toP_eff]
  simp only [shaped_eff]
  have : PyData.eqv (.tuple [.tuple (e.1.map PyData.int), .tuple (e.2.1.map PyData.int), .int e.2.2]) (.tuple [.tuple (f.1.map PyData.int), .tuple (f.2.1.map PyData.int), .int f.2.2]) = decide (e = f) := by
    simp [PyData.eqv, PyData.eqvAll, eqv_ints, Bool.and_assoc]
    rw [Bool.eq_iff_iff]
    simp [Prod.ext_iff]
  rw [this]
  rfl
def effS (b : Int) (l : List Stm) (st : Sta) : Eff := doneP b l.zipIdx st.1 st.2
def badN (pl : Bool) (b : Int) (l : List Stm) (c : List Int) (nd : Nod) : Bool := if pl then !decide (effS b l nd.1 = effP b l c) else !(errL c (effS b l nd.1)).isEmpty
def ansD (c : List Int) (ks : List Nat) : D := .tup [tupI' c, nsD ks]
def itN (nd : Nod) : D := .prt [stD nd.1, nsD nd.2]
theorem items_is (q : List Nod) : itemsD (q.map fD) = q.map itN := by
  unfold itemsD
  rw [List.map_map]
  rfl
theorem effS_lens {b : Int} (hb : 2 ≤ b) (hb2 : b ≤ 5) (l : List Stm) {c : List Int} {st : Sta} (hg : goodS b c.length st) : (effS b l st).1.length = c.length ∧ (effS b l st).2.1.length ≤ 5 ∧ -1 ≤ (effS b l st).2.2 := by
  obtain ⟨g1, g2, g3, _⟩ := hg
  obtain ⟨m1, m2, m3, m4⟩ := doneP_keep b l.zipIdx st.1 st.2 g1
  exact ⟨m2.trans g2, by show (doneP _ _ _ _).2.1.length ≤ 5; omega, m4⟩
theorem errS_ne {b : Int} (hb : 2 ≤ b) (hb2 : b ≤ 5) (l : List Stm) {c : List Int} {nd : Nod} (hg : goodS b c.length nd.1) : neD (errD c (effS b l nd.1)) (.lst []) = some (.bl (badN false b l c nd)) := by
  obtain ⟨_, m2, _⟩ := effS_lens hb hb2 l hg
  exact (Gd.nil (gd_errD c (effS b l nd.1) (by omega) 0) (by omega)).2
abbrev FTgt : D → Ro → Option Ro := tupT 2 (consT (tupT 2 (consT (setT 5) (consT (setT 6) nilT))) (consT (setT 7) nilT))
/-- the first contents and stops that show it -/
def firstB (pl : Bool) (b : Int) (l : List Stm) (c : List Int) : Option (List Int × List Nat) := ((waysN b l c).find? (badN pl b l c)).map fun nd => (c, nd.2)
def ansO : Option (List Int × List Nat) → D
  | some p => ansD p.1 p.2
  | none => .non
theorem ways_good {b : Int} (hb : 2 ≤ b) (hb2 : b ≤ 5) {l : List Stm} (hl : ∀ s ∈ l, s.ok b) {c : List Int} (hc : c.Pairwise (· < ·)) (hr : inR b c) (hm : c.length ≤ 5) : ∀ nd ∈ waysN b l c, goodS b c.length nd.1 ∧ nd.2.length ≤ 375000 := fun nd hn => by
  obtain ⟨j, hj, h⟩ := bfsN_ok hl nW 0 _ (start_ok (List.Pairwise.imp (fun h => by omega) hc) hr) (Nat.zero_le _)
  have hz := okQ_len hb hb2 hm h
  have := h.2 nd hn
  exact ⟨this.1, by omega⟩
@[simp] theorem ev_itemsNI {fe : EM D} {ρ : Ro} : itemsNI fe ρ = (fe ρ).bind fun d ρ1 => liftO (match d with | .dcn kvs => some (itemsD kvs) | _ => none) ρ1 := rfl


theorem same_wide {L : Nat} (hL : L ≤ 900000) : ∀ (k : Nat) (d : D), GL L k d → k ≤ 60 → r__law_same (k + 1) [.v d, .v d] = .ok (.bl true) [.v d, .v d] := by
  have seq : ∀ (k : Nat) (d : D) (ds : List D), (d = .tup ds ∨ d = .lst ds) → (∀ x ∈ ds, r__law_same (k + 1) [.v x, .v x] = .ok (.bl true) [.v x, .v x]) → ds.length ≤ 900000 → r__law_same (k + 2) [.v d, .v d] = .ok (.bl true) [.v d, .v d] := fun k d ds hd hx hl => by
    have e := lcE_map (vs := [2, 3]) (fi := zipI (consE (varE 0) (consE (varE 1) (retE [])))) (g := tupT 2 (consT (setT 2) (consT (setT 3) nilT))) (ft := yesT) (fe := callE (r__law_same (k + 1)) (argV (varE 2) (argV (varE 3) (retE [])))) (ρ := [.v d, .v d, .u, .u]) (ds := ds.map fun x => .prt [x, x]) (fun _ => .bl true)
      (by rcases hd with rfl | rfl <;> simp [zip_self]) (by simp) (by simp; omega) (fun y hy => by
        obtain ⟨x, hxm, rfl⟩ := List.mem_map.mp hy
        exact ⟨[.v d, .v d, .v x, .v x], [.v d, .v d, .v x, .v x], [.v d, .v d, .v x, .v x], by simp, by simp, by simp [hx x hxm], by simp⟩)
    rw [List.map_map] at e
    have al := all_true ds
    unfold r__law_same b__law_same
    rcases hd with rfl | rfl
    · have i1 : isiF [.tup ds, .ty "list"] = some (.bl false) := rfl
      have i2 : isiF [.tup ds, .ty "tuple"] = some (.bl true) := rfl
      simp [i1, i2]
      rw [e]
      simp only [ev_okb]
      rw [show ds.map ((fun _ => D.bl true) ∘ fun x => D.prt [x, x]) = ds.map fun _ => D.bl true from rfl, al]
      simp
    · have i1 : isiF [.lst ds, .ty "list"] = some (.bl true) := rfl
      simp [i1]
      rw [e]
      simp only [ev_okb]
      rw [show ds.map ((fun _ => D.bl true) ∘ fun x => D.prt [x, x]) = ds.map fun _ => D.bl true from rfl, al]
      simp
  intro k
  induction k with
  | zero =>
    intro d h hn
    refine same_self 0 d ?_ hn
    cases d <;> first | trivial | (exact h) | (simp [GL] at h)
  | succ k ih =>
    intro d h hn
    cases d with
    | tup ds =>
      simp only [GL] at h
      exact seq k _ ds (.inl rfl) (fun x hx => ih x (h.2 x hx) (by omega)) (by omega)
    | lst ds =>
      simp only [GL] at h
      exact seq k _ ds (.inr rfl) (fun x hx => ih x (h.2 x hx) (by omega)) (by omega)
    | non => exact same_self (k + 1) _ trivial hn
    | bl _ => exact same_self (k + 1) _ trivial hn
    | int _ => exact same_self (k + 1) _ trivial hn
    | str _ => exact same_self (k + 1) _ h hn
    | _ => simp [GL] at h
theorem same_long {d : D} (h : GL 900000 7 d) : m__law_same [.v d, .v d] = .ok (.bl true) [.v d, .v d] := same_wide (Nat.le_refl _) 7 d h (by omega)
theorem gl_ns {L n : Nat} {ks : List Nat} (h : ks.length ≤ L) : GL L (n + 1) (nsD ks) := ⟨by simpa using h, fun x hx => by
  obtain ⟨k, _, rfl⟩ := List.mem_map.mp hx
  cases n <;> trivial⟩
theorem gl_ints {L n : Nat} {c : List Int} (h : c.length ≤ L) : GL L (n + 1) (tupI' c) := ⟨by simpa using h, fun x hx => by
  obtain ⟨k, _, rfl⟩ := List.mem_map.mp hx
  cases n <;> trivial⟩
theorem isNon_ans (o : Option (List Int × List Nat)) : isD (ansO o) .non = some (.bl o.isNone) := by cases o <;> rfl
end DL

/-! Plain maths: what is a statement, a script (printed by split.py). -/
namespace DL
open PySem L2


@[simp] theorem ev_parNN {i j : Nat} {fa fb : EM D} {ρ : Ro} : parNNS i j fa fb ρ = (fa ρ).bind fun d ρ1 => (fb ρ1).bind fun e ρ2 => match ρ2[i]? with
  | none => .bad
  | some (.p _) => .bad
  | some _ => match (ρ2.set i (.o d))[j]? with
    | none => .bad
    | some (.p _) => .bad
    | some _ => .ok .nx ((ρ2.set i (.o d)).set j (.o e)) := rfl
def okMv (b : Int) (t : List (Int × Int)) : Prop := incr t ∧ (∀ p ∈ t, inB b p) ∧ (t.map (·.2)).Nodup
theorem rg_pw (b : Int) : (rgZ b).Pairwise (· < ·) := by
  unfold rgZ
  rw [List.pairwise_map]
  exact List.pairwise_lt_range.imp (fun h => by omega)
theorem rg_nodup (b : Int) : (rgZ b).Nodup := (rg_pw b).imp (fun h => by omega)
theorem nodup_on {α β : Type} {f : α → β} {l : List α} (h : l.Nodup) (hf : ∀ x ∈ l, ∀ y ∈ l, f x = f y → x = y) : (l.map f).Nodup := by
  rw [List.nodup_iff_pairwise_ne, List.pairwise_map]
  exact (List.nodup_iff_pairwise_ne.mp h).imp_of_mem fun ha hb hne e => hne (hf _ ha _ hb e)
theorem perm_erase {α : Type} : ∀ {l : List α} {i : Nat} (h : i < l.length), (l[i] :: l.eraseIdx i).Perm l
  | x :: l, 0, _ => List.Perm.refl _
  | x :: l, i + 1, h => by
    have h' : i < l.length := by simpa using h
    rw [List.eraseIdx_cons_succ, List.getElem_cons_succ]
    exact (List.Perm.swap x l[i] (l.eraseIdx i)).trans ((perm_erase h').cons x)
theorem rg_mem {b i : Int} : i ∈ rgZ b ↔ 0 ≤ i ∧ i < b := by
  unfold rgZ
  rw [List.mem_map]
  constructor
  · rintro ⟨k, hk, rfl⟩
    have := List.mem_range.mp hk
    omega
  · intro h
    exact ⟨i.toNat, List.mem_range.mpr (by omega), by omega⟩
theorem rg_length (b : Int) : (rgZ b).length = b.toNat := by unfold rgZ; simp
theorem pop_perm {l : List Int} {i : Int} (h : 0 ≤ i) (h2 : i < l.length) (h3 : i ≤ 1000000) : ∃ k l', (k :: l').Perm l ∧ popF (l.map D.int) (.int i) = some (.int k, l'.map D.int) := by
  have hlt : i.toNat < l.length := by omega
  refine ⟨l[i.toNat], l.eraseIdx i.toNat, perm_erase hlt, ?_⟩
  unfold popF
  simp only
  rw [if_pos (by simp; omega), List.getElem?_map, List.getElem?_eq_getElem hlt]
  simp [erase_map]
theorem moves_ok (b : Int) (hb : 0 < b) (hb2 : b ≤ 10) : Draws m__law_moves [.int b] (2 * b) fun r => ∃ t, r = prsD t ∧ okMv b t := fun w h3 h4 => by
  have sm : smallI b = true := by unfold smallI; simp; omega
  have r1 : rg1 (.int b) = some ((rgZ b).map .int) := by
    show (if smallI b then some (rngD 0 b.toNat) else none) = _
    rw [sm, if_pos rfl, rg_ints]
  obtain ⟨ρ', e, w', nw, l, x4, rfl, n4, q1, q2, q3, q4, c1, c2⟩ := for_inv (fi := rng1I (consE (varE 1) (retE []))) (g := setT 4) (f := ifS (testE (bin2 gtD (callE m__law_take (argS 0 (argV (retE (.int 4)) (retE [])))) (retE (.int 0)))) (appS 3 (tupE (consE (varE 4) (consE (popO 2 (callE m__law_take (argS 0 (argV (lenO 2) (retE []))))) (retE []))))) nextS)
    (ρ0 := [.p w.d, .v (.int b), .o (.lst ((rgZ b).map .int)), .o (.lst []), .u]) (ρ := [.p w.d, .v (.int b), .o (.lst ((rgZ b).map .int)), .o (.lst []), .u]) (ds := rngD 0 b.toNat)
    (fun i ρ => ∃ (w' : Bag) (nw : List Int) (l : List (Int × Int)) (x4 : Sl), ρ = [.p w'.d, .v (.int b), .o (.lst (nw.map .int)), .o (.lst (l.map prD)), x4] ∧ notP x4 = true ∧ incr l ∧ (∀ p ∈ l, 0 ≤ p.1 ∧ p.1 < i) ∧ (l.map (·.2) ++ nw).Perm (rgZ b) ∧ l.length ≤ i ∧ w.c ≤ w'.c ∧ w'.c ≤ w.c + 2 * i)
    (by simp [sm]) ⟨w, rgZ b, [], .u, rfl, rfl, .nil, by simp, by simp, by simp, by omega, by omega⟩ (fun j d ρ hj ⟨w', nw, l, x4, eρ, n4, q1, q2, q3, q4, c1, c2⟩ => by
      subst eρ
      obtain ⟨rfl, hj2⟩ := rng_get hj
      rw [Int.zero_add]
      obtain ⟨_, w2, f2, ⟨t, rfl, t1, t2⟩, c3, c4⟩ := take_ok 4 (by omega) (by omega) w' (by omega) (by omega)
      simp only [List.map_cons, List.map_nil] at f2
      refine ⟨[.p w'.d, .v (.int b), .o (.lst (nw.map .int)), .o (.lst (l.map prD)), .v (.int (j : Nat))], ?_⟩
      by_cases ht : 0 < t
      · have hlen := q3.length_eq
        rw [List.length_append, List.length_map, rg_length] at hlen
        have hpos : 0 < nw.length := by omega
        obtain ⟨_, w3, f3, ⟨u, rfl, u1, u2⟩, c5, c6⟩ := take_ok nw.length (by omega) (by omega) w2 (by omega) (by omega)
        simp only [List.map_cons, List.map_nil] at f3
        obtain ⟨k, nw', p1, p2⟩ := pop_perm u1 u2 (by omega)
        have hL : l.length ≤ 1000000 := by omega
        refine ⟨[.p w3.d, .v (.int b), .o (.lst (nw'.map .int)), .o (.lst ((l ++ [((j : Int), k)]).map prD)), .v (.int (j : Nat))], by simp [-ev_setT, ev_setTn, n4], by simp [f2, f3, ht, p2, prD, hL], w3, nw', _, _, rfl, rfl, ?_, ?_, ?_, ?_, by omega, by push_cast; omega⟩
        · unfold incr
          rw [List.map_append, List.pairwise_append]
          refine ⟨q1, by simp, fun a ha c hc => ?_⟩
          obtain ⟨p, hp, rfl⟩ := List.mem_map.mp ha
          have := q2 p hp
          simp at hc
          omega
        · intro p hp
          rcases List.mem_append.mp hp with hp | hp
          · have := q2 p hp; omega
          · rw [List.mem_singleton.mp hp]; simp only; omega
        · rw [List.map_append, List.append_assoc]
          exact ((List.Perm.append_left _ p1)).trans q3
        · rw [List.length_append]; simp; omega
      · refine ⟨[.p w2.d, .v (.int b), .o (.lst (nw.map .int)), .o (.lst (l.map prD)), .v (.int (j : Nat))], by simp [-ev_setT, ev_setTn, n4], by simp [f2, ht], w2, nw, l, _, rfl, rfl, q1, fun p hp => by have := q2 p hp; omega, q3, by omega, by omega, by push_cast; omega⟩)
  rw [rng_len] at q2 q4 c2
  have nd : (l.map (·.2)).Nodup := (List.nodup_append.mp (q3.nodup_iff.mpr (rg_nodup b))).1
  refine ⟨prsD l, w', ?_, ⟨l, rfl, q1, fun p hp => ?_, nd⟩, by omega, by omega⟩
  · unfold m__law_moves b__law_moves
    simp [-ev_forS, r1]
    rw [e]
    simp [prsD]
  · have h1 := q2 p hp
    have h2 : p.2 ∈ rgZ b := q3.mem_iff.mp (List.mem_append_left _ (List.mem_map_of_mem hp))
    have h3 := rg_mem.mp h2
    exact ⟨h1.1, by omega, h3.1, h3.2⟩



theorem mv_len {b : Int} {t : List (Int × Int)} (h : okMv b t) (hb : 0 ≤ b) : (t.length : Int) ≤ b := by
  have hi : (t.map (·.1)).Pairwise (· < ·) := h.1
  have := rise_len (t.map (·.1)) 0 b hi fun i hi => by
    obtain ⟨p, hp, rfl⟩ := List.mem_map.mp hi
    have := h.2.1 p hp
    exact ⟨this.1, this.2.1⟩
  rw [List.length_map] at this
  omega
theorem gd_prs {t : List (Int × Int)} (h : t.length ≤ 40) (n : Nat) : Gd (n + 2) (prsD t) := by
  refine ⟨by simpa using h, fun x hx => ?_⟩
  obtain ⟨p, _, rfl⟩ := List.mem_map.mp hx
  refine ⟨by simp, fun y hy => ?_⟩
  simp only [List.mem_cons, List.not_mem_nil, or_false] at hy
  rcases hy with rfl | rfl <;> cases n <;> trivial
def snd0 (d : D) : Int := match d with
  | .tup [_, .int i] => i
  | _ => 0
theorem lc_snds (l : List (Int × Int)) (b : Int) (hl : l.length ≤ 1000) : lcE [2] (seqI (varE 1)) (setT 2) yesT (bin2 ixD (varE 2) (retE (.int 1))) [.v (.int b), .v (prsD l), .u] = .ok (.lst ((l.map (·.2)).map .int)) [.v (.int b), .v (prsD l), .u] := by
  have := lcE_map (vs := [2]) (fi := seqI (varE 1)) (g := setT 2) (ft := yesT) (fe := bin2 ixD (varE 2) (retE (.int 1))) (ρ := [.v (.int b), .v (prsD l), .u]) (ds := l.map prD) (fun d => .int (snd0 d)) (by simp [prsD]) (by simp) (by simp; omega) (fun x hx => by
    obtain ⟨p, _, rfl⟩ := List.mem_map.mp hx
    exact ⟨[.v (.int b), .v (prsD l), .v (prD p)], [.v (.int b), .v (prsD l), .v (prD p)], [.v (.int b), .v (prsD l), .v (prD p)], by simp, by simp, by simp [prD, atI, ixN, snd0], by simp⟩)
  rw [this, List.map_map, List.map_map]
  rfl
theorem sortU_len {l : List Int} (h : l.Nodup) : (sortU l).length = l.length :=
  ((List.perm_ext_iff_of_nodup (sortU_nodup l) h).mpr fun k => mem_sortU).length_eq
theorem are_moves_is (b : Int) (hb : 0 ≤ b) (hb2 : b ≤ 30) {t : List (Int × Int)} (h : okMv b t) : m_are_moves [.v (.int b), .v (prsD t)] = .ok (.bl true) [.v (.int b), .v (prsD t)] := by
  have hl := mv_len h hb
  have g := gd_prs (t := t) (by omega) 1
  have e1 := lc_pairs (ds := t.map prD) g b
  have e2 := lc_firsts t b (by omega)
  have e3 := lc_snds t b (by omega)
  have e4 := rises_is (t.map (·.1)) _ (.inl rfl) (by rw [List.length_map]; omega)
  have hi : (t.map (·.1)).Pairwise (· < ·) := h.1
  rw [(risesB_iff (t.map (·.1))).mpr hi] at e4
  have ha : (t.map prD).all (pairB b) = true := List.all_eq_true.mpr fun x hx => by
    obtain ⟨q, hq, rfl⟩ := List.mem_map.mp hx
    exact pairB_pr (h.2.1 q hq)
  have e5 := all_map (pairB b) (t.map prD)
  rw [ha] at e5
  have i1 : isiF [prsD t, .ty "tuple"] = some (.bl true) := rfl
  have ln : lenF [prsD t] = some (.int (t.length : Int)) := by unfold prsD; simp
  have hs := sortU_len h.2.2
  rw [List.length_map] at hs
  have hz : t.length < 4000 := by omega
  have ng : ¬ b < (t.length : Int) := by omega
  have si := si_lst (t.map (·.2))
  have pe : D.tup (t.map prD) = prsD t := rfl
  rw [pe] at e1
  unfold m_are_moves b_are_moves
  generalize (t.map prD).map (fun x => D.bl (pairB b x)) = M1 at *
  generalize D.lst ((t.map (·.1)).map .int) = M2 at *
  generalize D.lst ((t.map (·.2)).map .int) = M3 at *
  generalize prsD t = P at *
  simp [i1, ln, ng]
  rw [e1]
  simp [e5]
  rw [e2]
  simp [e4]
  rw [e3]
  simp [si, hz, hs, ln]
theorem look_moves (b : Int) (hb : 0 ≤ b) (hb2 : b ≤ 30) {t : List (Int × Int)} (h : okMv b t) : m_look_at_moves [.v (.int b), .v (prsD t)] = .ok .non [.v (.int b), .v (prsD t)] := by
  have e := are_moves_is b hb hb2 h
  unfold m_look_at_moves b_look_at_moves
  simp [e]
theorem eq_tupI (l m : List Int) : eqD (tupI' l) (tupI' m) = some (.bl (decide (l = m))) := by
  have tp : ∀ l : List Int, toP (tupI' l) = some (.tuple (l.map PyData.int)) := fun l => by
    unfold tupI'
    rw [toP, toPs_ints]; rfl
  have sh : ∀ l : List Int, PySem.SeqAt.shaped (.tuple (l.map PyData.int)) = true := fun l => by
    unfold PySem.SeqAt.shaped
    rw [PyData.canLay0, lay_ints, PyData.depth, dep_ints]; rfl
  unfold eqD eqvD
  rw [tp, tp]
  simp only [sh]
  rw [PyData.eqv, eqv_ints]
  rfl
def refA (refs : List Int) (i : Int) : Int := refs.getD i.toNat 0
theorem ref_at (refs : List Int) {i : Int} (h : 0 ≤ i) (h2 : i < refs.length) : ixD (tupI' refs) (.int i) = some (.int (refA refs i)) := by
  obtain ⟨k, rfl⟩ := Int.eq_ofNat_of_zero_le h
  have hk : k < refs.length := by omega
  show atI (refs.map D.int) (k : Int) = _
  rw [at_nat, List.getElem?_map, List.getElem?_eq_getElem hk]
  unfold refA
  simp [List.getD_eq_getElem?_getD, List.getElem?_eq_getElem hk]
def doesB (b : Int) (l : List Stm) (t : List (Int × Int)) : Bool :=
  decide ((effP b l (t.map (·.1))).2.2 < 0) && decide ((effP b l (t.map (·.1))).1 = t.map (·.2)) && t.all fun p => refA (effP b l (t.map (·.1))).2.1 p.1 == p.2
abbrev mvT : D → Ro → Option Ro := tupT 2 (consT (setT 6) (consT (setT 7) nilT))
theorem mv_firsts (t : List (Int × Int)) (hl : t.length ≤ 1000) (x0 x1 x3 x4 x5 : Sl) : lcE [6, 7] (seqI (varE 2)) mvT yesT (varE 6) [x0, x1, .v (prsD t), x3, x4, x5, .u, .u] = .ok (.lst ((t.map (·.1)).map .int)) [x0, x1, .v (prsD t), x3, x4, x5, .u, .u] := by
  have := lcE_map (vs := [6, 7]) (fi := seqI (varE 2)) (g := mvT) (ft := yesT) (fe := varE 6) (ρ := [x0, x1, .v (prsD t), x3, x4, x5, .u, .u]) (ds := t.map prD) (fun d => .int (fst0 d)) (by simp [prsD]) (by simp) (by simp; omega) (fun x hx => by
    obtain ⟨p, _, rfl⟩ := List.mem_map.mp hx
    exact ⟨[x0, x1, .v (prsD t), x3, x4, x5, .v (.int p.1), .v (.int p.2)], [x0, x1, .v (prsD t), x3, x4, x5, .v (.int p.1), .v (.int p.2)], [x0, x1, .v (prsD t), x3, x4, x5, .v (.int p.1), .v (.int p.2)], by simp [prD], by simp, by simp [prD, fst0], by simp⟩)
  rw [this, List.map_map, List.map_map]
  rfl
theorem mv_snds (t : List (Int × Int)) (hl : t.length ≤ 1000) (x0 x1 x3 x4 x5 : Sl) : lcE [6, 7] (seqI (varE 2)) mvT yesT (varE 7) [x0, x1, .v (prsD t), x3, x4, x5, .u, .u] = .ok (.lst ((t.map (·.2)).map .int)) [x0, x1, .v (prsD t), x3, x4, x5, .u, .u] := by
  have := lcE_map (vs := [6, 7]) (fi := seqI (varE 2)) (g := mvT) (ft := yesT) (fe := varE 7) (ρ := [x0, x1, .v (prsD t), x3, x4, x5, .u, .u]) (ds := t.map prD) (fun d => .int (snd0 d)) (by simp [prsD]) (by simp) (by simp; omega) (fun x hx => by
    obtain ⟨p, _, rfl⟩ := List.mem_map.mp hx
    exact ⟨[x0, x1, .v (prsD t), x3, x4, x5, .v (.int p.1), .v (.int p.2)], [x0, x1, .v (prsD t), x3, x4, x5, .v (.int p.1), .v (.int p.2)], [x0, x1, .v (prsD t), x3, x4, x5, .v (.int p.1), .v (.int p.2)], by simp [prD], by simp, by simp [prD, snd0], by simp⟩)
  rw [this, List.map_map, List.map_map]
  rfl


def look0 (T : List (Int × Int)) (i : Int) : Int := (T.lookup i).getD 0
theorem lookup_in : ∀ {T : List (Int × Int)} {p : Int × Int}, (T.map (·.1)).Nodup → p ∈ T → T.lookup p.1 = some p.2
  | q :: T, p, h, hp => by
    rw [List.map_cons, List.nodup_cons] at h
    rw [List.lookup_cons]
    rcases List.mem_cons.mp hp with rfl | hp
    · simp
    · have : (p.1 == q.1) = false := beq_eq_false_iff_ne.mpr fun e => h.1 (e ▸ List.mem_map_of_mem hp)
      rw [this]
      exact lookup_in h.2 hp
theorem lookup_some (i : Int) : ∀ T : List (Int × Int), (T.lookup i).isSome = decide (i ∈ T.map (·.1))
  | [] => by simp
  | q :: T => by
    rw [List.lookup_cons, List.map_cons]
    by_cases h : i = q.1
    · subst h; simp
    · have : (i == q.1) = false := beq_eq_false_iff_ne.mpr h
      rw [this]
      simp only
      rw [lookup_some i T]
      simp [h]
theorem inj_nodup {α β : Type} {f : α → β} : ∀ {l : List α} {x y : α}, (l.map f).Nodup → x ∈ l → y ∈ l → f x = f y → x = y
  | a :: l, x, y, h, hx, hy, e => by
    rw [List.map_cons, List.nodup_cons] at h
    rcases List.mem_cons.mp hx with h1 | h1 <;> rcases List.mem_cons.mp hy with h2 | h2
    · rw [h1, h2]
    · exact absurd (by rw [← h1, e]; exact List.mem_map_of_mem h2) h.1
    · exact absurd (by rw [← h2, ← e]; exact List.mem_map_of_mem h1) h.1
    · exact inj_nodup h.2 h1 h2 e
theorem rg_at {b : Int} {k : Nat} (h : k < b.toNat) : (rgZ b)[k]? = some (k : Int) := by
  unfold rgZ
  rw [List.getElem?_map, List.getElem?_range h]
  rfl
/-- the numbers that are not in s -/
def restZ (b : Int) (s : List Int) : List Int := (rgZ b).filter fun i => !decide (i ∈ s)
theorem rest_perm {b : Int} {s : List Int} (h : s.Nodup) (hs : ∀ i ∈ s, i ∈ rgZ b) : (s ++ restZ b s).Perm (rgZ b) := by
  refine (List.perm_ext_iff_of_nodup ?_ (rg_nodup b)).mpr fun i => ?_
  · rw [List.nodup_append]
    refine ⟨h, (rg_nodup b).filter _, fun x hx y hy e => ?_⟩
    subst e
    have := (List.mem_filter.mp hy).2
    simp [hx] at this
  · rw [List.mem_append]
    unfold restZ
    rw [List.mem_filter]
    constructor
    · rintro (q | q)
      · exact hs i q
      · exact q.1
    · intro q
      by_cases m : i ∈ s
      · exact .inl m
      · exact .inr ⟨q, by simp [m]⟩
/-- the whole table -/
def fullT (b : Int) (t : List (Int × Int)) : List (Int × Int) := t ++ (restZ b (t.map (·.1))).zip (restZ b (t.map (·.2)))
def permT (b : Int) (t : List (Int × Int)) : List (Int × Int) := (rgZ b).map fun i => (i, look0 (fullT b t) i)
def planS (b : Int) (t : List (Int × Int)) : List Stm := [.all "rows" (permT b t), .all "refs" (permT b t)]
section
variable {b : Int} {t : List (Int × Int)}
theorem mv_olds (h : okMv b t) : (t.map (·.1)).Nodup ∧ ∀ i ∈ t.map (·.1), i ∈ rgZ b :=
  ⟨List.Pairwise.imp (fun h => by omega) (show (t.map (·.1)).Pairwise (· < ·) from h.1), fun i hi => by
    obtain ⟨p, hp, rfl⟩ := List.mem_map.mp hi
    have := h.2.1 p hp
    exact rg_mem.mpr ⟨this.1, this.2.1⟩⟩
theorem mv_news (h : okMv b t) : (t.map (·.2)).Nodup ∧ ∀ i ∈ t.map (·.2), i ∈ rgZ b :=
  ⟨h.2.2, fun i hi => by
    obtain ⟨p, hp, rfl⟩ := List.mem_map.mp hi
    have := h.2.1 p hp
    exact rg_mem.mpr ⟨this.2.2.1, this.2.2.2⟩⟩
theorem rest_len (h : okMv b t) : (restZ b (t.map (·.1))).length = (restZ b (t.map (·.2))).length := by
  have h1 := (rest_perm (mv_olds h).1 (mv_olds h).2).length_eq
  have h2 := (rest_perm (mv_news h).1 (mv_news h).2).length_eq
  rw [List.length_append, List.length_map] at h1 h2
  omega
theorem full_keys (h : okMv b t) : ((fullT b t).map (·.1)).Perm (rgZ b) := by
  have := rest_perm (mv_olds h).1 (mv_olds h).2
  unfold fullT
  rw [List.map_append, List.map_fst_zip (by rw [rest_len h]; exact Nat.le_refl _)]
  exact this
theorem full_vals (h : okMv b t) : ((fullT b t).map (·.2)).Perm (rgZ b) := by
  have := rest_perm (mv_news h).1 (mv_news h).2
  unfold fullT
  rw [List.map_append, List.map_snd_zip (by rw [rest_len h]; exact Nat.le_refl _)]
  exact this
theorem full_nd (h : okMv b t) : ((fullT b t).map (·.1)).Nodup := (full_keys h).nodup_iff.mpr (rg_nodup b)
theorem full_nd2 (h : okMv b t) : ((fullT b t).map (·.2)).Nodup := (full_vals h).nodup_iff.mpr (rg_nodup b)
theorem look_full (h : okMv b t) {i : Int} (hi : i ∈ rgZ b) : ∃ p ∈ fullT b t, p.1 = i ∧ look0 (fullT b t) i = p.2 ∧ (fullT b t).lookup i = some p.2 := by
  obtain ⟨p, hp, rfl⟩ := List.mem_map.mp ((full_keys h).mem_iff.mpr hi)
  have := lookup_in (full_nd h) hp
  exact ⟨p, hp, rfl, by unfold look0; rw [this]; rfl, this⟩
theorem look_in (h : okMv b t) {i : Int} (hi : i ∈ rgZ b) : look0 (fullT b t) i ∈ rgZ b := by
  obtain ⟨p, hp, _, e, _⟩ := look_full h hi
  rw [e]
  exact (full_vals h).mem_iff.mp (List.mem_map_of_mem hp)
theorem look_inj (h : okMv b t) {i j : Int} (hi : i ∈ rgZ b) (hj : j ∈ rgZ b) (e : look0 (fullT b t) i = look0 (fullT b t) j) : i = j := by
  obtain ⟨p, hp, rfl, e1, _⟩ := look_full h hi
  obtain ⟨q, hq, rfl, e2, _⟩ := look_full h hj
  rw [e1, e2] at e
  rw [inj_nodup (full_nd2 h) hp hq e]
theorem look_mv (h : okMv b t) {p : Int × Int} (hp : p ∈ t) : look0 (fullT b t) p.1 = p.2 := by
  have : p ∈ fullT b t := List.mem_append_left _ hp
  unfold look0
  rw [lookup_in (full_nd h) this]
  rfl
/-! ### what the plan does -/
theorem perm_ok (h : okMv b t) (hb : 2 ≤ b) : okTab b (permT b t) := by
  refine ⟨fun e => ?_, ?_, fun p hp => ?_⟩
  · have := congrArg List.length e
    unfold permT at this
    rw [List.length_map, rg_length] at this
    simp at this
    omega
  · unfold incr permT
    rw [List.map_map]
    have : ((fun x => x.1) ∘ fun i => (i, look0 (fullT b t) i)) = (id : Int → Int) := rfl
    rw [this, List.map_id]
    exact rg_pw b
  · unfold permT at hp
    obtain ⟨i, hi, rfl⟩ := List.mem_map.mp hp
    have h1 := rg_mem.mp hi
    have h2 := rg_mem.mp (look_in h hi)
    exact ⟨h1.1, h1.2, h2.1, h2.2⟩
theorem plan_okSc (h : okMv b t) (hb : 2 ≤ b) (n : Int) (hn : 2 ≤ n) : okSc b n (planS b t) := by
  refine ⟨by unfold planS; simpa using hn, fun s hs => ?_⟩
  unfold planS at hs
  simp only [List.mem_cons, List.not_mem_nil, or_false] at hs
  rcases hs with rfl | rfl
  · exact ⟨.inl rfl, perm_ok h hb⟩
  · exact ⟨.inr rfl, perm_ok h hb⟩
theorem lkp_perm (h : okMv b t) {i : Int} (hi : i ∈ rgZ b) : lkp (permT b t) i = look0 (fullT b t) i := by
  have nd : ((permT b t).map (·.1)).Nodup := by
    unfold permT
    rw [List.map_map]
    have : ((fun x => x.1) ∘ fun i => (i, look0 (fullT b t) i)) = (id : Int → Int) := rfl
    rw [this, List.map_id]
    exact rg_nodup b
  have hm : (i, look0 (fullT b t) i) ∈ permT b t := by
    unfold permT
    exact List.mem_map.mpr ⟨i, hi, rfl⟩
  have := lookup_in nd hm
  unfold lkp
  rw [this]
  rfl
theorem eff_plan (h : okMv b t) {c : List Int} (hc : c.Nodup) (hr : ∀ i ∈ c, i ∈ rgZ b) : effP b (planS b t) c = (c.map (look0 (fullT b t)), (rgZ b).map (look0 (fullT b t)), -1) := by
  have e1 : c.map (lkp (permT b t)) = c.map (look0 (fullT b t)) := List.map_congr_left fun i hi => lkp_perm h (hr i hi)
  have e2 : (rgZ b).map (lkp (permT b t)) = (rgZ b).map (look0 (fullT b t)) := List.map_congr_left fun i hi => lkp_perm h hi
  have nd : (c.map (look0 (fullT b t))).Nodup := nodup_on hc fun x hx y hy e => look_inj h (hr x hx) (hr y hy) e
  have r1 : rowsSt b (.all "rows" (permT b t)) c = (c.map (look0 (fullT b t)), false) := by
    show (if (c.map (lkp (permT b t))).Nodup then (c.map (lkp (permT b t)), false) else (c, true)) = _
    rw [e1, if_pos nd]
  have n1 : ¬ (Stm.all "rows" (permT b t)).p = "refs" := by show ¬ ("rows" : Str) = "refs"; decide
  have n2 : (Stm.all "refs" (permT b t)).p = "refs" := rfl
  have tr : (Stm.all "refs" (permT b t)).turn b = lkp (permT b t) := rfl
  show doneP b [(.all "rows" (permT b t), 0), (.all "refs" (permT b t), 1)] c (rgZ b) = _
  unfold doneP
  rw [if_neg n1, r1, if_neg (by simp)]
  unfold doneP
  rw [if_pos n2, tr, e2]
  rfl
theorem err_plan (h : okMv b t) {c : List Int} (hc : c.Nodup) (hr : ∀ i ∈ c, i ∈ rgZ b) : errD c (effP b (planS b t) c) = .lst [] := by
  rw [eff_plan h hc hr]
  have e : errF c (c.map (look0 (fullT b t)), (rgZ b).map (look0 (fullT b t)), -1) = [] := by
    unfold errF
    rw [List.flatMap_eq_nil_iff]
    intro p hp
    simp only at hp ⊢
    have hm := List.mem_zipIdx' hp
    have hk : p.2 < b.toNat := by have := hm.1; rw [List.length_map, rg_length] at this; exact this
    have hin : ((p.2 : Nat) : Int) ∈ rgZ b := rg_mem.mpr ⟨by omega, by omega⟩
    have hv : p.1 = look0 (fullT b t) (p.2 : Nat) := by
      rw [hm.2, List.getElem_map]
      congr 1
      unfold rgZ
      rw [List.getElem_map, List.getElem_range]
    unfold errZ
    by_cases q : ((p.2 : Nat) : Int) ∈ c
    · rw [if_pos q]
      obtain ⟨j, hj, ej⟩ := List.getElem_of_mem q
      have g1 : c[j]? = some ((p.2 : Nat) : Int) := by rw [List.getElem?_eq_getElem hj, ej]
      rw [getZ_at hc g1 (by rw [List.getElem?_map, g1]; rfl), if_pos hv.symm]
    · rw [if_neg q, if_neg fun z => ?_]
      rw [hv] at z
      obtain ⟨m, hmc, em⟩ := List.mem_map.mp z
      exact q (look_inj h (hr m hmc) hin em ▸ hmc)
  unfold errD errL
  rw [e]
  rfl
theorem does_plan (h : okMv b t) (hb : 0 ≤ b) : doesB b (planS b t) t = true := by
  have ho := mv_olds h
  have e := eff_plan h ho.1 ho.2
  have e1 : (t.map (·.1)).map (look0 (fullT b t)) = t.map (·.2) := by
    rw [List.map_map]
    exact List.map_congr_left fun p hp => look_mv h hp
  rw [e1] at e
  unfold doesB
  rw [e]
  have e2 : (t.all fun p => refA ((rgZ b).map (look0 (fullT b t))) p.1 == p.2) = true := List.all_eq_true.mpr fun p hp => by
    have hi := h.2.1 p hp
    have hl : p.1.toNat < (rgZ b).length := by rw [rg_length]; have := hi.2.1; have := hi.1; omega
    have : refA ((rgZ b).map (look0 (fullT b t))) p.1 = p.2 := by
      unfold refA
      rw [rg_length] at hl
      rw [List.getD_eq_getElem?_getD, List.getElem?_map, rg_at hl, Int.toNat_of_nonneg hi.1]
      exact look_mv h hp
    rw [this]
    simp
  simp only [e2]
  simp
end



@[simp] theorem ev_notInKO {fe : EM D} {i : Nat} {ρ : Ro} : notInKO fe i ρ = (fe ρ).bind fun x ρ1 => (ownK i ρ1).bind fun kvs ρ2 => liftO ((keyD x).map fun k => .bl (!(valD kvs k).isSome)) ρ2 := rfl
def niv (x : D) (kvs : List (D × D)) : Option D := match x, intsD (kvs.map (·.2)) with
  | .int k, some ns => some (.bl (!(ns.any fun y => y == k)))
  | _, _ => none
@[simp] theorem ev_notInVO {fe : EM D} {i : Nat} {ρ : Ro} : notInVO fe i ρ = (fe ρ).bind fun x ρ1 => (ownK i ρ1).bind fun kvs ρ2 => liftO (niv x kvs) ρ2 := rfl
def updF (kvs : List (D × D)) (d : D) : Option (List (D × D)) := match d with
  | .dct more => if kvs.length + more.length ≤ 1000000 then mergeKD kvs more else none
  | _ => none
@[simp] theorem ev_updO {fe : EM D} {i : Nat} {ρ : Ro} : updO i fe ρ = (ownK i ρ).bind fun _ ρ1 => (fe ρ1).bind fun d ρ2 => (ownK i ρ2).bind fun kvs ρ3 => (liftO (updF kvs d) ρ3).bind fun out ρ4 => .ok .nx (putO i (.dct out) ρ4) := by
  show (Res.bind (Res.bind (ownK i ρ) _) _) = _
  cases ownK i ρ with
  | bad => rfl
  | err x => rfl
  | ok a ρ1 =>
    show (Res.bind (Res.bind (fe ρ1) _) _) = Res.bind (fe ρ1) _
    cases fe ρ1 with
    | bad => rfl
    | err x => rfl
    | ok d ρ2 =>
      show (Res.bind (Res.bind (ownK i ρ2) _) _) = Res.bind (ownK i ρ2) _
      cases ownK i ρ2 with
      | bad => rfl
      | err x => rfl
      | ok kvs ρ3 =>
        show (Res.bind (Res.bind (liftO (updF kvs d) ρ3) _) _) = Res.bind (liftO (updF kvs d) ρ3) _
        cases updF kvs d <;> rfl
theorem mergeK_tab : ∀ (t acc : List (Int × Int)), ((acc ++ t).map (·.1)).Nodup → mergeKD (acc.map kvD) (t.map kvD) = some ((acc ++ t).map kvD)
  | [], acc, _ => by simp [mergeKD]
  | p :: t, acc, h => by
    have hp : putD (acc.map kvD) (.int p.1) (.inl p.1) (.int p.2) = (acc ++ [p]).map kvD := by
      unfold putD
      have : ((acc.map kvD).any fun q => decide (keyD q.1 = some (.inl p.1))) = false := by
        rw [List.any_map, List.any_eq_false]
        intro q hq
        simp only [Function.comp, kvD, key_int, Option.some.injEq, Sum.inl.injEq, decide_eq_true_eq]
        intro e
        rw [List.map_append, List.nodup_append] at h
        exact h.2.2 q.1 (List.mem_map.mpr ⟨q, hq, rfl⟩) p.1 (by simp) e
      rw [if_neg (by rw [this]; simp), List.map_append]
      rfl
    rw [List.map_cons, show kvD p = (D.int p.1, D.int p.2) from rfl]
    unfold mergeKD
    simp only [key_int]
    rw [hp]
    have := mergeK_tab t (acc ++ [p]) (by rw [List.append_assoc]; exact h)
    rw [this, List.append_assoc]
    rfl
def intV (d : D) : Int := match d with
  | .int i => i
  | _ => 0
end DL

/-! A search by breadth, as lists: what it finds is shortest. -/
namespace DL
section
variable {S A : Type} [DecidableEq S] (nx : S → A → Option S) (acts : S → List A)
def addG (nd : S × List A) (q : List (S × List A)) (a : A) : List (S × List A) := match nx nd.1 a with
  | none => q
  | some t => if t ∈ q.map (·.1) then q else q ++ [(t, nd.2 ++ [a])]
def turnG (nd : S × List A) (q : List (S × List A)) : List (S × List A) := (acts nd.1).foldl (addG nx nd) q
def bfsG (stop : S → Bool) : Nat → Nat → List (S × List A) → List (S × List A) × Option (S × List A)
  | 0, _, q => (q, none)
  | n + 1, i, q => match q[i]? with
    | none => (q, none)
    | some nd => if stop nd.1 then (q, some nd) else bfsG stop n (i + 1) (turnG nx acts nd q)
/-- a way from a state -/
inductive Pth (s : S) : List A → S → Prop where
  | nil : Pth s [] s
  | snoc {w : List A} {t u : S} {a : A} : Pth s w t → a ∈ acts t → nx t a = some u → Pth s (w ++ [a]) u
variable {nx acts}
variable {s0 : S}
structure InvG (nx : S → A → Option S) (acts : S → List A) (s0 : S) (i : Nat) (q : List (S × List A)) : Prop where
  nd : (q.map (·.1)).Nodup
  pth : ∀ x ∈ q, Pth nx acts s0 x.2 x.1
  srt : q.Pairwise fun x y => x.2.length ≤ y.2.length
  clo : ∀ j, j < i → ∀ x, q[j]? = some x → ∀ a ∈ acts x.1, ∀ t, nx x.1 a = some t → ∃ y ∈ q, y.1 = t ∧ y.2.length ≤ x.2.length + 1
  near : ∀ x, q[i]? = some x → ∀ y ∈ q, y.2.length ≤ x.2.length + 1
  st : ∃ y ∈ q, y.1 = s0 ∧ y.2.length = 0
theorem inv_start : InvG nx acts s0 0 [(s0, [])] where
  nd := by simp
  pth := fun x h => by rw [List.mem_singleton.mp h]; exact .nil
  srt := by simp
  clo := fun j h => absurd h (Nat.not_lt_zero _)
  near := fun x _ y hy => by rw [List.mem_singleton.mp hy]; exact Nat.zero_le _
  st := ⟨_, List.mem_singleton.mpr rfl, rfl, rfl⟩
/-- while a node is turned -/
structure Mid (nx : S → A → Option S) (acts : S → List A) (s0 : S) (q0 : List (S × List A)) (nd : S × List A) (done : List A) (q : List (S × List A)) : Prop where
  nd' : (q.map (·.1)).Nodup
  pth : ∀ x ∈ q, Pth nx acts s0 x.2 x.1
  srt : q.Pairwise fun x y => x.2.length ≤ y.2.length
  le : ∀ y ∈ q, y.2.length ≤ nd.2.length + 1
  pre : ∃ r, q = q0 ++ r ∧ ∀ y ∈ r, y.2.length = nd.2.length + 1
  met : ∀ a ∈ done, ∀ t, nx nd.1 a = some t → ∃ y ∈ q, y.1 = t
theorem mid_step {q0 q : List (S × List A)} {nd : S × List A} {done : List A} {a : A} (hp : Pth nx acts s0 nd.2 nd.1) (ha : a ∈ acts nd.1) (h : Mid nx acts s0 q0 nd done q) : Mid nx acts s0 q0 nd (done ++ [a]) (addG nx nd q a) := by
  unfold addG
  cases e : nx nd.1 a with
  | none =>
    refine ⟨h.nd', h.pth, h.srt, h.le, h.pre, fun c hc t ht => ?_⟩
    rcases List.mem_append.mp hc with hc | hc
    · exact h.met c hc t ht
    · rw [List.mem_singleton.mp hc, e] at ht; cases ht
  | some t =>
    simp only
    split
    · rename_i hm
      refine ⟨h.nd', h.pth, h.srt, h.le, h.pre, fun c hc u hu => ?_⟩
      rcases List.mem_append.mp hc with hc | hc
      · exact h.met c hc u hu
      · rw [List.mem_singleton.mp hc, e] at hu
        cases hu
        obtain ⟨y, hy, rfl⟩ := List.mem_map.mp hm
        exact ⟨y, hy, rfl⟩
    · rename_i hm
      obtain ⟨r, hr, hrl⟩ := h.pre
      have hlen : (nd.2 ++ [a]).length = nd.2.length + 1 := by simp
      refine ⟨?_, fun x hx => ?_, ?_, fun y hy => ?_, ⟨r ++ [(t, nd.2 ++ [a])], by rw [hr, List.append_assoc], fun y hy => ?_⟩, fun c hc u hu => ?_⟩
      · rw [List.map_append, List.map_singleton, List.nodup_append]
        refine ⟨h.nd', by simp, fun x hx c hc => ?_⟩
        rw [List.mem_singleton.mp hc]
        intro z
        have z : x = t := z
        rw [z] at hx
        exact hm hx
      · rcases List.mem_append.mp hx with hx | hx
        · exact h.pth x hx
        · rw [List.mem_singleton.mp hx]
          exact .snoc hp ha e
      · rw [List.pairwise_append]
        refine ⟨h.srt, by simp, fun x hx y hy => ?_⟩
        rw [List.mem_singleton.mp hy]
        show x.2.length ≤ (nd.2 ++ [a]).length
        rw [hlen]
        exact h.le x hx
      · rcases List.mem_append.mp hy with hy | hy
        · exact h.le y hy
        · rw [List.mem_singleton.mp hy]
          show (nd.2 ++ [a]).length ≤ _
          rw [hlen]; exact Nat.le_refl _
      · rcases List.mem_append.mp hy with hy | hy
        · exact hrl y hy
        · rw [List.mem_singleton.mp hy]; exact hlen
      · rcases List.mem_append.mp hc with hc | hc
        · obtain ⟨y, hy, e2⟩ := h.met c hc u hu
          exact ⟨y, List.mem_append_left _ hy, e2⟩
        · rw [List.mem_singleton.mp hc, e] at hu
          cases hu
          exact ⟨_, List.mem_append_right _ (List.mem_singleton.mpr rfl), rfl⟩
theorem mid_fold {q0 : List (S × List A)} {nd : S × List A} (hp : Pth nx acts s0 nd.2 nd.1) : ∀ (as : List A) {done : List A} {q : List (S × List A)}, (∀ a ∈ as, a ∈ acts nd.1) → Mid nx acts s0 q0 nd done q → Mid nx acts s0 q0 nd (done ++ as) (as.foldl (addG nx nd) q)
  | [], done, q, _, h => by rw [List.append_nil]; exact h
  | a :: as, done, q, ha, h => by
    have h1 := mid_step hp (ha a List.mem_cons_self) h
    have h2 := mid_fold hp as (fun c hc => ha c (List.mem_cons_of_mem _ hc)) h1
    rw [List.append_assoc] at h2
    exact h2
theorem inv_turn {i : Nat} {q : List (S × List A)} {nd : S × List A} (h : InvG nx acts s0 i q) (e : q[i]? = some nd) : InvG nx acts s0 (i + 1) (turnG nx acts nd q) ∧ q <+: turnG nx acts nd q := by
  have hn := List.mem_of_getElem? e
  have hil : i < q.length := (List.getElem?_eq_some_iff.mp e).1
  have m0 : Mid nx acts s0 q nd [] q := ⟨h.nd, h.pth, h.srt, h.near nd e, ⟨[], by simp, by simp⟩, by simp⟩
  have m := mid_fold (h.pth nd hn) (acts nd.1) (fun a ha => ha) m0
  rw [List.nil_append] at m
  have m : Mid nx acts s0 q nd (acts nd.1) (turnG nx acts nd q) := m
  obtain ⟨r, hr, hrl⟩ := m.pre
  have get : ∀ j, j ≤ i → (turnG nx acts nd q)[j]? = q[j]? := fun j hj => by
    rw [hr, List.getElem?_append_left (by omega)]
  have sub : ∀ y ∈ q, y ∈ turnG nx acts nd q := fun y hy => by rw [hr]; exact List.mem_append_left _ hy
  refine ⟨⟨m.nd', m.pth, m.srt, fun j hj x hx a ha t ht => ?_, fun x hx y hy => ?_, ?_⟩, ⟨r, hr.symm⟩⟩
  · rw [get j (by omega)] at hx
    by_cases hji : j < i
    · obtain ⟨y, hy, e1, e2⟩ := h.clo j hji x hx a ha t ht
      exact ⟨y, sub y hy, e1, e2⟩
    · have : j = i := by omega
      subst this
      rw [e] at hx
      cases hx
      obtain ⟨y, hy, e1⟩ := m.met a ha t ht
      exact ⟨y, hy, e1, m.le y hy⟩
  · have h1 := m.le y hy
    have h2 : nd.2.length ≤ x.2.length := by
      have hx' := (List.getElem?_eq_some_iff.mp hx)
      have he' := (List.getElem?_eq_some_iff.mp (get i (Nat.le_refl _) ▸ e))
      have := List.pairwise_iff_getElem.mp m.srt i (i + 1) he'.1 hx'.1 (by omega)
      rw [he'.2, hx'.2] at this
      exact this
    omega
  · obtain ⟨y, hy, e1, e2⟩ := h.st
    exact ⟨y, sub y hy, e1, e2⟩
/-- nearer states are known -/
theorem known {i : Nat} {q : List (S × List A)} (h : InvG nx acts s0 i q) {nd : S × List A} (e : q[i]? = some nd) : ∀ {w : List A} {t : S}, Pth nx acts s0 w t → w.length ≤ nd.2.length → ∃ y ∈ q, y.1 = t ∧ y.2.length ≤ w.length := by
  intro w t hp
  induction hp with
  | nil =>
    intro _
    obtain ⟨y, hy, e1, e2⟩ := h.st
    exact ⟨y, hy, e1, by omega⟩
  | @snoc w t u a hp ha hn ih =>
    intro hl
    rw [List.length_append, List.length_singleton] at hl ⊢
    obtain ⟨v, hv, e1, e2⟩ := ih (by omega)
    obtain ⟨j, hj, rfl⟩ := List.getElem_of_mem hv
    have hji : j < i := by
      by_cases hji : j < i
      · exact hji
      · have he := List.getElem?_eq_some_iff.mp e
        have : nd.2.length ≤ q[j].2.length := by
          by_cases z : i = j
          · subst z; rw [he.2]; exact Nat.le_refl _
          · have := List.pairwise_iff_getElem.mp h.srt i j he.1 hj (by omega)
            rw [he.2] at this
            exact this
        omega
    subst e1
    obtain ⟨y, hy, e3, e4⟩ := h.clo j hji _ (List.getElem?_eq_getElem hj) a ha u hn
    exact ⟨y, hy, e3, by omega⟩
/-- everything is known in the end -/
theorem known_all {i : Nat} {q : List (S × List A)} (h : InvG nx acts s0 i q) (e : q.length ≤ i) : ∀ {w : List A} {t : S}, Pth nx acts s0 w t → ∃ y ∈ q, y.1 = t ∧ y.2.length ≤ w.length := by
  intro w t hp
  induction hp with
  | nil =>
    obtain ⟨y, hy, e1, e2⟩ := h.st
    exact ⟨y, hy, e1, by omega⟩
  | @snoc w t u a hp ha hn ih =>
    rw [List.length_append, List.length_singleton]
    obtain ⟨v, hv, e1, e2⟩ := ih
    obtain ⟨j, hj, rfl⟩ := List.getElem_of_mem hv
    subst e1
    obtain ⟨y, hy, e3, e4⟩ := h.clo j (by omega) _ (List.getElem?_eq_getElem hj) a ha u hn
    exact ⟨y, hy, e3, by omega⟩
/-- what the search gives -/
theorem bfs_is {stop : S → Bool} {M : Nat} (hM : ∀ i q, InvG nx acts s0 i q → q.length < M) : ∀ (n i : Nat) (q : List (S × List A)), InvG nx acts s0 i q → i ≤ q.length → M ≤ n + i → (∀ j, j < i → ∀ x, q[j]? = some x → stop x.1 = false) →
    match (bfsG nx acts stop n i q).2 with
    | some nd => stop nd.1 = true ∧ Pth nx acts s0 nd.2 nd.1 ∧ ∀ w t, Pth nx acts s0 w t → stop t = true → nd.2.length ≤ w.length
    | none => ∀ w t, Pth nx acts s0 w t → stop t = false ∧ ∃ y ∈ (bfsG nx acts stop n i q).1, y.1 = t ∧ y.2.length ≤ w.length
  | 0, i, q, h, hi, hn, _ => by have := hM i q h; omega
  | n + 1, i, q, h, hi, hn, hs => by
    unfold bfsG
    cases e : q[i]? with
    | none =>
      have hl : q.length ≤ i := by rw [List.getElem?_eq_none_iff] at e; exact e
      intro w t hp
      obtain ⟨y, hy, e1, e2⟩ := known_all h hl hp
      obtain ⟨j, hj, rfl⟩ := List.getElem_of_mem hy
      have := hs j (by omega) _ (List.getElem?_eq_getElem hj)
      rw [e1] at this
      exact ⟨this, _, hy, e1, e2⟩
    | some nd =>
      simp only
      cases hst : stop nd.1 with
      | true =>
        simp only [if_true]
        refine ⟨hst, h.pth nd (List.mem_of_getElem? e), fun w t hp ht => ?_⟩
        by_cases hl : nd.2.length ≤ w.length
        · exact hl
        · obtain ⟨y, hy, e1, e2⟩ := known h e hp (by omega)
          obtain ⟨j, hj, rfl⟩ := List.getElem_of_mem hy
          have he := List.getElem?_eq_some_iff.mp e
          have hji : j < i := by
            by_cases hji : j < i
            · exact hji
            · have : nd.2.length ≤ q[j].2.length := by
                by_cases z : i = j
                · subst z; rw [he.2]; exact Nat.le_refl _
                · have := List.pairwise_iff_getElem.mp h.srt i j he.1 hj (by omega)
                  rw [he.2] at this
                  exact this
              omega
          have := hs j hji _ (List.getElem?_eq_getElem hj)
          rw [e1, ht] at this
          cases this
      | false =>
        simp only [Bool.false_eq_true, if_false]
        obtain ⟨h1, r, hr⟩ := inv_turn h e
        have hil := (List.getElem?_eq_some_iff.mp e).1
        refine bfs_is hM n (i + 1) _ h1 (by rw [← hr, List.length_append]; omega) (by omega) fun j hj x hx => ?_
        rw [← hr, List.getElem?_append_left (by omega)] at hx
        by_cases hji : j < i
        · exact hs j hji x hx
        · have : j = i := by omega
          subst this
          rw [e] at hx
          cases hx
          exact hst
/-- what is kept by the whole search -/
theorem bfs_inv {stop : S → Bool} : ∀ (n i : Nat) (q : List (S × List A)), InvG nx acts s0 i q → ∃ j, InvG nx acts s0 j (bfsG nx acts stop n i q).1
  | 0, i, q, h => ⟨i, h⟩
  | n + 1, i, q, h => by
    unfold bfsG
    cases e : q[i]? with
    | none => exact ⟨i, h⟩
    | some nd =>
      simp only
      split
      · exact ⟨i, h⟩
      · exact bfs_inv n (i + 1) _ (inv_turn h e).1
end
end DL

/-! Steps, 1: single steps; the program's search. -/
namespace DL
open PySem L2

def stepZ (rows : List Int) (p : Int × Int) : Option (List Int) := if p.1 ∉ rows ∨ p.2 ∈ rows then none else some (rows.map fun x => if x = p.1 then p.2 else x)
def optD : Option (List Int) → D
  | none => .non
  | some r => tupI' r
theorem notIn_rows (rows : List Int) (x : Int) : notInD (.int x) (tupI' rows) = some (.bl (!decide (x ∈ rows))) := by
  have h := in_rows rows x
  unfold inD at h
  unfold notInD
  have h1 : seqOf (tupI' rows) = some (rows.map .int) := rfl
  rw [h1] at h ⊢
  simp only at h ⊢
  split at h
  · rename_i q
    rw [if_pos q]
    injection h with h
    injection h with h
    rw [h]
  · cases h
theorem stepped_is (rows : List Int) (p : Int × Int) (hl : rows.length ≤ 1000) : m_stepped [.v (tupI' rows), .v (prD p)] = .ok (optD (stepZ rows p)) [.v (tupI' rows), .v (prD p)] := by
  have e1 := notIn_rows rows p.1
  have e2 := in_rows rows p.2
  have e := lcE_map (vs := [4]) (fi := seqI (varE 0)) (g := setT 4) (ft := yesT) (fe := ifE (testE (bin2 eqD (varE 4) (varE 2))) (varE 3) (varE 4)) (ρ := [.v (tupI' rows), .v (prD p), .v (.int p.1), .v (.int p.2), .u]) (ds := rows.map .int) (fun d => .int (if int0 d = p.1 then p.2 else int0 d))
    (by simp [tupI']) (by simp) (by simp; omega) (fun d hd => by
      obtain ⟨x, _, rfl⟩ := List.mem_map.mp hd
      refine ⟨[.v (tupI' rows), .v (prD p), .v (.int p.1), .v (.int p.2), .v (.int x)], [.v (tupI' rows), .v (prD p), .v (.int p.1), .v (.int p.2), .v (.int x)], [.v (tupI' rows), .v (prD p), .v (.int p.1), .v (.int p.2), .v (.int x)], by simp, by simp, ?_, by simp⟩
      by_cases h : x = p.1
      · simp [h, int0]
      · simp [h, int0])
  have em : (rows.map D.int).map (fun d => D.int (if int0 d = p.1 then p.2 else int0 d)) = (rows.map fun x => if x = p.1 then p.2 else x).map .int := by
    rw [List.map_map, List.map_map]; rfl
  rw [em] at e
  have et : tupF [.lst ((rows.map fun x => if x = p.1 then p.2 else x).map .int)] = some (tupI' (rows.map fun x => if x = p.1 then p.2 else x)) := rfl
  have ep : prD p = .tup [.int p.1, .int p.2] := rfl
  unfold m_stepped b_stepped stepZ
  generalize (rows.map fun x => if x = p.1 then p.2 else x) = r at *
  generalize hT : tupI' rows = T at *
  rw [ep] at e ⊢
  by_cases h1 : p.1 ∈ rows
  · by_cases h2 : p.2 ∈ rows
    · rw [decide_eq_true h1] at e1
      rw [decide_eq_true h2] at e2
      simp [e1, e2, h1, h2, optD]
    · rw [decide_eq_true h1] at e1
      rw [decide_eq_false h2] at e2
      simp [e1, e2, h1, h2, optD]
      rw [e]
      simp [et]
  · rw [decide_eq_false h1] at e1
    simp [e1, h1, optD]
theorem firsts_lc (t : List (Int × Int)) (hl : t.length ≤ 1000) : lcE [1, 2] (seqI (varE 0)) (tupT 2 (consT (setT 1) (consT (setT 2) nilT))) yesT (varE 1) [.v (prsD t), .u, .u] = .ok (.lst ((t.map (·.1)).map .int)) [.v (prsD t), .u, .u] := by
  have := lcE_map (vs := [1, 2]) (fi := seqI (varE 0)) (g := tupT 2 (consT (setT 1) (consT (setT 2) nilT))) (ft := yesT) (fe := varE 1) (ρ := [.v (prsD t), .u, .u]) (ds := t.map prD) (fun d => .int (fst0 d)) (by simp [prsD]) (by simp) (by simp; omega) (fun x hx => by
    obtain ⟨p, _, rfl⟩ := List.mem_map.mp hx
    exact ⟨[.v (prsD t), .v (.int p.1), .v (.int p.2)], [.v (prsD t), .v (.int p.1), .v (.int p.2)], [.v (prsD t), .v (.int p.1), .v (.int p.2)], by simp [prD], by simp, by simp [prD, fst0], by simp⟩)
  rw [this, List.map_map, List.map_map]
  rfl
theorem snds_lc (t : List (Int × Int)) (hl : t.length ≤ 1000) : lcE [1, 2] (seqI (varE 0)) (tupT 2 (consT (setT 1) (consT (setT 2) nilT))) yesT (varE 2) [.v (prsD t), .u, .u] = .ok (.lst ((t.map (·.2)).map .int)) [.v (prsD t), .u, .u] := by
  have := lcE_map (vs := [1, 2]) (fi := seqI (varE 0)) (g := tupT 2 (consT (setT 1) (consT (setT 2) nilT))) (ft := yesT) (fe := varE 2) (ρ := [.v (prsD t), .u, .u]) (ds := t.map prD) (fun d => .int (snd0 d)) (by simp [prsD]) (by simp) (by simp; omega) (fun x hx => by
    obtain ⟨p, _, rfl⟩ := List.mem_map.mp hx
    exact ⟨[.v (prsD t), .v (.int p.1), .v (.int p.2)], [.v (prsD t), .v (.int p.1), .v (.int p.2)], [.v (prsD t), .v (.int p.1), .v (.int p.2)], by simp [prD], by simp, by simp [prD, snd0], by simp⟩)
  rw [this, List.map_map, List.map_map]
  rfl
theorem firsts_lasts (t : List (Int × Int)) (hl : t.length ≤ 1000) : m_first_and_last [.v (prsD t)] = .ok (.tup [tupI' (t.map (·.1)), tupI' (t.map (·.2))]) [.v (prsD t)] := by
  have e1 := firsts_lc t hl
  have e2 := snds_lc t hl
  have t1 : tupF [.lst ((t.map (·.1)).map .int)] = some (tupI' (t.map (·.1))) := rfl
  have t2 : tupF [.lst ((t.map (·.2)).map .int)] = some (tupI' (t.map (·.2))) := rfl
  unfold m_first_and_last b_first_and_last
  generalize (t.map (·.1)).map D.int = d1 at *
  generalize (t.map (·.2)).map D.int = d2 at *
  simp only [ev_run, ev_retS, ev_tupE, ev_consE, ev_callB, ev_retE, ev_okb]
  simp [e1, e2, t1, t2]
/-! ### nodes -/
abbrev RNd := List Int × List (Int × Int)
def actS (b : Int) (rows : List Int) : List (Int × Int) := rows.flatMap fun a => (rgZ b).map fun n => (a, n)
def goodR (b : Int) (m : Nat) (r : List Int) : Prop := r.Nodup ∧ r.length = m ∧ inR b r
def okK (b : Int) (m i : Nat) (q : List RNd) : Prop := (q.map (·.1)).Nodup ∧ ∀ nd ∈ q, goodR b m nd.1 ∧ nd.2.length ≤ i
theorem step_good {b : Int} {m : Nat} {r t : List Int} {p : Int × Int} (h : goodR b m r) (hp : okI b p.2) (e : stepZ r p = some t) : goodR b m t := by
  unfold stepZ at e
  split at e
  · cases e
  · rename_i hn
    cases e
    rw [not_or, Classical.not_not] at hn
    refine ⟨?_, by rw [List.length_map]; exact h.2.1, fun i hi => ?_⟩
    · refine nodup_on h.1 fun x hx y hy q => ?_
      by_cases h1 : x = p.1
      · by_cases h2 : y = p.1
        · rw [h1, h2]
        · rw [if_pos h1, if_neg h2] at q
          exact absurd (q ▸ hy) hn.2
      · by_cases h2 : y = p.1
        · rw [if_neg h1, if_pos h2] at q
          exact absurd (q ▸ hx) hn.2
        · rw [if_neg h1, if_neg h2] at q
          exact q
    · obtain ⟨x, hx, rfl⟩ := List.mem_map.mp hi
      split
      · exact hp
      · exact h.2.2 x hx
theorem okK_len {b : Int} {m i : Nat} {q : List RNd} (hb : 2 ≤ b) (hb2 : b ≤ 5) (hm : m ≤ 5) (h : okK b m i q) : q.length ≤ 120 := by
  obtain ⟨n, rfl⟩ := Int.eq_ofNat_of_zero_le (show 0 ≤ b by omega)
  have := sub_len (l := arr n m) h.1 fun r hr => by
    obtain ⟨nd, hn, rfl⟩ := List.mem_map.mp hr
    obtain ⟨⟨g1, g2, g3⟩, _⟩ := h.2 nd hn
    rw [← g2]
    exact mem_arr g1 g3
  have h2 := arr_len (b := n) (m := m) (by omega) hm
  rw [List.length_map] at this
  omega
theorem addG_ok {b : Int} {m i : Nat} {nd : RNd} {q : List RNd} (h : okK b m (i + 1) q) (hg : goodR b m nd.1) (hn : nd.2.length ≤ i) {p : Int × Int} (hp : okI b p.2) : okK b m (i + 1) (addG stepZ nd q p) := by
  unfold addG
  cases e : stepZ nd.1 p with
  | none => exact h
  | some t =>
    simp only
    split
    · exact h
    · rename_i hne
      refine ⟨?_, fun x hx => ?_⟩
      · rw [List.map_append, List.map_singleton, List.nodup_append]
        refine ⟨h.1, by simp, fun a ha c hc => ?_⟩
        rw [List.mem_singleton.mp hc]
        intro z
        have z : a = t := z
        rw [z] at ha
        exact hne ha
      · rcases List.mem_append.mp hx with hx | hx
        · exact h.2 x hx
        · rw [List.mem_singleton.mp hx]
          exact ⟨step_good hg hp e, by rw [List.length_append, List.length_singleton]; omega⟩
theorem addG_pre (nd : RNd) (q : List RNd) (p : Int × Int) : q <+: addG stepZ nd q p := by
  unfold addG
  cases stepZ nd.1 p with
  | none => exact List.prefix_refl _
  | some t =>
    simp only
    split
    · exact List.prefix_refl _
    · exact List.prefix_append _ _
theorem fold_ok {b : Int} {m i : Nat} {nd : RNd} (hg : goodR b m nd.1) (hn : nd.2.length ≤ i) : ∀ (ps : List (Int × Int)) {q : List RNd}, okK b m (i + 1) q → (∀ p ∈ ps, okI b p.2) → okK b m (i + 1) (ps.foldl (addG stepZ nd) q)
  | [], _, h, _ => h
  | p :: ps, q, h, hp => fold_ok hg hn ps (addG_ok h hg hn (hp p List.mem_cons_self)) fun x hx => hp x (List.mem_cons_of_mem _ hx)
theorem fold_pre (nd : RNd) : ∀ (ps : List (Int × Int)) (q : List RNd), q <+: ps.foldl (addG stepZ nd) q
  | [], q => List.prefix_refl _
  | p :: ps, q => (addG_pre nd q p).trans (fold_pre nd ps _)
theorem act_ok {b : Int} {r : List Int} {p : Int × Int} (h : p ∈ actS b r) : p.1 ∈ r ∧ okI b p.2 := by
  obtain ⟨a, ha, h⟩ := List.mem_flatMap.mp h
  obtain ⟨n, hn, rfl⟩ := List.mem_map.mp h
  exact ⟨ha, rg_mem.mp hn⟩
theorem fold_flatR {α β γ : Type} (f : γ → β → γ) (g : α → List β) : ∀ (l : List α) (q : γ), (l.flatMap g).foldl f q = l.foldl (fun q a => (g a).foldl f q) q
  | [], q => rfl
  | a :: l, q => by rw [List.flatMap_cons, List.foldl_append, fold_flatR f g l]; rfl
/-! ### the dict -/
def nkR (r : List Int) : NestedKey := .tup (r.map .num)
theorem nk8_r (r : List Int) : nk8 (tupI' r) = some (nkR r) := by
  unfold nk8
  rw [nk_ints]
  have : (nkR r).depth ≤ 8 := by
    unfold nkR
    simp only [NestedKey.depth, depth_nums]
    decide
  simp only
  exact if_pos this
theorem tupK_r (r : List Int) : tupK (tupI' r) = some (nkR r) := nk8_r r
theorem nkR_inj {r t : List Int} (h : nkR r = nkR t) : r = t := by
  unfold nkR at h
  injection h with h
  exact nums_inj h
def fK (nd : RNd) : D × D := (tupI' nd.1, prsD nd.2)
def wK (nd : RNd) : D := tupI' nd.1
theorem kval (t : List Int) : ∀ q : List RNd, valN (q.map fK) (nkR t) = (q.find? fun nd => decide (nd.1 = t)).map fun nd => prsD nd.2
  | [] => rfl
  | x :: q => by
    have ih := kval t q
    unfold valN at ih ⊢
    rw [List.map_cons, List.find?_cons, List.find?_cons]
    have e : keyIsN (nkR t) (fK x) = decide (x.1 = t) := by
      unfold keyIsN
      rw [show (fK x).1 = tupI' x.1 from rfl, nk8_r]
      exact decide_eq_decide.mpr ⟨fun e => nkR_inj (Option.some.inj e), fun e => by rw [e]⟩
    rw [e]
    cases decide (x.1 = t) with
    | true => rfl
    | false => exact ih
theorem find_someR {q : List RNd} {t : List Int} : (q.find? (fun x => decide (x.1 = t))).isSome = decide (t ∈ q.map (·.1)) := by
  rw [Bool.eq_iff_iff, List.find?_isSome, decide_eq_true_eq, List.mem_map]
  exact ⟨fun ⟨x, h1, h2⟩ => ⟨x, h1, of_decide_eq_true h2⟩, fun ⟨x, h1, h2⟩ => ⟨x, h1, decide_eq_true h2⟩⟩
theorem find_nodeR {q : List RNd} {nd : RNd} (h : (q.map (·.1)).Nodup) (hn : nd ∈ q) : q.find? (fun x => decide (x.1 = nd.1)) = some nd := by
  induction q with
  | nil => exact nomatch hn
  | cons x q ih =>
    rw [List.map_cons, List.nodup_cons] at h
    rcases List.mem_cons.mp hn with rfl | hn
    · rw [List.find?_cons]; simp
    · have : x.1 ≠ nd.1 := fun e => h.1 (by rw [e]; exact List.mem_map_of_mem hn)
      rw [List.find?_cons, decide_eq_false this]
      exact ih h.2 hn
theorem k_in (q : List RNd) (t : List Int) : inNF true (tupI' t) (q.map fK) = some (.bl (!decide (t ∈ q.map (·.1)))) := by
  unfold inNF
  rw [tupK_r, Option.map_some, kval, Option.isSome_map, find_someR]
  rfl
theorem k_at {q : List RNd} {nd : RNd} (h : (q.map (·.1)).Nodup) (hn : nd ∈ q) : ixNF (q.map fK) (tupI' nd.1) = some (prsD nd.2) := by
  unfold ixNF
  rw [tupK_r, Option.bind_some, kval, find_nodeR h hn]
  rfl
theorem k_put {q : List RNd} {t : List Int} {ps : List (Int × Int)} (hl : q.length ≤ 400000) (h : t ∉ q.map (·.1)) : setNF (q.map fK) (prsD ps) (tupI' t) = some ((q ++ [(t, ps)]).map fK) := by
  unfold setNF
  rw [tupK_r]
  simp only
  rw [if_pos (by rw [List.length_map]; omega)]
  have hv : valN (q.map fK) (nkR t) = none := by
    have := find_someR (q := q) (t := t)
    rw [decide_eq_false h] at this
    rw [kval]
    cases e : q.find? fun nd => decide (nd.1 = t) with
    | none => rfl
    | some x => rw [e] at this; simp at this
  have hp : putN (q.map fK) (tupI' t) (nkR t) (prsD ps) = q.map fK ++ [(tupI' t, prsD ps)] := by
    unfold putN
    rw [if_neg]
    intro z
    unfold valN at hv
    rw [List.any_eq_true] at z
    obtain ⟨p, hp, hk⟩ := z
    cases e : (q.map fK).find? (keyIsN (nkR t)) with
    | none => exact absurd hk (by have := List.find?_eq_none.mp e p hp; simpa using this)
    | some y => rw [e] at hv; cases hv
  rw [hp, List.map_append]
  rfl
theorem prs_add (ps : List (Int × Int)) (p : Int × Int) (h : ps.length ≤ 400000) : addD (prsD ps) (.tup [prD p]) = some (prsD (ps ++ [p])) := by
  have h2 : (ps.map prD).length + [prD p].length ≤ 1000000 := by rw [List.length_map, List.length_singleton]; omega
  unfold prsD
  rw [op_at, if_pos h2, List.map_append]
  rfl
end DL

/-! Steps, 2: the program's search is the search by breadth. -/
namespace DL
open PySem L2

theorem iter_ret {c : EM Bool} {f : SM} {n : Nat} {ρ ρ1 ρ2 : Ro} {d : D} (h : c ρ = .ok true ρ1) (h2 : f ρ1 = .ok (.ret d) ρ2) : iterS c f (n + 1) ρ = .ok (.ret d) ρ2 := by
  conv => lhs; unfold iterS
  rw [h]
  simp only
  rw [h2]
theorem isNot_opt (o : Option (List Int)) : isNotD (optD o) .non = some (.bl o.isSome) := by cases o <;> rfl
abbrev SInner : SM := seqS (asgS (callE m_stepped (argV (varE 7) (argV (tupE (consE (varE 8) (consE (varE 9) (retE [])))) (retE [])))) (setT 10)) (ifS (andT (testE (bin2 isNotD (varE 10) (retE .non))) (testE (inNO true (varE 10) 4))) (seqS (setN 4 (varE 10) (bin2 addD (ixNO 4 (varE 7)) (tupE (consE (tupE (consE (varE 8) (consE (varE 9) (retE [])))) (retE []))))) (appS 5 (varE 10))) nextS)
theorem new_loop (b : Int) (hb : 2 ≤ b) (hb2 : b ≤ 5) (m i : Nat) (hm : m ≤ 5) (hi : i ≤ 1000) (nd : RNd) (hg : goodR b m nd.1) (hn : nd.2.length ≤ i) (a : Int) (x0 x1 x2 x3 x6 : Sl) :
    ∀ (ns : List Int) (q : List RNd) (x9 x10 : Sl), notP x9 = true → notP x10 = true → okK b m (i + 1) q → nd ∈ q → (∀ n ∈ ns, okI b n) →
    ∃ y9 y10, notP y9 = true ∧ notP y10 = true ∧ loopS (setT 9) SInner (ns.map .int) [x0, x1, x2, x3, .o (.dcn (q.map fK)), .o (.lst (q.map wK)), x6, .v (tupI' nd.1), .v (.int a), x9, x10] =
      .ok .nx [x0, x1, x2, x3, .o (.dcn (((ns.map fun n => (a, n)).foldl (addG stepZ nd) q).map fK)), .o (.lst (((ns.map fun n => (a, n)).foldl (addG stepZ nd) q).map wK)), x6, .v (tupI' nd.1), .v (.int a), y9, y10]
  | [], q, x9, x10, h9, h10, _, _, _ => ⟨x9, x10, h9, h10, rfl⟩
  | n :: ns, q, x9, x10, h9, h10, hq, hnq, hk => by
    have hn0 := hk n List.mem_cons_self
    have hlen := okK_len hb hb2 hm hq
    have e1 := stepped_is nd.1 (a, n) (by rw [hg.2.1]; omega)
    have e2 := isNot_opt (stepZ nd.1 (a, n))
    have e4 := k_at hq.1 hnq
    have e5 := prs_add nd.2 (a, n) (by omega)
    have ep : prD (a, n) = .tup [.int a, .int n] := rfl
    rw [ep] at e1 e5
    obtain ⟨y9, y10, n9, n10, ih⟩ := new_loop b hb hb2 m i hm hi nd hg hn a x0 x1 x2 x3 x6 ns (addG stepZ nd q (a, n)) (.v (.int n)) (.v (optD (stepZ nd.1 (a, n)))) rfl rfl (addG_ok hq hg hn hn0) ((addG_pre nd q (a, n)).mem hnq) (fun j hj => hk j (List.mem_cons_of_mem _ hj))
    refine ⟨y9, y10, n9, n10, ?_⟩
    rw [List.map_cons, List.map_cons, List.foldl_cons, ← ih, loop_cons (ρ1 := [x0, x1, x2, x3, .o (.dcn (q.map fK)), .o (.lst (q.map wK)), x6, .v (tupI' nd.1), .v (.int a), .v (.int n), x10]) (by simp [-ev_setT, ev_setTn, h9])]
    have hw : (q.map wK).length ≤ 1000000 := by rw [List.length_map]; omega
    cases hs : stepZ nd.1 (a, n) with
    | none =>
      rw [hs] at e1 e2
      have ea : addG stepZ nd q (a, n) = q := by unfold addG; rw [hs]
      rw [ea]
      have e2 : isNotD (optD none) .non = some (.bl false) := e2
      generalize optD none = O at *
      generalize q.map fK = F at *
      generalize q.map wK = Wl at *
      generalize tupI' nd.1 = R at *
      simp [-ev_setT, ev_setTn, h10, e1, e2]
    | some t =>
      rw [hs] at e1 e2
      have e2 : isNotD (tupI' t) .non = some (.bl true) := e2
      have e1 : m_stepped [.v (tupI' nd.1), .v (.tup [.int a, .int n])] = .ok (tupI' t) [.v (tupI' nd.1), .v (.tup [.int a, .int n])] := e1
      have ot : optD (some t) = tupI' t := rfl
      rw [ot]
      have e3 := k_in q t
      by_cases ht : t ∈ q.map (·.1)
      · have ea : addG stepZ nd q (a, n) = q := by unfold addG; rw [hs]; exact if_pos ht
        rw [decide_eq_true ht] at e3
        rw [ea]
        generalize q.map fK = F at *
        generalize q.map wK = Wl at *
        generalize tupI' nd.1 = R at *
        generalize tupI' t = T at *
        simp [-ev_setT, ev_setTn, h10, e1, e2, e3]
      · have ea : addG stepZ nd q (a, n) = q ++ [(t, nd.2 ++ [(a, n)])] := by unfold addG; rw [hs]; exact if_neg ht
        have e6 := k_put (q := q) (t := t) (ps := nd.2 ++ [(a, n)]) (by omega) ht
        rw [decide_eq_false ht] at e3
        have hws : (q ++ [(t, nd.2 ++ [(a, n)])]).map wK = q.map wK ++ [tupI' t] := by rw [List.map_append]; rfl
        rw [ea, hws]
        generalize (q ++ [(t, nd.2 ++ [(a, n)])]).map fK = F2 at *
        generalize q.map fK = F at *
        generalize q.map wK = Wl at *
        generalize tupI' nd.1 = R at *
        generalize tupI' t = T at *
        generalize prsD (nd.2 ++ [(a, n)]) = P2 at *
        generalize prsD nd.2 = P1 at *
        simp [-ev_setT, ev_setTn, h10, e1, e2, e3, e4, e5, e6, hw]
abbrev SMid : SM := forS (rng1I (consE (varE 0) (retE []))) (setT 9) SInner
theorem old_loop (b : Int) (hb : 2 ≤ b) (hb2 : b ≤ 5) (m i : Nat) (hm : m ≤ 5) (hi : i ≤ 1000) (nd : RNd) (hg : goodR b m nd.1) (hn : nd.2.length ≤ i) (x1 x2 x3 x6 : Sl) :
    ∀ (as : List Int) (q : List RNd) (x8 x9 x10 : Sl), notP x8 = true → notP x9 = true → notP x10 = true → okK b m (i + 1) q → nd ∈ q →
    ∃ y8 y9 y10, notP y8 = true ∧ notP y9 = true ∧ notP y10 = true ∧ loopS (setT 8) SMid (as.map .int) [.v (.int b), x1, x2, x3, .o (.dcn (q.map fK)), .o (.lst (q.map wK)), x6, .v (tupI' nd.1), x8, x9, x10] =
      .ok .nx [.v (.int b), x1, x2, x3, .o (.dcn (((as.flatMap fun a => (rgZ b).map fun n => (a, n)).foldl (addG stepZ nd) q).map fK)), .o (.lst (((as.flatMap fun a => (rgZ b).map fun n => (a, n)).foldl (addG stepZ nd) q).map wK)), x6, .v (tupI' nd.1), y8, y9, y10]
  | [], q, x8, x9, x10, h8, h9, h10, _, _ => ⟨x8, x9, x10, h8, h9, h10, rfl⟩
  | a :: as, q, x8, x9, x10, h8, h9, h10, hq, hnq => by
    have hr : ∀ n ∈ rgZ b, okI b n := fun n hn => rg_mem.mp hn
    have sm : smallI b = true := by unfold smallI; simp; omega
    obtain ⟨y9, y10, n9, n10, e⟩ := new_loop b hb hb2 m i hm hi nd hg hn a (.v (.int b)) x1 x2 x3 x6 (rgZ b) q x9 x10 h9 h10 hq hnq hr
    have hq2 := fold_ok hg hn ((rgZ b).map fun n => (a, n)) hq (fun p hp => by obtain ⟨n, hn, rfl⟩ := List.mem_map.mp hp; exact hr n hn)
    have hnq2 := (fold_pre nd ((rgZ b).map fun n => (a, n)) q).mem hnq
    rw [List.flatMap_cons, List.foldl_append]
    generalize ((rgZ b).map fun n => (a, n)).foldl (addG stepZ nd) q = q2 at *
    obtain ⟨y8, z9, z10, k8, k9, k10, ih⟩ := old_loop b hb hb2 m i hm hi nd hg hn x1 x2 x3 x6 as q2 (.v (.int a)) y9 y10 rfl n9 n10 hq2 hnq2
    refine ⟨y8, z9, z10, k8, k9, k10, ?_⟩
    rw [← ih, List.map_cons, loop_cons (ρ1 := [.v (.int b), x1, x2, x3, .o (.dcn (q.map fK)), .o (.lst (q.map wK)), x6, .v (tupI' nd.1), .v (.int a), x9, x10]) (by simp [-ev_setT, ev_setTn, h8])]
    have rg : rng1I (consE (varE 0) (retE [])) [.v (.int b), x1, x2, x3, .o (.dcn (q.map fK)), .o (.lst (q.map wK)), x6, .v (tupI' nd.1), .v (.int a), x9, x10] = .ok ((rgZ b).map .int) [.v (.int b), x1, x2, x3, .o (.dcn (q.map fK)), .o (.lst (q.map wK)), x6, .v (tupI' nd.1), .v (.int a), x9, x10] := by
      simp [sm, rg_ints]
    generalize q.map fK = F at *
    generalize q.map wK = Wl at *
    unfold SMid
    rw [ev_forS, rg]
    simp only [ev_okb]
    rw [e]
abbrev SCond : EM Bool := testE (bin2 ltD (varE 6) (lenO 5))
abbrev SBody : SM := seqS (asgS (ixO 5 (varE 6)) (setT 7)) (seqS (asgS (bin2 addD (varE 6) (retE (.int 1))) (setT 6)) (seqS (ifS (testE (bin2 eqD (varE 7) (varE 3))) (retS (ixNO 4 (varE 7))) nextS) (forS (seqI (varE 7)) (setT 8) SMid)))
theorem step_body (b : Int) (x1 x2 x7 y8 y9 y10 x8 x9 x10 : Sl) (h7 : notP x7 = true) (i : Nat) (Lst R : D) (as : List D) (F F2 : List (D × D)) (Wl W2 : List D) (hix : atI Wl (i : Int) = some R) (ne : eqD R Lst = some (.bl false)) (sq : seqD R = some as)
    (e : loopS (setT 8) SMid as [.v (.int b), x1, x2, .v Lst, .o (.dcn F), .o (.lst Wl), .v (.int ((i : Int) + 1)), .v R, x8, x9, x10] = .ok .nx [.v (.int b), x1, x2, .v Lst, .o (.dcn F2), .o (.lst W2), .v (.int ((i : Int) + 1)), .v R, y8, y9, y10]) :
    SBody [.v (.int b), x1, x2, .v Lst, .o (.dcn F), .o (.lst Wl), .v (.int (i : Int)), x7, x8, x9, x10] = .ok .nx [.v (.int b), x1, x2, .v Lst, .o (.dcn F2), .o (.lst W2), .v (.int ((i : Int) + 1)), .v R, y8, y9, y10] := by
  have sq' : seqI (varE 7) [.v (.int b), x1, x2, .v Lst, .o (.dcn F), .o (.lst Wl), .v (.int ((i : Int) + 1)), .v R, x8, x9, x10] = .ok as [.v (.int b), x1, x2, .v Lst, .o (.dcn F), .o (.lst Wl), .v (.int ((i : Int) + 1)), .v R, x8, x9, x10] := by
    rw [ev_seqD]
    simp [sq]
  simp [-ev_forS, -ev_setT, ev_setTn, h7, hix, ne]
  rw [ev_forS, sq']
  simp only [ev_okb]
  rw [e]
theorem step_stop (b : Int) (x1 x2 x7 x8 x9 x10 : Sl) (h7 : notP x7 = true) (i : Nat) (R P : D) (F : List (D × D)) (Wl : List D) (hix : atI Wl (i : Int) = some R) (ne : eqD R R = some (.bl true)) (at_ : ixNF F R = some P) :
    SBody [.v (.int b), x1, x2, .v R, .o (.dcn F), .o (.lst Wl), .v (.int (i : Int)), x7, x8, x9, x10] = .ok (.ret P) [.v (.int b), x1, x2, .v R, .o (.dcn F), .o (.lst Wl), .v (.int ((i : Int) + 1)), .v R, x8, x9, x10] := by
  simp [-ev_forS, -ev_setT, ev_setTn, h7, hix, ne, at_]
theorem step_cond (x0 x1 x2 x3 x4 x7 x8 x9 x10 : Sl) (Wl : List D) (i : Nat) : SCond [x0, x1, x2, x3, x4, .o (.lst Wl), .v (.int (i : Int)), x7, x8, x9, x10] = .ok (decide (i < Wl.length)) [x0, x1, x2, x3, x4, .o (.lst Wl), .v (.int (i : Int)), x7, x8, x9, x10] := by
  simp
def flR (o : Option RNd) : Fl := match o with
  | some nd => .ret (prsD nd.2)
  | none => .nx
theorem steps_loop (b : Int) (hb : 2 ≤ b) (hb2 : b ≤ 5) (m : Nat) (hm : m ≤ 5) (last : List Int) (x1 x2 : Sl) (M : Nat) (hM : 120 < M) :
    ∀ (n i : Nat) (q : List RNd) (x7 x8 x9 x10 : Sl), notP x7 = true → notP x8 = true → notP x9 = true → notP x10 = true → okK b m i q → i ≤ q.length → M ≤ n + i →
    ∃ y6 y7 y8 y9 y10, iterS SCond SBody n [.v (.int b), x1, x2, .v (tupI' last), .o (.dcn (q.map fK)), .o (.lst (q.map wK)), .v (.int (i : Int)), x7, x8, x9, x10] =
      .ok (flR (bfsG stepZ (actS b) (fun r => decide (r = last)) n i q).2) [.v (.int b), x1, x2, .v (tupI' last), .o (.dcn ((bfsG stepZ (actS b) (fun r => decide (r = last)) n i q).1.map fK)), .o (.lst ((bfsG stepZ (actS b) (fun r => decide (r = last)) n i q).1.map wK)), y6, y7, y8, y9, y10]
  | 0, i, q, x7, x8, x9, x10, _, _, _, _, hq, hiq, hn => by
    have := okK_len hb hb2 hm hq
    omega
  | n + 1, i, q, x7, x8, x9, x10, h7, h8, h9, h10, hq, hiq, hn => by
    have hlen := okK_len hb hb2 hm hq
    have hwl : (q.map wK).length = q.length := List.length_map ..
    by_cases hi : i < q.length
    · have eq : q[i]? = some q[i] := List.getElem?_eq_getElem hi
      have hnq : q[i] ∈ q := List.getElem_mem hi
      obtain ⟨hg, hs⟩ := hq.2 _ hnq
      have hix : atI (q.map wK) (i : Int) = some (tupI' q[i].1) := by
        rw [at_nat, List.getElem?_map, eq]
        rfl
      have c1 := step_cond (.v (.int b)) x1 x2 (.v (tupI' last)) (.o (.dcn (q.map fK))) x7 x8 x9 x10 (q.map wK) i
      rw [hwl, decide_eq_true hi] at c1
      have ee := eq_tupI q[i].1 last
      by_cases hl : q[i].1 = last
      · have eb : bfsG stepZ (actS b) (fun r => decide (r = last)) (n + 1) i q = (q, some q[i]) := by
          unfold bfsG
          rw [eq]
          simp [hl]
        rw [eb]
        subst hl
        rw [decide_eq_true rfl] at ee
        have b1 := step_stop b x1 x2 x7 x8 x9 x10 h7 i (tupI' q[i].1) (prsD q[i].2) (q.map fK) (q.map wK) hix ee (k_at hq.1 hnq)
        exact ⟨_, _, _, _, _, iter_ret c1 b1⟩
      · have eb : bfsG stepZ (actS b) (fun r => decide (r = last)) (n + 1) i q = bfsG stepZ (actS b) (fun r => decide (r = last)) n (i + 1) (turnG stepZ (actS b) q[i] q) := by
          conv => lhs; unfold bfsG
          rw [eq]
          simp [hl]
        rw [eb]
        rw [decide_eq_false hl] at ee
        obtain ⟨y8, y9, y10, n8, n9, n10, e⟩ := old_loop b hb hb2 m i hm (by omega) q[i] hg hs x1 x2 (.v (tupI' last)) (.v (.int ((i : Int) + 1))) q[i].1 q x8 x9 x10 h8 h9 h10 ⟨hq.1, fun x hx => ⟨(hq.2 x hx).1, Nat.le_succ_of_le (hq.2 x hx).2⟩⟩ hnq
        have et : (q[i].1.flatMap fun a => (rgZ b).map fun n => (a, n)).foldl (addG stepZ q[i]) q = turnG stepZ (actS b) q[i] q := rfl
        rw [et] at e
        have b1 := step_body b x1 x2 x7 y8 y9 y10 x8 x9 x10 h7 i (tupI' last) (tupI' q[i].1) (q[i].1.map .int) _ _ _ _ hix ee rfl e
        have hpre := fold_pre q[i] (actS b q[i].1) q
        have hle : q.length ≤ (turnG stepZ (actS b) q[i] q).length := hpre.length_le
        have hq2 : okK b m (i + 1) (turnG stepZ (actS b) q[i] q) := fold_ok hg hs _ ⟨hq.1, fun x hx => ⟨(hq.2 x hx).1, Nat.le_succ_of_le (hq.2 x hx).2⟩⟩ fun p hp => (act_ok hp).2
        have hcast : (((i + 1 : Nat)) : Int) = (i : Int) + 1 := by omega
        obtain ⟨z6, z7, z8, z9, z10, ih⟩ := steps_loop b hb hb2 m hm last x1 x2 M hM n (i + 1) (turnG stepZ (actS b) q[i] q) (.v (tupI' q[i].1)) y8 y9 y10 rfl n8 n9 n10 hq2 (by omega) (by omega)
        rw [hcast] at ih
        exact ⟨z6, z7, z8, z9, z10, by rw [iter_go c1 b1, ih]⟩
    · have eq : q[i]? = none := List.getElem?_eq_none (by omega)
      have c1 := step_cond (.v (.int b)) x1 x2 (.v (tupI' last)) (.o (.dcn (q.map fK))) x7 x8 x9 x10 (q.map wK) i
      rw [hwl, decide_eq_false hi] at c1
      have eb : bfsG stepZ (actS b) (fun r => decide (r = last)) (n + 1) i q = (q, none) := by
        unfold bfsG
        rw [eq]
      rw [eb]
      exact ⟨.v (.int (i : Int)), x7, x8, x9, x10, iter_end c1⟩
/-- what the search gives: steps, or none -/
def stepsO (b : Int) (t : List (Int × Int)) : Option RNd := (bfsG stepZ (actS b) (fun r => decide (r = t.map (·.2))) nW 0 [(t.map (·.1), [])]).2
def stepsD (o : Option RNd) : D := match o with
  | some nd => prsD nd.2
  | none => .non
theorem steps_all (b : Int) (Mv Fi La : D) (F F2 : List (D × D)) (Wl W2 : List D) (N : Nat) (o : Option RNd) (y6 y7 y8 y9 y10 : Sl) (e0 : m_first_and_last [.v Mv] = .ok (.tup [Fi, La]) [.v Mv]) (e1 : dispNF Fi (.tup []) = some (.dcn F)) (e2 : D.lst [Fi] = .lst Wl)
    (e : iterS SCond SBody N [.v (.int b), .v Mv, .v Fi, .v La, .o (.dcn F), .o (.lst Wl), .v (.int 0), .u, .u, .u, .u] = .ok (flR o) [.v (.int b), .v Mv, .v Fi, .v La, .o (.dcn F2), .o (.lst W2), y6, y7, y8, y9, y10]) (hN : nW = N) :
    m_shortest_steps [.v (.int b), .v Mv] = .ok (stepsD o) [.v (.int b), .v Mv] := by
  unfold m_shortest_steps b_shortest_steps
  rw [hN]
  simp [e0, e1, e2]
  rw [e]
  cases o with
  | none => simp [flR, stepsD]
  | some nd => simp [flR, stepsD]
theorem mv_good {b : Int} {t : List (Int × Int)} (h : okMv b t) : goodR b t.length (t.map (·.1)) ∧ goodR b t.length (t.map (·.2)) := by
  obtain ⟨h1, h2⟩ := mv_olds h
  obtain ⟨h3, h4⟩ := mv_news h
  exact ⟨⟨h1, List.length_map .., fun i hi => rg_mem.mp (h2 i hi)⟩, ⟨h3, List.length_map .., fun i hi => rg_mem.mp (h4 i hi)⟩⟩
theorem start_okK {b : Int} {m : Nat} {r : List Int} (h : goodR b m r) : okK b m 0 [(r, [])] := ⟨by simp, fun nd hn => by rw [List.mem_singleton.mp hn]; exact ⟨h, Nat.le_refl _⟩⟩
theorem shortest_is (b : Int) (hb : 2 ≤ b) (hb2 : b ≤ 5) {t : List (Int × Int)} (h : okMv b t) : m_shortest_steps [.v (.int b), .v (prsD t)] = .ok (stepsD (stepsO b t)) [.v (.int b), .v (prsD t)] := by
  have hlen := mv_len h (by omega)
  have e0 := firsts_lasts t (by omega)
  have e1 : dispNF (tupI' (t.map (·.1))) (.tup []) = some (.dcn ([(t.map (·.1), ([] : List (Int × Int)))].map fK)) := by
    unfold dispNF
    rw [tupK_r]
    rfl
  obtain ⟨N, hN⟩ : ∃ N : Nat, nW = N := ⟨_, rfl⟩
  have hN2 : 121 ≤ N + 0 := by rw [← hN]; decide
  obtain ⟨y6, y7, y8, y9, y10, e⟩ := steps_loop b hb hb2 t.length (by omega) (t.map (·.2)) (.v (prsD t)) (.v (tupI' (t.map (·.1)))) 121 (by decide) N 0 [(t.map (·.1), [])] .u .u .u .u rfl rfl rfl rfl (start_okK (mv_good h).1) (Nat.zero_le _) hN2
  unfold stepsO
  rw [hN]
  exact steps_all b (prsD t) (tupI' (t.map (·.1))) (tupI' (t.map (·.2))) _ _ _ _ N _ y6 y7 y8 y9 y10 e0 e1 rfl e hN
end DL

/-! Steps, 3: how many there are at least: the moves that move, and the rings. -/
namespace DL

def walkZ (t : List (Int × Int)) : Nat → Int → List Int → List Int → Int × List Int × List Int
  | 0, k, met, way => (k, met, way)
  | n + 1, k, met, way => match t.lookup k with
    | some to => if k ∈ met then (k, met, way) else walkZ t n to (met ++ [k]) (way ++ [k])
    | none => (k, met, way)
def ringB (k : Int) (r : Int × List Int × List Int) : Nat := if 1 < r.2.2.length ∧ r.1 = k then 1 else 0
def ringF (t : List (Int × Int)) (N : Nat) : List Int → Nat → List Int → Nat
  | [], f, _ => f
  | k :: ks, f, met => ringF t N ks (f + ringB k (walkZ t N k met [])) (walkZ t N k met []).2.1
def ringsZ (t : List (Int × Int)) : Nat := ringF t 6 (t.map (·.1)) 0 []
def movedZ (t : List (Int × Int)) : Nat := (t.filter fun p => !decide (p.1 = p.2)).length
def phi (rows last : List Int) : Nat := movedZ (rows.zip last) + ringsZ (rows.zip last)
/-! ### other names for numbers -/
section
variable {U : Int → Prop} {f : Int → Int}
def mapT (f : Int → Int) (t : List (Int × Int)) : List (Int × Int) := t.map fun p => (f p.1, f p.2)
def InT (U : Int → Prop) (t : List (Int × Int)) : Prop := ∀ p ∈ t, U p.1 ∧ U p.2
def InjU (U : Int → Prop) (f : Int → Int) : Prop := ∀ x y, U x → U y → f x = f y → x = y
theorem lookup_rel (hf : InjU U f) : ∀ {t : List (Int × Int)} {k : Int}, InT U t → U k → (mapT f t).lookup (f k) = (t.lookup k).map f
  | [], _, _, _ => rfl
  | p :: t, k, ht, hk => by
    have hp := ht p List.mem_cons_self
    have ih := lookup_rel hf (t := t) (k := k) (fun q hq => ht q (List.mem_cons_of_mem _ hq)) hk
    unfold mapT at ih ⊢
    rw [List.map_cons, List.lookup_cons, List.lookup_cons]
    by_cases h : k = p.1
    · subst h; simp
    · have h1 : (k == p.1) = false := beq_eq_false_iff_ne.mpr h
      have h2 : (f k == f p.1) = false := beq_eq_false_iff_ne.mpr fun e => h (hf _ _ hk hp.1 e)
      rw [h1, h2]
      exact ih
theorem mem_rel (hf : InjU U f) {l : List Int} {k : Int} (hl : ∀ x ∈ l, U x) (hk : U k) : f k ∈ l.map f ↔ k ∈ l := by
  constructor
  · intro h
    obtain ⟨x, hx, e⟩ := List.mem_map.mp h
    exact hf _ _ (hl x hx) hk e ▸ hx
  · exact fun h => List.mem_map_of_mem h
theorem walk_rel (hf : InjU U f) {t : List (Int × Int)} (ht : InT U t) : ∀ (n : Nat) {k : Int} {met way : List Int}, U k → (∀ x ∈ met, U x) →
    walkZ (mapT f t) n (f k) (met.map f) (way.map f) = (f (walkZ t n k met way).1, (walkZ t n k met way).2.1.map f, (walkZ t n k met way).2.2.map f) ∧ (∀ x ∈ (walkZ t n k met way).2.1, U x)
  | 0, k, met, way, hk, hm => ⟨rfl, hm⟩
  | n + 1, k, met, way, hk, hm => by
    unfold walkZ
    rw [lookup_rel hf ht hk]
    cases e : t.lookup k with
    | none => exact ⟨rfl, hm⟩
    | some to =>
      have hto : U to := (ht _ (lookup_pair e)).2
      simp only [Option.map_some]
      by_cases h : k ∈ met
      · rw [if_pos h, if_pos ((mem_rel hf hm hk).mpr h)]
        exact ⟨rfl, hm⟩
      · rw [if_neg h, if_neg fun z => h ((mem_rel hf hm hk).mp z)]
        have := walk_rel hf ht n (k := to) (met := met ++ [k]) (way := way ++ [k]) hto fun x hx => by
          rcases List.mem_append.mp hx with hx | hx
          · exact hm x hx
          · rw [List.mem_singleton.mp hx]; exact hk
        rw [List.map_append, List.map_append] at this
        exact this
theorem walk_kept {t : List (Int × Int)} (ht : InT U t) : ∀ (n : Nat) {k : Int} {met way : List Int}, U k → U (walkZ t n k met way).1
  | 0, k, met, way, hk => hk
  | n + 1, k, met, way, hk => by
    unfold walkZ
    cases e : t.lookup k with
    | none => exact hk
    | some to =>
      simp only
      split
      · exact hk
      · exact walk_kept ht n (ht _ (lookup_pair e)).2
theorem ring_rel (hf : InjU U f) {t : List (Int × Int)} (ht : InT U t) (N : Nat) : ∀ (ks : List Int) (c : Nat) (met : List Int), (∀ x ∈ ks, U x) → (∀ x ∈ met, U x) → ringF (mapT f t) N (ks.map f) c (met.map f) = ringF t N ks c met
  | [], _, _, _, _ => rfl
  | k :: ks, c, met, hks, hm => by
    have hk := hks k List.mem_cons_self
    obtain ⟨w1, w2⟩ := walk_rel hf ht N (k := k) (met := met) (way := []) hk hm
    have w3 := walk_kept ht N (k := k) (met := met) (way := []) hk
    rw [List.map_nil] at w1
    rw [List.map_cons]
    unfold ringF
    rw [w1]
    have hb : ringB (f k) (f (walkZ t N k met []).1, (walkZ t N k met []).2.1.map f, (walkZ t N k met []).2.2.map f) = ringB k (walkZ t N k met []) := by
      unfold ringB
      simp only [List.length_map]
      by_cases h : (walkZ t N k met []).1 = k
      · rw [h]; simp
      · have h2 : f (walkZ t N k met []).1 ≠ f k := fun e => h (hf _ _ w3 hk e)
        simp [h, h2]
    rw [hb]
    exact ring_rel hf ht N ks _ _ (fun x hx => hks x (List.mem_cons_of_mem _ hx)) w2
theorem moved_rel (hf : InjU U f) : ∀ {t : List (Int × Int)}, InT U t → movedZ (mapT f t) = movedZ t
  | [], _ => rfl
  | p :: t, ht => by
    have hp := ht p List.mem_cons_self
    have ih := moved_rel hf (t := t) fun q hq => ht q (List.mem_cons_of_mem _ hq)
    unfold movedZ mapT at ih ⊢
    rw [List.map_cons, List.filter_cons, List.filter_cons]
    have : decide (f p.1 = f p.2) = decide (p.1 = p.2) := decide_eq_decide.mpr ⟨fun e => hf _ _ hp.1 hp.2 e, fun e => by rw [e]⟩
    simp only [this]
    split
    · rw [List.length_cons, List.length_cons, ih]
    · exact ih
theorem zip_in {r s : List Int} (hr : ∀ x ∈ r, U x) (hs : ∀ x ∈ s, U x) : InT U (r.zip s) := fun p hp => ⟨hr _ (List.of_mem_zip (a := p.1) (b := p.2) hp).1, hs _ (List.of_mem_zip (a := p.1) (b := p.2) hp).2⟩
theorem phi_rel (hf : InjU U f) {r s : List Int} (hr : ∀ x ∈ r, U x) (hs : ∀ x ∈ s, U x) : phi (r.map f) (s.map f) = phi r s := by
  have hz := zip_in hr hs
  have e : (r.map f).zip (s.map f) = mapT f (r.zip s) := by
    unfold mapT
    rw [List.zip_map]
    rfl
  unfold phi ringsZ
  rw [e, moved_rel hf hz]
  have e2 : (mapT f (r.zip s)).map (·.1) = ((r.zip s).map (·.1)).map f := by
    unfold mapT
    rw [List.map_map, List.map_map]; rfl
  rw [e2]
  have := ring_rel hf hz 6 ((r.zip s).map (·.1)) 0 [] (fun x hx => by
    obtain ⟨p, hp, rfl⟩ := List.mem_map.mp hx
    exact (hz p hp).1) (by simp)
  rw [List.map_nil] at this
  rw [this]
theorem step_rel (hf : InjU U f) {r : List Int} {p : Int × Int} (hr : ∀ x ∈ r, U x) (h1 : U p.1) (h2 : U p.2) : stepZ (r.map f) (f p.1, f p.2) = (stepZ r p).map (List.map f) := by
  unfold stepZ
  have m1 := mem_rel hf hr h1
  have m2 := mem_rel hf hr h2
  by_cases h : p.1 ∉ r ∨ p.2 ∈ r
  · rw [if_pos h, if_pos (by rwa [m1, m2])]; rfl
  · rw [if_neg h, if_neg (by rwa [m1, m2])]
    rw [Option.map_some, List.map_map, List.map_map]
    congr 1
    refine List.map_congr_left fun x hx => ?_
    show (if f x = f p.1 then f p.2 else f x) = f (if x = p.1 then p.2 else x)
    by_cases q : x = p.1
    · rw [if_pos q, if_pos (by rw [q])]
    · rw [if_neg q, if_neg fun e => q (hf _ _ (hr x hx) h1 e)]
end
/-! ### the names 0, 1, 2 .. -/
def ixZ (L : List Int) (x : Int) : Int := (L.idxOf x : Int)
theorem ix_inj {L : List Int} : InjU (· ∈ L) (ixZ L) := fun x y hx hy e => by
  unfold ixZ at e
  have e : L.idxOf x = L.idxOf y := by omega
  have h1 := List.idxOf_lt_length_of_mem hx
  have h2 := List.idxOf_lt_length_of_mem hy
  have g1 : L[L.idxOf x] = x := List.getElem_idxOf h1
  have g2 : L[L.idxOf y] = y := List.getElem_idxOf h2
  rw [← g1, ← g2]
  congr 1
theorem ix_at {L : List Int} (h : L.Nodup) {j : Nat} (hj : j < L.length) : ixZ L L[j] = (j : Int) := by
  unfold ixZ
  have : L.idxOf L[j] = j := h.idxOf_getElem j hj
  rw [this]
theorem ix_pre {r s : List Int} (h : (r ++ s).Nodup) : r.map (ixZ (r ++ s)) = (List.range r.length).map fun k : Nat => (k : Int) := by
  apply List.ext_getElem
  · simp
  · intro j h1 h2
    rw [List.length_map] at h1
    rw [List.getElem_map, List.getElem_map, List.getElem_range]
    have hj : j < (r ++ s).length := by rw [List.length_append]; omega
    have : (r ++ s)[j] = r[j] := List.getElem_append_left h1
    rw [← this]
    exact ix_at h hj
theorem rg_cast (m : Nat) : (List.range m).map (fun k : Nat => (k : Int)) = rgZ (m : Int) := by
  unfold rgZ
  simp
/-! ### the look at all -/
def lookP (b : Int) (m : Nat) (last : List Int) : Bool :=
  (actS b (rgZ m)).all (fun p => match stepZ (rgZ m) p with | none => true | some r => decide (phi (rgZ m) last ≤ phi r last + 1)) &&
  (decide (rgZ m = last) || decide (b ≤ m) || (actS b (rgZ m)).any fun p => match stepZ (rgZ m) p with | none => false | some r => decide (phi r last + 1 = phi (rgZ m) last)) &&
  (decide (phi (rgZ m) last = 0) == decide (rgZ m = last)) && (!decide (b ≤ m) || !decide (ringsZ ((rgZ m).zip last) = 0) || decide (rgZ m = last))
def lookA (b : Nat) : Bool := (List.range (b + 1)).all fun m => (arr b m).all fun last => lookP b m last
theorem look2 : lookA 2 = true := by decide +kernel
theorem look3 : lookA 3 = true := by decide +kernel
theorem look4 : lookA 4 = true := by decide +kernel
theorem look5 : lookA 5 = true := by decide +kernel
end DL

/-! Steps, 4: what the search finds has as many steps as the moves that move, and the rings. -/
namespace DL

theorem look_all {b : Nat} (h1 : 2 ≤ b) (h2 : b ≤ 5) {m : Nat} (hm : m ≤ b) {last : List Int} (hl : goodR b m last) : lookP b m last = true := by
  have : lookA b = true := by
    rcases (show b = 2 ∨ b = 3 ∨ b = 4 ∨ b = 5 by omega) with rfl | rfl | rfl | rfl
    · exact look2
    · exact look3
    · exact look4
    · exact look5
  unfold lookA at this
  rw [List.all_eq_true] at this
  have := this m (List.mem_range.mpr (by omega))
  rw [List.all_eq_true] at this
  have ha := mem_arr hl.1 hl.2.2
  rw [hl.2.1] at ha
  exact this last ha
section
variable {b : Nat} {m : Nat} {rows last : List Int}
/-- new names -/
theorem names (hr : goodR b m rows) : ∃ f : Int → Int, InjU (okI b) f ∧ (∀ x, okI b x → okI b (f x)) ∧ rows.map f = rgZ m ∧ ∀ y, okI b y → ∃ x, okI b x ∧ f x = y := by
  have hs : ∀ i ∈ rows, i ∈ rgZ b := fun i hi => rg_mem.mpr (hr.2.2 i hi)
  have hp := rest_perm hr.1 hs
  have hnd : (rows ++ restZ b rows).Nodup := hp.nodup_iff.mpr (rg_nodup b)
  have hmem : ∀ x, x ∈ rows ++ restZ b rows ↔ okI b x := fun x => (hp.mem_iff).trans rg_mem
  have hlen : (rows ++ restZ b rows).length = b := by rw [hp.length_eq, rg_length]; simp
  refine ⟨ixZ (rows ++ restZ b rows), fun x y hx hy e => ix_inj x y ((hmem x).mpr hx) ((hmem y).mpr hy) e, fun x hx => ?_, ?_, fun y hy => ?_⟩
  · have := List.idxOf_lt_length_of_mem ((hmem x).mpr hx)
    rw [hlen] at this
    unfold ixZ
    exact ⟨by omega, by omega⟩
  · rw [ix_pre hnd, rg_cast, hr.2.1]
  · obtain ⟨y1, y2⟩ := hy
    obtain ⟨n, rfl⟩ := Int.eq_ofNat_of_zero_le y1
    have hn : n < (rows ++ restZ b rows).length := by rw [hlen]; omega
    exact ⟨(rows ++ restZ b rows)[n], (hmem _).mp (List.getElem_mem hn), ix_at hnd hn⟩
theorem map_good {f : Int → Int} (hf : InjU (okI b) f) (hk : ∀ x, okI b x → okI b (f x)) (h : goodR b m last) : goodR b m (last.map f) :=
  ⟨nodup_on h.1 fun x hx y hy e => hf x y (h.2.2 x hx) (h.2.2 y hy) e, by rw [List.length_map]; exact h.2.1, fun i hi => by
    obtain ⟨x, hx, rfl⟩ := List.mem_map.mp hi
    exact hk x (h.2.2 x hx)⟩
theorem good_le (h : goodR b m rows) : m ≤ b := by
  have := sub_len (l := rgZ b) h.1 fun i hi => rg_mem.mpr (h.2.2 i hi)
  rw [h.2.1, rg_length] at this
  simpa using this
theorem map_inj {f : Int → Int} (hf : InjU (okI b) f) : ∀ {r s : List Int}, inR b r → inR b s → r.map f = s.map f → r = s
  | [], [], _, _, _ => rfl
  | [], _ :: _, _, _, e => by simp at e
  | _ :: _, [], _, _, e => by simp at e
  | x :: r, y :: s, hr, hs, e => by
    rw [List.map_cons, List.map_cons] at e
    injection e with e1 e2
    rw [hf x y (hr x List.mem_cons_self) (hs y List.mem_cons_self) e1, map_inj hf (fun i hi => hr i (List.mem_cons_of_mem _ hi)) (fun i hi => hs i (List.mem_cons_of_mem _ hi)) e2]
/-- what the look says, under any names -/
theorem facts (h1 : 2 ≤ b) (h2 : b ≤ 5) (hr : goodR b m rows) (hl : goodR b m last) :
    (∀ p ∈ actS b rows, ∀ r, stepZ rows p = some r → phi rows last ≤ phi r last + 1) ∧
    (rows ≠ last → m < b → ∃ p ∈ actS b rows, ∃ r, stepZ rows p = some r ∧ phi r last + 1 = phi rows last) ∧
    (phi rows last = 0 ↔ rows = last) ∧ (m = b → ringsZ (rows.zip last) = 0 → rows = last) := by
  obtain ⟨f, hf, hk, hn, hs⟩ := names hr
  have hl' := map_good hf hk hl
  have L := look_all h1 h2 (good_le hr) hl'
  unfold lookP at L
  simp only [Bool.and_eq_true] at L
  obtain ⟨⟨⟨L1, L2⟩, L3⟩, L4⟩ := L
  rw [← hn] at L1 L2 L3 L4
  have p0 := phi_rel hf (fun x hx => hr.2.2 x hx) (fun x hx => hl.2.2 x hx) (r := rows) (s := last)
  have eqv : rows.map f = last.map f ↔ rows = last := ⟨map_inj hf hr.2.2 hl.2.2, fun e => by rw [e]⟩
  refine ⟨fun p hp r e => ?_, fun hne hmb => ?_, ?_, fun hmb hz => ?_⟩
  · obtain ⟨a1, a2⟩ := act_ok hp
    rw [List.all_eq_true] at L1
    have hp' : (f p.1, f p.2) ∈ actS b (rows.map f) := List.mem_flatMap.mpr ⟨f p.1, List.mem_map_of_mem a1, List.mem_map.mpr ⟨f p.2, rg_mem.mpr (hk _ a2), rfl⟩⟩
    have q := L1 _ hp'
    rw [step_rel hf (fun x hx => hr.2.2 x hx) (hr.2.2 _ a1) a2, e, Option.map_some] at q
    simp only at q
    have q := of_decide_eq_true q
    have hg := step_good hr a2 e
    rw [p0, phi_rel hf (fun x hx => hg.2.2 x hx) (fun x hx => hl.2.2 x hx)] at q
    exact q
  · simp only [Bool.or_eq_true, decide_eq_true_eq] at L2
    rcases L2 with (L2 | L2) | L2
    · exact absurd (eqv.mp L2) hne
    · omega
    · rw [List.any_eq_true] at L2
      obtain ⟨p', hp', q⟩ := L2
      obtain ⟨a1, a2⟩ := act_ok hp'
      obtain ⟨a, ha, ea⟩ := List.mem_map.mp a1
      obtain ⟨n, hn', en⟩ := hs _ a2
      have ep : p' = (f a, f n) := Prod.ext ea.symm en.symm
      rw [ep, step_rel hf (p := (a, n)) (fun x hx => hr.2.2 x hx) (hr.2.2 _ ha) hn'] at q
      cases e : stepZ rows (a, n) with
      | none => rw [e] at q; simp at q
      | some r =>
        rw [e] at q
        simp only [Option.map_some, decide_eq_true_eq] at q
        have hg := step_good hr (p := (a, n)) hn' e
        rw [p0, phi_rel hf (fun x hx => hg.2.2 x hx) (fun x hx => hl.2.2 x hx)] at q
        exact ⟨(a, n), List.mem_flatMap.mpr ⟨a, ha, List.mem_map.mpr ⟨n, rg_mem.mpr hn', rfl⟩⟩, r, e, q⟩
  · rw [p0] at L3
    have q : decide (phi rows last = 0) = decide (rows.map f = last.map f) := by simpa using L3
    exact (decide_eq_decide.mp q).trans eqv
  · have e : (rows.map f).zip (last.map f) = mapT f (rows.zip last) := by
      unfold mapT
      rw [List.zip_map]
      rfl
    have hzin := zip_in (fun x hx => hr.2.2 x hx) (fun x hx => hl.2.2 x hx) (r := rows) (s := last) (U := okI b)
    have er : ringsZ ((rows.map f).zip (last.map f)) = ringsZ (rows.zip last) := by
      unfold ringsZ
      rw [e]
      have e2 : (mapT f (rows.zip last)).map (·.1) = ((rows.zip last).map (·.1)).map f := by
        unfold mapT
        rw [List.map_map, List.map_map]; rfl
      rw [e2]
      have := ring_rel hf hzin 6 ((rows.zip last).map (·.1)) 0 [] (fun x hx => by
        obtain ⟨p, hp, rfl⟩ := List.mem_map.mp hx
        exact (hzin p hp).1) (by simp)
      rw [List.map_nil] at this
      exact this
    rw [er, hz] at L4
    simp only [Bool.or_eq_true, Bool.not_eq_true', decide_eq_false_iff_not, decide_eq_true_eq] at L4
    rcases L4 with (L4 | L4) | L4
    · omega
    · exact absurd trivial L4
    · exact eqv.mp L4
theorem pth_cons {S A : Type} {nx : S → A → Option S} {acts : S → List A} {s r : S} {a : A} (ha : a ∈ acts s) (hn : nx s a = some r) : ∀ {w : List A} {t : S}, Pth nx acts r w t → Pth nx acts s (a :: w) t := by
  intro w t h
  induction h with
  | nil => exact Pth.snoc (w := []) .nil ha hn
  | snoc hp h1 h2 ih => exact Pth.snoc (w := a :: _) ih h1 h2
theorem pth_good {s : List Int} (hs : goodR b m s) : ∀ {w : List (Int × Int)} {t : List Int}, Pth stepZ (actS b) s w t → goodR b m t := by
  intro w t h
  induction h with
  | nil => exact hs
  | snoc hp h1 h2 ih => exact step_good ih (act_ok h1).2 h2
theorem pth_least (h1 : 2 ≤ b) (h2 : b ≤ 5) {s : List Int} (hs : goodR b m s) (hl : goodR b m last) : ∀ {w : List (Int × Int)} {t : List Int}, Pth stepZ (actS b) s w t → phi s last ≤ w.length + phi t last := by
  intro w t h
  induction h with
  | nil => simp
  | snoc hp ha hn ih =>
    have := (facts h1 h2 (pth_good hs hp) hl).1 _ ha _ hn
    rw [List.length_append, List.length_singleton]
    omega
theorem pth_most (h1 : 2 ≤ b) (h2 : b ≤ 5) (hmb : m < b) (hl : goodR b m last) : ∀ (k : Nat) {s : List Int}, goodR b m s → phi s last = k → ∃ w, Pth stepZ (actS b) s w last ∧ w.length = k
  | 0, s, hs, e => by
    have := (facts h1 h2 hs hl).2.2.1.mp e
    subst this
    exact ⟨[], .nil, rfl⟩
  | k + 1, s, hs, e => by
    have hne : s ≠ last := fun z => by
      have := (facts h1 h2 hs hl).2.2.1.mpr z
      omega
    obtain ⟨p, hp, r, hr, er⟩ := (facts h1 h2 hs hl).2.1 hne hmb
    obtain ⟨w, hw, hwl⟩ := pth_most h1 h2 hmb hl k (step_good hs (act_ok hp).2 hr) (by omega)
    exact ⟨p :: w, pth_cons hp hr hw, by rw [List.length_cons, hwl]⟩
theorem full_none (hr : goodR b b rows) (p : Int × Int) (hp : okI b p.2) : stepZ rows p = none := by
  have : p.2 ∈ rows := by
    refine Classical.byContradiction fun h => ?_
    have := sub_len (l := rgZ b) (m := p.2 :: rows) (List.nodup_cons.mpr ⟨h, hr.1⟩) fun i hi => by
      rcases List.mem_cons.mp hi with rfl | hi
      · exact rg_mem.mpr hp
      · exact rg_mem.mpr (hr.2.2 i hi)
    rw [List.length_cons, hr.2.1, rg_length] at this
    simp at this
    omega
  unfold stepZ
  rw [if_pos (.inr this)]
theorem full_stays {s : List Int} (hs : goodR b b s) : ∀ {w : List (Int × Int)} {t : List Int}, Pth stepZ (actS b) s w t → t = s ∧ w = [] := by
  intro w t h
  induction h with
  | nil => exact ⟨rfl, rfl⟩
  | snoc hp ha hn ih =>
    obtain ⟨rfl, rfl⟩ := ih
    rw [full_none hs _ (act_ok ha).2] at hn
    cases hn
end
/-- what is due -/
def dueZ (b : Int) (t : List (Int × Int)) : Option Nat := if 0 < ringsZ t ∧ (t.length : Int) = b then none else some (movedZ t + ringsZ t)
theorem zip_parts : ∀ t : List (Int × Int), (t.map (·.1)).zip (t.map (·.2)) = t
  | [] => rfl
  | p :: t => by rw [List.map_cons, List.map_cons, List.zip_cons_cons, zip_parts t]
theorem steps_due {b : Int} (hb : 2 ≤ b) (hb2 : b ≤ 5) {t : List (Int × Int)} (h : okMv b t) : match stepsO b t with
    | some nd => dueZ b t = some nd.2.length ∧ Pth stepZ (actS b) (t.map (·.1)) nd.2 (t.map (·.2))
    | none => dueZ b t = none := by
  obtain ⟨n, rfl⟩ := Int.eq_ofNat_of_zero_le (show 0 ≤ b by omega)
  obtain ⟨g1, g2⟩ := mv_good h
  have hn1 : 2 ≤ n := by omega
  have hn2 : n ≤ 5 := by omega
  have hzp := zip_parts t
  have hle := good_le g1
  have hphi : phi (t.map (·.1)) (t.map (·.2)) = movedZ t + ringsZ t := by unfold phi; rw [hzp]
  have F := facts hn1 hn2 g1 g2
  have B := bfs_is (nx := stepZ) (acts := actS (n : Int)) (s0 := t.map (·.1)) (stop := fun r => decide (r = t.map (·.2))) (M := 121) (fun i q iv => by
    have := sub_len (l := arr n t.length) iv.nd fun r hr => by
      obtain ⟨x, hx, rfl⟩ := List.mem_map.mp hr
      obtain ⟨q1, q2, q3⟩ := pth_good g1 (iv.pth x hx)
      rw [← q2]
      exact mem_arr q1 q3
    have h2 := arr_len (b := n) (m := t.length) (by omega) (by omega)
    rw [List.length_map] at this
    omega) nW 0 [(t.map (·.1), [])] inv_start (Nat.zero_le _) (by unfold nW; decide) (fun j hj => absurd hj (Nat.not_lt_zero _))
  have e : stepsO (n : Int) t = (bfsG stepZ (actS (n : Int)) (fun r => decide (r = t.map (·.2))) nW 0 [(t.map (·.1), [])]).2 := rfl
  rw [e]
  generalize (bfsG stepZ (actS (n : Int)) (fun r => decide (r = t.map (·.2))) nW 0 [(t.map (·.1), [])]).2 = o at B ⊢
  have hcast : (t.length : Int) = (n : Int) ↔ t.length = n := by omega
  unfold dueZ
  cases o with
  | some nd =>
    obtain ⟨B1, B2, B3⟩ := B
    have B1 := of_decide_eq_true B1
    rw [B1] at B2
    refine ⟨?_, B2⟩
    by_cases hm : t.length = n
    · have g1' : goodR (n : Int) n (t.map (·.1)) := hm ▸ g1
      obtain ⟨e1, e2⟩ := full_stays g1' B2
      have := F.2.2.1.mpr e1.symm
      rw [hphi] at this
      rw [if_neg (by omega), e2]
      congr 1
    · rw [if_neg (by omega)]
      have l1 := pth_least hn1 hn2 g1 g2 B2
      have l2 : phi (t.map (·.2)) (t.map (·.2)) = 0 := (facts hn1 hn2 g2 g2).2.2.1.mpr rfl
      obtain ⟨w, w1, w2⟩ := pth_most hn1 hn2 (by omega) g2 _ g1 rfl
      have l3 := B3 w _ w1 (decide_eq_true rfl)
      congr 1
      omega
  | none =>
    simp only
    by_cases hm : t.length = n
    · by_cases hz : ringsZ t = 0
      · have := F.2.2.2 hm (by rw [hzp]; exact hz)
        have q := (B [] _ .nil).1
        simp [this] at q
      · rw [if_pos ⟨by omega, by omega⟩]
    · obtain ⟨w, w1, w2⟩ := pth_most hn1 hn2 (by omega) g2 _ g1 rfl
      have q := (B w _ w1).1
      simp at q
end DL

/-! Steps, 5: the law's rings; steps done. -/
namespace DL
open PySem L2

def tbD (t : List (Int × Int)) : D := .dct (t.map kvD)
theorem tb_in (t : List (Int × Int)) (k : Int) : inK (.int k) (tbD t) = some (.bl (t.lookup k).isSome) := by
  show (keyD (.int k)).map (fun z => D.bl (valD (t.map kvD) z).isSome) = _
  rw [key_int, Option.map_some, tab_val, Option.isSome_map]
theorem tb_at (t : List (Int × Int)) (k : Int) : ixD (tbD t) (.int k) = (t.lookup k).map .int := by
  show (keyD (.int k)).bind (valD (t.map kvD)) = _
  rw [key_int, Option.bind_some, tab_val]
theorem mem_ints (k : Int) (l : List Int) : memF (.int k) (l.map .int) = decide (k ∈ l) := by
  unfold memF
  rw [List.any_map, Bool.eq_iff_iff, List.any_eq_true, decide_eq_true_eq]
  constructor
  · rintro ⟨y, hy, e⟩
    have : y = k := by
      have : (y == k) = true := e
      simpa using this
    exact this ▸ hy
  · intro h
    refine ⟨k, h, ?_⟩
    show (k == k) = true
    simp
theorem flat_ints (l : List Int) : (l.map D.int).all flatD = true := by rw [List.all_map]; exact List.all_eq_true.mpr fun _ _ => rfl
@[simp] theorem ev_inO {neg : Bool} {fe : EM D} {i : Nat} {ρ : Ro} : inO neg fe i ρ = (fe ρ).bind fun x ρ1 => (ownL i ρ1).bind fun ds ρ2 => liftO (if (flatD x && ds.all flatD) = true then some (.bl (if neg then !memF x ds else memF x ds)) else none) ρ2 := rfl
theorem walk_met {t : List (Int × Int)} : ∀ (n : Nat) {k : Int} {met way : List Int}, met.Nodup → (∀ x ∈ met, x ∈ t.map (·.1)) → way.length ≤ met.length →
    (walkZ t n k met way).2.1.Nodup ∧ (∀ x ∈ (walkZ t n k met way).2.1, x ∈ t.map (·.1)) ∧ (walkZ t n k met way).2.2.length ≤ (walkZ t n k met way).2.1.length ∧ met.length ≤ (walkZ t n k met way).2.1.length
  | 0, k, met, way, h1, h2, h3 => ⟨h1, h2, h3, Nat.le_refl _⟩
  | n + 1, k, met, way, h1, h2, h3 => by
    unfold walkZ
    cases e : t.lookup k with
    | none => exact ⟨h1, h2, h3, Nat.le_refl _⟩
    | some to =>
      simp only
      split
      · exact ⟨h1, h2, h3, Nat.le_refl _⟩
      · rename_i hk
        have q := walk_met n (t := t) (k := to) (met := met ++ [k]) (way := way ++ [k]) (by
          rw [List.nodup_append]
          refine ⟨h1, by simp, fun a ha c hc => ?_⟩
          rw [List.mem_singleton.mp hc]
          intro z
          rw [z] at ha
          exact hk ha) (fun x hx => by
          rcases List.mem_append.mp hx with hx | hx
          · exact h2 x hx
          · rw [List.mem_singleton.mp hx]
            exact List.mem_map.mpr ⟨_, lookup_pair e, rfl⟩) (by rw [List.length_append, List.length_append]; simp; exact h3)
        obtain ⟨q1, q2, q3, q4⟩ := q
        rw [List.length_append, List.length_singleton] at q4
        exact ⟨q1, q2, q3, by omega⟩
theorem met_len {t : List (Int × Int)} {met : List Int} (h1 : met.Nodup) (h2 : ∀ x ∈ met, x ∈ t.map (·.1)) : met.length ≤ t.length := by
  have := sub_len h1 h2
  rwa [List.length_map] at this
/-- how long it may go does not matter -/
theorem walk_fuel {t : List (Int × Int)} : ∀ (n n' : Nat) {k : Int} {met way : List Int}, met.Nodup → (∀ x ∈ met, x ∈ t.map (·.1)) → t.length < n + met.length → t.length < n' + met.length → walkZ t n k met way = walkZ t n' k met way
  | 0, _, k, met, way, h1, h2, h3, _ => by have := met_len h1 h2; omega
  | _, 0, k, met, way, h1, h2, _, h3 => by have := met_len h1 h2; omega
  | n + 1, n' + 1, k, met, way, h1, h2, h3, h4 => by
    unfold walkZ
    cases e : t.lookup k with
    | none => rfl
    | some to =>
      simp only
      split
      · rfl
      · rename_i hk
        refine walk_fuel n n' ?_ ?_ (by rw [List.length_append, List.length_singleton]; omega) (by rw [List.length_append, List.length_singleton]; omega)
        · rw [List.nodup_append]
          refine ⟨h1, by simp, fun a ha c hc => ?_⟩
          rw [List.mem_singleton.mp hc]
          intro z
          rw [z] at ha
          exact hk ha
        · intro x hx
          rcases List.mem_append.mp hx with hx | hx
          · exact h2 x hx
          · rw [List.mem_singleton.mp hx]
            exact List.mem_map.mpr ⟨_, lookup_pair e, rfl⟩
abbrev WCond : EM Bool := andT (testE (bin2 inK (varE 4) (varE 0))) (testE (inO true (varE 4) 2))
abbrev WBody : SM := seqS (appS 2 (varE 4)) (seqS (appS 5 (varE 4)) (asgS (bin2 ixD (varE 0) (varE 4)) (setT 4)))
theorem walk_loop (t : List (Int × Int)) (ht : t.length ≤ 1000) (x1 x3 : Sl) : ∀ (n : Nat) (k : Int) (met way : List Int), met.Nodup → (∀ x ∈ met, x ∈ t.map (·.1)) → way.length ≤ met.length → t.length < n + met.length →
    iterS WCond WBody n [.v (tbD t), x1, .o (.lst (met.map .int)), x3, .v (.int k), .o (.lst (way.map .int))] = .ok .nx [.v (tbD t), x1, .o (.lst ((walkZ t n k met way).2.1.map .int)), x3, .v (.int (walkZ t n k met way).1), .o (.lst ((walkZ t n k met way).2.2.map .int))]
  | 0, k, met, way, h1, h2, _, h3 => by have := met_len h1 h2; omega
  | n + 1, k, met, way, h1, h2, h4, h3 => by
    have hm := met_len h1 h2
    have e1 := tb_in t k
    have e2 := tb_at t k
    have e3 := mem_ints k met
    have e4 := flat_ints met
    have fk : flatD (.int k) = true := rfl
    have l1 : (met.map D.int).length ≤ 1000000 := by rw [List.length_map]; omega
    have l2 : (way.map D.int).length ≤ 1000000 := by rw [List.length_map]; omega
    unfold walkZ
    cases e : t.lookup k with
    | none =>
      rw [e] at e1
      have c1 : WCond [.v (tbD t), x1, .o (.lst (met.map .int)), x3, .v (.int k), .o (.lst (way.map .int))] = .ok false [.v (tbD t), x1, .o (.lst (met.map .int)), x3, .v (.int k), .o (.lst (way.map .int))] := by
        generalize tbD t = T at *
        simp [e1]
      exact iter_end c1
    | some to =>
      rw [e] at e1 e2
      have e2 : ixD (tbD t) (.int k) = some (.int to) := e2
      simp only
      by_cases hk : k ∈ met
      · rw [if_pos hk]
        rw [decide_eq_true hk] at e3
        have c1 : WCond [.v (tbD t), x1, .o (.lst (met.map .int)), x3, .v (.int k), .o (.lst (way.map .int))] = .ok false [.v (tbD t), x1, .o (.lst (met.map .int)), x3, .v (.int k), .o (.lst (way.map .int))] := by
          generalize tbD t = T at *
          generalize met.map D.int = Me at *
          simp only [ev_andT, ev_testE, ev_bin2, ev_varE, ev_okb, List.getElem?_cons_succ, List.getElem?_cons_zero, e1, ev_lift1, Option.isSome_some, ev_toB, if_true, ev_inO, ev_ownL, fk, e4, Bool.and_self, e3, Bool.not_true]
        exact iter_end c1
      · rw [if_neg hk]
        rw [decide_eq_false hk] at e3
        have c1 : WCond [.v (tbD t), x1, .o (.lst (met.map .int)), x3, .v (.int k), .o (.lst (way.map .int))] = .ok true [.v (tbD t), x1, .o (.lst (met.map .int)), x3, .v (.int k), .o (.lst (way.map .int))] := by
          generalize tbD t = T at *
          generalize met.map D.int = Me at *
          simp only [ev_andT, ev_testE, ev_bin2, ev_varE, ev_okb, List.getElem?_cons_succ, List.getElem?_cons_zero, e1, ev_lift1, Option.isSome_some, ev_toB, if_true, ev_inO, ev_ownL, fk, e4, Bool.and_self, e3, Bool.not_false]
        have m1 : (met ++ [k]).map D.int = met.map .int ++ [.int k] := by simp
        have m2 : (way ++ [k]).map D.int = way.map .int ++ [.int k] := by simp
        have b1 : WBody [.v (tbD t), x1, .o (.lst (met.map .int)), x3, .v (.int k), .o (.lst (way.map .int))] = .ok .nx [.v (tbD t), x1, .o (.lst ((met ++ [k]).map .int)), x3, .v (.int to), .o (.lst ((way ++ [k]).map .int))] := by
          rw [m1, m2]
          generalize tbD t = T at *
          generalize met.map D.int = Me at *
          generalize way.map D.int = Wa at *
          simp [l1, l2, e2]
        rw [iter_go c1 b1]
        refine walk_loop t ht x1 x3 n to (met ++ [k]) (way ++ [k]) ?_ ?_ (by rw [List.length_append, List.length_append]; simp; exact h4) (by rw [List.length_append, List.length_singleton]; omega)
        · rw [List.nodup_append]
          refine ⟨h1, by simp, fun a ha c hc => ?_⟩
          rw [List.mem_singleton.mp hc]
          intro z
          rw [z] at ha
          exact hk ha
        · intro x hx
          rcases List.mem_append.mp hx with hx | hx
          · exact h2 x hx
          · rw [List.mem_singleton.mp hx]
            exact List.mem_map.mpr ⟨_, lookup_pair e, rfl⟩
@[simp] theorem ev_parNew2 {i j : Nat} {fa fb : EM D} {ρ : Ro} : parNew2S i j fa fb ρ = (fa ρ).bind fun d ρ1 => (fb ρ1).bind fun e ρ2 => match ρ2[j]? with
  | none => .bad
  | some (.p _) => .bad
  | some _ => match setT i d (ρ2.set j (.o e)) with
    | some ρ3 => .ok .nx ρ3
    | none => .bad := rfl
abbrev RBody (N : Nat) : SM := seqS (parNew2S 4 5 (varE 3) (lstE (retE []))) (seqS (iterS WCond WBody N) (seqS (thawS 5) (asgS (bin2 addD (varE 1) (callB intF (consE (andE (bin2 gtD (callB lenF (consE (varE 5) (retE []))) (retE (.int 1))) (bin2 eqD (varE 4) (varE 3))) (retE [])))) (setT 1))))
theorem ring_step (T : D) (N : Nat) (f : Int) (Me Me2 Wa : List D) (k k2 : Int) (x4 x5 : Sl) (h4 : notP x4 = true) (h5 : free x5) (r : Int) (hr : r = if 1 < (Wa.length : Int) ∧ k2 = k then 1 else 0)
    (e : iterS WCond WBody N [.v T, .v (.int f), .o (.lst Me), .v (.int k), .v (.int k), .o (.lst [])] = .ok .nx [.v T, .v (.int f), .o (.lst Me2), .v (.int k), .v (.int k2), .o (.lst Wa)]) :
    RBody N [.v T, .v (.int f), .o (.lst Me), .v (.int k), x4, x5] = .ok .nx [.v T, .v (.int (f + r)), .o (.lst Me2), .v (.int k), .v (.int k2), .v (.lst Wa)] := by
  have st : parNew2S 4 5 (varE 3) (lstE (retE [])) [.v T, .v (.int f), .o (.lst Me), .v (.int k), x4, x5] = .ok .nx [.v T, .v (.int f), .o (.lst Me), .v (.int k), .v (.int k), .o (.lst [])] := by
    rcases h5 with rfl | ⟨_, rfl⟩ <;> simp [-ev_setT, ev_setTn, h4]
  have i1 : ∀ b : Bool, intF [.bl b] = some (.int (if b then 1 else 0)) := fun b => by cases b <;> rfl
  simp only [RBody, ev_seqS, st, e]
  subst hr
  by_cases h1 : 1 < (Wa.length : Int)
  · by_cases h2 : k2 = k
    · subst h2; simp [h1, i1]
    · simp [h1, h2, i1]
  · simp [h1, i1]
theorem ring_loop (t : List (Int × Int)) (ht : t.length ≤ 1000) (N : Nat) (hN : t.length < N) : ∀ (ks : List Int) (f : Nat) (met : List Int) (x3 x4 x5 : Sl), notP x3 = true → notP x4 = true → free x5 → met.Nodup → (∀ x ∈ met, x ∈ t.map (·.1)) →
    ∃ y3 y4 y5 Me, loopS (setT 3) (RBody N) (ks.map .int) [.v (tbD t), .v (.int (f : Int)), .o (.lst (met.map .int)), x3, x4, x5] = .ok .nx [.v (tbD t), .v (.int ((ringF t N ks f met : Nat) : Int)), .o (.lst Me), y3, y4, y5]
  | [], f, met, x3, x4, x5, _, _, _, _, _ => ⟨x3, x4, x5, _, rfl⟩
  | k :: ks, f, met, x3, x4, x5, h3, h4, h5, h1, h2 => by
    have w := walk_loop t ht (.v (.int (f : Int))) (.v (.int k)) N k met [] h1 h2 (Nat.zero_le _) (by omega)
    obtain ⟨w1, w2, w3, w4⟩ := walk_met (t := t) N (k := k) (met := met) (way := []) h1 h2 (Nat.zero_le _)
    unfold ringF
    have hb : (ringB k (walkZ t N k met []) : Int) = if 1 < (((walkZ t N k met []).2.2.map D.int).length : Int) ∧ (walkZ t N k met []).1 = k then 1 else 0 := by
      unfold ringB
      rw [List.length_map]
      by_cases z : 1 < (walkZ t N k met []).2.2.length ∧ (walkZ t N k met []).1 = k
      · rw [if_pos z, if_pos ⟨by omega, z.2⟩]; rfl
      · rw [if_neg z, if_neg fun q => z ⟨by omega, q.2⟩]; rfl
    obtain ⟨y3, y4, y5, Me, ih⟩ := ring_loop t ht N hN ks (f + ringB k (walkZ t N k met [])) (walkZ t N k met []).2.1 (.v (.int k)) (.v (.int (walkZ t N k met []).1)) (.v (.lst ((walkZ t N k met []).2.2.map .int))) rfl rfl (.inr ⟨_, rfl⟩) w1 w2
    refine ⟨y3, y4, y5, Me, ?_⟩
    have hs := ring_step (tbD t) N (f : Int) (met.map .int) ((walkZ t N k met []).2.1.map .int) ((walkZ t N k met []).2.2.map .int) k (walkZ t N k met []).1 x4 x5 h4 h5 _ hb w
    have hc : (((f + ringB k (walkZ t N k met []) : Nat)) : Int) = (f : Int) + (ringB k (walkZ t N k met []) : Int) := by omega
    rw [hc] at ih
    rw [List.map_cons, loop_cons (ρ1 := [.v (tbD t), .v (.int (f : Int)), .o (.lst (met.map .int)), .v (.int k), x4, x5]) (by simp [-ev_setT, ev_setTn, h3]), hs]
    exact ih
theorem ringF_fuel {t : List (Int × Int)} {N N' : Nat} (h : t.length < N) (h' : t.length < N') : ∀ (ks : List Int) (f : Nat) (met : List Int), met.Nodup → (∀ x ∈ met, x ∈ t.map (·.1)) → ringF t N ks f met = ringF t N' ks f met
  | [], _, _, _, _ => rfl
  | k :: ks, f, met, h1, h2 => by
    obtain ⟨w1, w2, w3, w4⟩ := walk_met (t := t) N' (k := k) (met := met) (way := []) h1 h2 (Nat.zero_le _)
    unfold ringF
    rw [walk_fuel N N' h1 h2 (by omega) (by omega)]
    exact ringF_fuel h h' ks _ _ w1 w2
theorem rings0 (T : D) (ks : List Int) (N : Nat) (r : Int) (Me : List D) (y3 y4 y5 : Sl) (sq : seqD T = some (ks.map .int)) (hN : nW = N)
    (e : loopS (setT 3) (RBody N) (ks.map .int) [.v T, .v (.int 0), .o (.lst []), .u, .u, .u] = .ok .nx [.v T, .v (.int r), .o (.lst Me), y3, y4, y5]) : m__law_rings [.v T] = .ok (.int r) [.v T] := by
  have sq' : seqI (varE 0) [.v T, .v (.int 0), .o (.lst []), .u, .u, .u] = .ok (ks.map .int) [.v T, .v (.int 0), .o (.lst []), .u, .u, .u] := by
    rw [ev_seqD]
    simp [sq]
  unfold m__law_rings b__law_rings
  rw [hN]
  simp [-ev_forS]
  rw [ev_forS, sq']
  simp only [ev_okb]
  rw [e]
  simp
theorem law_rings_is (t : List (Int × Int)) (ht : t.length ≤ 5) (hk : (t.map (·.1)).Nodup) : m__law_rings [.v (tbD t)] = .ok (.int ((ringsZ t : Nat) : Int)) [.v (tbD t)] := by
  obtain ⟨N, hN⟩ : ∃ N : Nat, nW = N := ⟨_, rfl⟩
  have hN2 : t.length < N := by
    have : 6 ≤ N := by rw [← hN]; decide
    omega
  obtain ⟨y3, y4, y5, Me, e⟩ := ring_loop t (by omega) N hN2 (t.map (·.1)) 0 [] .u .u .u rfl rfl (.inl rfl) (by simp) (by simp)
  have hf : ringF t N (t.map (·.1)) 0 [] = ringsZ t := ringF_fuel hN2 (by omega) _ _ _ (by simp) (by simp)
  rw [hf] at e
  have sq : seqD (tbD t) = some ((t.map (·.1)).map .int) := by
    show some ((t.map kvD).map (·.1)) = _
    rw [List.map_map, List.map_map]; rfl
  exact rings0 (tbD t) (t.map (·.1)) N _ Me y3 y4 y5 sq hN e
end DL

/-! Steps, 6: steps done, by the program and by the law. -/
namespace DL
open PySem L2

def runZ : List Int → List (Int × Int) → Option (List Int)
  | r, [] => some r
  | r, p :: ps => (stepZ r p).bind fun r' => runZ r' ps
/-- whether steps do moves -/
def doneS (t ps : List (Int × Int)) : Bool := decide (runZ (t.map (·.1)) ps = some (t.map (·.2)))
theorem run_snoc : ∀ {ps : List (Int × Int)} {r s u : List Int} {p : Int × Int}, runZ r ps = some s → stepZ s p = some u → runZ r (ps ++ [p]) = some u
  | [], r, s, u, p, h, e => by
    cases h
    show (stepZ r p).bind _ = _
    rw [e]; rfl
  | q :: ps, r, s, u, p, h, e => by
    unfold runZ at h
    cases e2 : stepZ r q with
    | none => rw [e2] at h; cases h
    | some r' =>
      rw [e2] at h
      show (stepZ r q).bind _ = _
      rw [e2]
      exact run_snoc h e
theorem pth_run {b : Int} {s : List Int} : ∀ {w : List (Int × Int)} {t : List Int}, Pth stepZ (actS b) s w t → runZ s w = some t := by
  intro w t h
  induction h with
  | nil => rfl
  | snoc hp ha hn ih => exact run_snoc ih hn
theorem pth_steps {b : Int} {m : Nat} {s : List Int} (hs : goodR b m s) : ∀ {w : List (Int × Int)} {t : List Int}, Pth stepZ (actS b) s w t → (∀ p ∈ w, inB b p) ∧ goodR b m t := by
  intro w t h
  induction h with
  | nil => exact ⟨by simp, hs⟩
  | snoc hp ha hn ih =>
    obtain ⟨a1, a2⟩ := act_ok ha
    refine ⟨fun p hp => ?_, step_good ih.2 a2 hn⟩
    rcases List.mem_append.mp hp with hp | hp
    · exact ih.1 p hp
    · rw [List.mem_singleton.mp hp]
      have := ih.2.2.2 _ a1
      exact ⟨this.1, this.2, a2.1, a2.2⟩
/-! ### the program -/
abbrev DBody : SM := seqS (asgS (callE m_stepped (argV (varE 4) (argV (varE 3) (retE [])))) (setT 4)) (ifS (testE (bin2 isD (varE 4) (retE .non))) (retS (retE (.bl false))) nextS)
theorem isNon_opt (o : Option (List Int)) : isD (optD o) .non = some (.bl o.isNone) := by cases o <;> rfl
theorem step_len {r u : List Int} {p : Int × Int} (e : stepZ r p = some u) : u.length = r.length := by
  unfold stepZ at e
  split at e
  · cases e
  · cases e; rw [List.length_map]
theorem do_loop (x0 x1 x2 x5 : Sl) : ∀ (ps : List (Int × Int)) (r : List Int) (x3 : Sl), notP x3 = true → r.length ≤ 1000 →
    ∃ y3 y4, loopS (setT 3) DBody (ps.map prD) [x0, x1, x2, x3, .v (tupI' r), x5] = .ok (match runZ r ps with | some _ => .nx | none => .ret (.bl false)) [x0, x1, x2, y3, y4, x5] ∧ (∀ u, runZ r ps = some u → y4 = .v (tupI' u))
  | [], r, x3, _, _ => ⟨x3, .v (tupI' r), rfl, fun u e => by cases e; rfl⟩
  | p :: ps, r, x3, h3, hl => by
    have e1 := stepped_is r p hl
    have e2 := isNon_opt (stepZ r p)
    unfold runZ
    rw [List.map_cons, loop_cons (ρ1 := [x0, x1, x2, .v (prD p), .v (tupI' r), x5]) (by simp [-ev_setT, ev_setTn, h3])]
    cases hs : stepZ r p with
    | none =>
      rw [hs] at e1 e2
      have e2 : isD (optD none) .non = some (.bl true) := e2
      refine ⟨.v (prD p), .v (optD none), ?_, fun u e => by cases e⟩
      generalize optD none = O at *
      generalize tupI' r = R at *
      generalize prD p = P at *
      simp [-ev_setT, ev_setTn, e1, e2]
    | some u =>
      rw [hs] at e1 e2
      have e2 : isD (tupI' u) .non = some (.bl false) := e2
      have e1 : m_stepped [.v (tupI' r), .v (prD p)] = .ok (tupI' u) [.v (tupI' r), .v (prD p)] := e1
      obtain ⟨y3, y4, ih, i2⟩ := do_loop x0 x1 x2 x5 ps u (.v (prD p)) rfl (by rw [step_len hs]; exact hl)
      refine ⟨y3, y4, ?_, fun v e => i2 v e⟩
      have b1 : DBody [x0, x1, x2, .v (prD p), .v (tupI' r), x5] = .ok .nx [x0, x1, x2, .v (prD p), .v (tupI' u), x5] := by
        generalize tupI' r = R at *
        generalize tupI' u = U at *
        generalize prD p = P at *
        simp [-ev_setT, ev_setTn, e1, e2]
      rw [b1]
      exact ih
theorem do_them0 (b : Int) (Mv St Fi La : D) (sts : List D) (cs : D) (n : Nat) (res : Bool) (o : Option D) (y3 y4 : Sl) (h1 : m_look_at_size [.v (.int b)] = .ok .non [.v (.int b)]) (h2 : m_look_at_moves [.v (.int b), .v Mv] = .ok .non [.v (.int b), .v Mv])
    (it : isiF [St, .ty "tuple"] = some (.bl true)) (hl : lenF [St] = some (.int (n : Int))) (hn : n ≤ 20)
    (lc : lcE [3] (seqI (varE 2)) (setT 3) yesT (callE m_is_pair (argV (varE 0) (argV (varE 3) (retE [])))) [.v (.int b), .v Mv, .v St, .u, .u, .u] = .ok cs [.v (.int b), .v Mv, .v St, .u, .u, .u]) (al : allF [cs] = some (.bl true))
    (fl : m_first_and_last [.v Mv] = .ok (.tup [Fi, La]) [.v Mv]) (sq : seqD St = some sts)
    (e : loopS (setT 3) DBody sts [.v (.int b), .v Mv, .v St, .u, .v Fi, .v La] = .ok (match o with | some _ => .nx | none => .ret (.bl false)) [.v (.int b), .v Mv, .v St, y3, y4, .v La])
    (ho : ∀ u, o = some u → y4 = .v u ∧ eqD u La = some (.bl res)) (hr : o = none → res = false) :
    m_do_them [.v (.int b), .v Mv, .v St] = .ok (.bl res) [.v (.int b), .v Mv, .v St] := by
  have hn2 : ¬ (20 : Int) < (n : Int) := by omega
  have sq' : seqI (varE 2) [.v (.int b), .v Mv, .v St, .u, .v Fi, .v La] = .ok sts [.v (.int b), .v Mv, .v St, .u, .v Fi, .v La] := by
    rw [ev_seqD]
    simp [sq]
  unfold m_do_them b_do_them
  simp [-ev_forS, h1, h2, it, hl, hn2, c_MOST_STEPS]
  rw [lc]
  simp [-ev_forS, al, fl]
  rw [ev_forS, sq']
  simp only [ev_okb]
  rw [e]
  cases o with
  | none =>
    have := hr rfl
    subst this
    simp
  | some u =>
    obtain ⟨rfl, q⟩ := ho u rfl
    simp [q]
theorem do_them_is (b : Int) (hb : 2 ≤ b) (hb2 : b ≤ 5) {t : List (Int × Int)} (h : okMv b t) (ps : List (Int × Int)) (hps : ∀ p ∈ ps, inB b p) (hl : ps.length ≤ 20) : m_do_them [.v (.int b), .v (prsD t), .v (prsD ps)] = .ok (.bl (doneS t ps)) [.v (.int b), .v (prsD t), .v (prsD ps)] := by
  have hlen := mv_len h (by omega)
  have gp := gd_prs (t := ps) (by omega) 1
  have lc := lcE_map (vs := [3]) (fi := seqI (varE 2)) (g := setT 3) (ft := yesT) (fe := callE m_is_pair (argV (varE 0) (argV (varE 3) (retE [])))) (ρ := [.v (.int b), .v (prsD t), .v (prsD ps), .u, .u, .u]) (ds := ps.map prD) (fun _ => .bl true)
    (by simp [prsD]) (by simp) (by simp; omega) (fun d hd => by
      obtain ⟨p, hp, rfl⟩ := List.mem_map.mp hd
      have e := is_pair_is (gp.2 (prD p) (List.mem_map_of_mem hp)) b
      rw [pairB_pr (hps p hp)] at e
      generalize prsD t = T at *
      generalize prsD ps = P at *
      generalize prD p = Q at *
      exact ⟨[.v (.int b), .v T, .v P, .v Q, .u, .u], [.v (.int b), .v T, .v P, .v Q, .u, .u], [.v (.int b), .v T, .v P, .v Q, .u, .u], by simp, by simp, by simp [e], by simp⟩)
  have al := all_true (ps.map prD)
  obtain ⟨y3, y4, e, e2⟩ := do_loop (.v (.int b)) (.v (prsD t)) (.v (prsD ps)) (.v (tupI' (t.map (·.2)))) ps (t.map (·.1)) .u rfl (by rw [List.length_map]; omega)
  have lf : lenF [prsD ps] = some (.int (ps.length : Int)) := by unfold prsD; simp
  refine do_them0 b (prsD t) (prsD ps) (tupI' (t.map (·.1))) (tupI' (t.map (·.2))) (ps.map prD) _ ps.length (doneS t ps) ((runZ (t.map (·.1)) ps).map tupI') y3 y4 (size_ok b hb hb2) (look_moves b (by omega) (by omega) h) rfl lf hl lc al (firsts_lasts t (by omega)) rfl ?_ ?_ ?_
  · rw [e]
    cases runZ (t.map (·.1)) ps <;> rfl
  · intro u hu
    unfold doneS
    cases q : runZ (t.map (·.1)) ps with
    | none => rw [q] at hu; cases hu
    | some v =>
      rw [q] at hu
      cases hu
      refine ⟨e2 v q, ?_⟩
      rw [eq_tupI]
      simp
  · intro hu
    unfold doneS
    cases q : runZ (t.map (·.1)) ps with
    | none => simp
    | some v => rw [q] at hu; cases hu
/-! ### the law -/
theorem loan_ok {i : Nat} {fe : EM D} {ρ ρ' : Ro} {kvs : List (D × D)} {ds : List D} (h1 : ρ[i]? = some (.o (.dct kvs))) (h2 : (ρ.set i .u).all plainS = true) (h3 : fe (ρ.set i (.v (.dct kvs))) = .ok (.lst ds) ρ') (h4 : ds.all flat1 = true) : loanE i fe ρ = .ok (.lst ds) ρ := by
  unfold loanE
  rw [h1]
  simp only [h2, if_true, h3, h4]
theorem filter_one {c : Int} : ∀ {l : List Int}, l.Nodup → c ∈ l → l.filter (fun x => decide (x = c)) = [c]
  | x :: l, h, hc => by
    rw [List.nodup_cons] at h
    by_cases e : x = c
    · subst e
      rw [List.filter_cons_of_pos (by simp)]
      congr 1
      rw [List.filter_eq_nil_iff]
      intro y hy z
      have := of_decide_eq_true z
      exact h.1 (this ▸ hy)
    · rw [List.filter_cons_of_neg (by simp [e])]
      rcases List.mem_cons.mp hc with z | z
      · exact absurd z.symm e
      · exact filter_one h.2 z
/-- the rows at a number -/
def rowsAt (cs rows : List Int) (a : Int) : List Int := cs.filter fun c => decide (getZ cs rows c = a)
theorem rowsAt_none {cs rows : List Int} (hc : cs.Nodup) (hl : cs.length = rows.length) {a : Int} (h : a ∉ rows) : rowsAt cs rows a = [] := by
  unfold rowsAt
  rw [List.filter_eq_nil_iff]
  intro c hcm z
  obtain ⟨j, hj, rfl⟩ := List.getElem_of_mem hcm
  have := of_decide_eq_true z
  rw [getZ_at hc (List.getElem?_eq_getElem hj) (List.getElem?_eq_getElem (by omega))] at this
  exact h (this ▸ List.getElem_mem _)
theorem rowsAt_some {cs rows : List Int} (hc : cs.Nodup) (hr : rows.Nodup) (hl : cs.length = rows.length) {i : Nat} {c a : Int} (h1 : cs[i]? = some c) (h2 : rows[i]? = some a) : rowsAt cs rows a = [c] := by
  unfold rowsAt
  rw [← filter_one hc (List.mem_of_getElem? h1)]
  refine List.filter_congr fun x hx => ?_
  obtain ⟨j, hj, rfl⟩ := List.getElem_of_mem hx
  obtain ⟨hi, rfl⟩ := List.getElem?_eq_some_iff.mp h1
  obtain ⟨hi2, rfl⟩ := List.getElem?_eq_some_iff.mp h2
  rw [getZ_at hc (List.getElem?_eq_getElem hj) (List.getElem?_eq_getElem (show j < rows.length by omega))]
  refine decide_eq_decide.mpr ⟨fun e => ?_, fun e => ?_⟩
  · have := (List.getElem_inj hr).mp e
    subst this; rfl
  · have := (List.getElem_inj hc).mp e
    subst this; rfl
theorem at_lc (T P : D) (cs rows : List Int) (hc : cs.Nodup) (hl : cs.length = rows.length) (hz : cs.length ≤ 1000) (a n : Int) (x5 : Sl) (h5 : plainS x5 = true) (j : Nat) (k : Int) (hj : (j = 3 ∧ k = a) ∨ (j = 4 ∧ k = n)) :
    loanE 2 (lcE [6] (seqI (varE 2)) (setT 6) (testE (bin2 eqD (bin2 ixD (varE 2) (varE 6)) (varE j))) (varE 6)) [.v T, .v P, .o (dz cs rows), .v (.int a), .v (.int n), x5, .u] = .ok (.lst ((rowsAt cs rows k).map .int)) [.v T, .v P, .o (dz cs rows), .v (.int a), .v (.int n), x5, .u] := by
  have sq := seq_dz (cs := cs) (rows := rows) hl
  have hat := fun {k : Int} (h : k ∈ cs) => dz_at hc hl h
  have e := lcE_filter (vs := [6]) (fi := seqI (varE 2)) (g := setT 6) (ft := testE (bin2 eqD (bin2 ixD (varE 2) (varE 6)) (varE j))) (fe := varE 6) (ρ := [.v T, .v P, .v (dz cs rows), .v (.int a), .v (.int n), x5, .u]) (ds := cs.map .int) (fun d => decide (getZ cs rows (int0 d) = k)) (fun d => d)
    (by rw [ev_seqD]; simp [sq]) (by simp) (by simp; omega) (fun d hd => by
      obtain ⟨c, hcm, rfl⟩ := List.mem_map.mp hd
      have hac := hat hcm
      have i0 : int0 (.int c) = c := rfl
      rw [i0]
      have eq1 : (getZ cs rows c == k) = decide (getZ cs rows c = k) := by
        rw [Bool.eq_iff_iff, beq_iff_eq, decide_eq_true_eq]
      generalize getZ cs rows c = g at *
      generalize dz cs rows = d1 at *
      refine ⟨[.v T, .v P, .v d1, .v (.int a), .v (.int n), x5, .v (.int c)], [.v T, .v P, .v d1, .v (.int a), .v (.int n), x5, .v (.int c)], by simp, ?_, by simp, fun _ => ⟨[.v T, .v P, .v d1, .v (.int a), .v (.int n), x5, .v (.int c)], by simp, by simp⟩⟩
      rcases hj with ⟨rfl, rfl⟩ | ⟨rfl, rfl⟩ <;> simp [hac, eq1])
  have ef : ((cs.map D.int).filter fun d => decide (getZ cs rows (int0 d) = k)).map (fun d => d) = (rowsAt cs rows k).map .int := by
    rw [List.map_id', List.filter_map]
    rfl
  rw [ef] at e
  exact loan_ok (kvs := (cs.zip rows).map kvD) rfl (by
    show (plainS (.v T) && (plainS (.v P) && (plainS .u && (plainS (.v (.int a)) && (plainS (.v (.int n)) && (plainS x5 && (plainS .u && true))))))) = true
    rw [h5]; rfl) e (by rw [List.all_map]; exact List.all_eq_true.mpr fun _ _ => rfl)
abbrev HBody : SM := seqS (asgS (loanE 2 (lcE [6] (seqI (varE 2)) (setT 6) (testE (bin2 eqD (bin2 ixD (varE 2) (varE 6)) (varE 3))) (varE 6))) (setT 5)) (seqS (ifS (orT (testE (bin2 eqD (varE 5) (lstE (retE [])))) (testE (bin2 neD (loanE 2 (lcE [6] (seqI (varE 2)) (setT 6) (testE (bin2 eqD (bin2 ixD (varE 2) (varE 6)) (varE 4))) (varE 6))) (lstE (retE []))))) (retS (retE (.bl false))) nextS) (setK 2 (bin2 ixD (varE 5) (retE (.int 0))) (varE 4)))
theorem eq_inil (l : List Int) : eqD (.lst (l.map .int)) (.lst []) = some (.bl l.isEmpty) := by
  have := eq_ints l []
  rw [List.map_nil] at this
  rw [this]
  cases l <;> rfl
theorem here_loop (T P : D) (cs : List Int) (hc : cs.Nodup) (hz : cs.length ≤ 1000) : ∀ (ps : List (Int × Int)) (rows : List Int) (x3 x4 x5 : Sl), notP x3 = true → notP x4 = true → plainS x5 = true → cs.length = rows.length → rows.Nodup →
    ∃ y2 y3 y4 y5, loopS (tupT 2 (consT (setT 3) (consT (setT 4) nilT))) HBody (ps.map prD) [.v T, .v P, .o (dz cs rows), x3, x4, x5, .u] = .ok (match runZ rows ps with | some _ => .nx | none => .ret (.bl false)) [.v T, .v P, y2, y3, y4, y5, .u] ∧ (∀ u, runZ rows ps = some u → y2 = .o (dz cs u) ∧ u.length = cs.length)
  | [], rows, x3, x4, x5, _, _, _, hl, _ => ⟨_, x3, x4, x5, rfl, fun u e => by cases e; exact ⟨rfl, hl.symm⟩⟩
  | p :: ps, rows, x3, x4, x5, h3, h4, h5, hl, hr => by
    have n5 : notP x5 = true := by cases x5 <;> first | rfl | (cases h5)
    have l1 := at_lc T P cs rows hc hl hz p.1 p.2 x5 h5 3 p.1 (.inl ⟨rfl, rfl⟩)
    have l2 := at_lc T P cs rows hc hl hz p.1 p.2 (.v (.lst ((rowsAt cs rows p.1).map .int))) rfl 4 p.2 (.inr ⟨rfl, rfl⟩)
    have e1 := eq_inil (rowsAt cs rows p.1)
    have e2 := ne_nil (rowsAt cs rows p.2)
    rw [List.map_cons, loop_cons (ρ1 := [.v T, .v P, .o (dz cs rows), .v (.int p.1), .v (.int p.2), x5, .u]) (by simp [-ev_setT, ev_setTn, h3, h4, prD])]
    by_cases q1 : p.1 ∈ rows
    · obtain ⟨i, hi, ei⟩ := List.getElem_of_mem q1
      have hc1 : cs[i]? = some cs[i] := List.getElem?_eq_getElem (by omega)
      have hr1 : rows[i]? = some p.1 := by rw [List.getElem?_eq_getElem hi, ei]
      have r1 := rowsAt_some hc hr hl hc1 hr1
      rw [r1] at l1 l2 e1
      by_cases q2 : p.2 ∈ rows
      · obtain ⟨k, hk, ek⟩ := List.getElem_of_mem q2
        have r2 := rowsAt_some (a := p.2) hc hr hl (List.getElem?_eq_getElem (show k < cs.length by omega)) (by rw [List.getElem?_eq_getElem hk, ek])
        rw [r2] at l2 e2
        have hn : runZ rows (p :: ps) = none := by
          unfold runZ stepZ
          rw [if_pos (.inr q2)]; rfl
        rw [hn]
        refine ⟨.o (dz cs rows), .v (.int p.1), .v (.int p.2), .v (.lst ([cs[i]].map .int)), ?_, fun u e => by cases e⟩
        have e1 : eqD (.lst ([cs[i]].map .int)) (.lst []) = some (.bl false) := e1
        have e2 : neD (.lst ([cs[k]].map .int)) (.lst []) = some (.bl true) := e2
        generalize [cs[i]].map D.int = A1 at *
        generalize [cs[k]].map D.int = A2 at *
        generalize dz cs rows = Z at *
        simp only [HBody, ev_seqS, ev_asgS, l1, ev_okb]
        simp [-ev_setT, ev_setTn, n5]
        simp [e1, l2, e2]
      · have r2 := rowsAt_none hc hl q2
        rw [r2] at l2 e2
        have hst : stepZ rows p = some (rows.set i p.2) := by
          unfold stepZ
          rw [if_neg (by rw [not_or, Classical.not_not]; exact ⟨q1, q2⟩)]
          congr 1
          apply List.ext_getElem
          · simp
          · intro k h1 h2
            rw [List.length_map] at h1
            rw [List.getElem_map, List.getElem_set]
            by_cases z : i = k
            · subst z
              rw [if_pos rfl, if_pos ei]
            · rw [if_neg z, if_neg]
              intro e
              exact z ((List.getElem_inj hr).mp (ei.trans e.symm))
        have hrun : runZ rows (p :: ps) = runZ (rows.set i p.2) ps := by
          show (stepZ rows p).bind _ = _
          rw [hst]; rfl
        rw [hrun]
        have hnd : (rows.set i p.2).Nodup := (set_nodup hr hi).mpr fun j hj e => q2 (List.mem_of_getElem? e)
        obtain ⟨y2, y3, y4, y5, ih, i2⟩ := here_loop T P cs hc hz ps (rows.set i p.2) (.v (.int p.1)) (.v (.int p.2)) (.v (.lst ([cs[i]].map .int))) rfl rfl rfl (by rw [List.length_set]; exact hl) hnd
        refine ⟨y2, y3, y4, y5, ?_, i2⟩
        have pu := dz_put (n := p.2) hc hl hc1 hz
        have pu : setKF ((cs.zip rows).map kvD) (.int p.2) (.int cs[i]) = some ((cs.zip (rows.set i p.2)).map kvD) := pu
        have d0 : dz cs rows = .dct ((cs.zip rows).map kvD) := rfl
        have d1 : dz cs (rows.set i p.2) = .dct ((cs.zip (rows.set i p.2)).map kvD) := rfl
        have e1 : eqD (.lst ([cs[i]].map .int)) (.lst []) = some (.bl false) := e1
        have e2 : neD (.lst []) (.lst []) = some (.bl false) := e2
        have a0 : ixD (.lst ([cs[i]].map .int)) (.int 0) = some (.int cs[i]) := by
          show atI [D.int cs[i]] ((0 : Nat) : Int) = _
          rw [at_nat]; rfl
        have b1 : HBody [.v T, .v P, .o (dz cs rows), .v (.int p.1), .v (.int p.2), x5, .u] = .ok .nx [.v T, .v P, .o (dz cs (rows.set i p.2)), .v (.int p.1), .v (.int p.2), .v (.lst ([cs[i]].map .int)), .u] := by
          rw [List.map_nil] at l2
          rw [d0] at l1 l2 ⊢
          rw [d1]
          generalize (cs.zip (rows.set i p.2)).map kvD = Z2 at *
          generalize (cs.zip rows).map kvD = Z at *
          generalize [cs[i]].map D.int = A1 at *
          simp only [HBody, ev_seqS, ev_asgS, l1, ev_okb]
          simp [-ev_setT, ev_setTn, n5]
          simp [e1, l2, e2, a0, pu, -op_ixl]
        rw [b1]
        exact ih
    · have r1 := rowsAt_none hc hl q1
      rw [r1] at l1 l2 e1
      have hn : runZ rows (p :: ps) = none := by
        unfold runZ stepZ
        rw [if_pos (.inl q1)]; rfl
      rw [hn]
      refine ⟨.o (dz cs rows), .v (.int p.1), .v (.int p.2), .v (.lst []), ?_, fun u e => by cases e⟩
      have e1 : eqD (.lst []) (.lst []) = some (.bl true) := e1
      rw [List.map_nil] at l1
      generalize dz cs rows = Z at *
      simp only [HBody, ev_seqS, ev_asgS, l1, ev_okb]
      simp [-ev_setT, ev_setTn, n5]
      simp [e1]
theorem eq_zip : ∀ {cs r s : List Int}, cs.Nodup → cs.length = r.length → cs.length = s.length → eqII (cs.zip r) (cs.zip s) = decide (r = s) := by
  intro cs r s hc hr hs
  unfold eqII
  have hl : (cs.zip r).length == (cs.zip s).length := by rw [List.length_zip, List.length_zip]; simp; omega
  rw [hl, Bool.true_and, Bool.eq_iff_iff, List.all_eq_true, decide_eq_true_eq]
  constructor
  · intro h
    apply List.ext_getElem (by omega)
    intro j h1 h2
    have hj : (cs.zip r)[j]? = some (cs[j], r[j]) := by
      rw [List.getElem?_eq_getElem (by rw [List.length_zip]; omega), List.getElem_zip]
    have := of_decide_eq_true (h _ (List.mem_of_getElem? hj))
    have e := lookup_zip (cs := cs) (rows := s) (j := j) hc (List.getElem?_eq_getElem (by omega)) (List.getElem?_eq_getElem h2)
    rw [e] at this
    exact (Option.some.inj this).symm
  · intro e
    subst e
    intro p hp
    obtain ⟨j, hj, rfl⟩ := List.getElem_of_mem hp
    rw [List.getElem_zip]
    rw [List.length_zip] at hj
    exact decide_eq_true (lookup_zip hc (List.getElem?_eq_getElem (by omega)) (List.getElem?_eq_getElem (by omega)))
theorem done0 (T P d0 : D) (ks : List Int) (sts : List D) (o : Option D) (res : Bool) (x3 y2 y3 y4 y5 : Sl) (h3 : notP x3 = true)
    (e0 : forS (seqI (varE 0)) (setT 3) (setK 2 (varE 3) (varE 3)) [.v T, .v P, .o (.dct []), .u, .u, .u, .u] = .ok .nx [.v T, .v P, .o d0, x3, .u, .u, .u]) (sq : seqD P = some sts)
    (e : loopS (tupT 2 (consT (setT 3) (consT (setT 4) nilT))) HBody sts [.v T, .v P, .o d0, x3, .u, .u, .u] = .ok (match o with | some _ => .nx | none => .ret (.bl false)) [.v T, .v P, y2, y3, y4, y5, .u])
    (ho : ∀ u, o = some u → y2 = .o u ∧ eqKF u T = some (.bl res)) (hr : o = none → res = false) : m__law_done_by [.v T, .v P] = .ok (.bl res) [.v T, .v P] := by
  have sq' : seqI (varE 1) [.v T, .v P, .o d0, x3, .u, .u, .u] = .ok sts [.v T, .v P, .o d0, x3, .u, .u, .u] := by
    rw [ev_seqD]
    simp [sq]
  unfold m__law_done_by b__law_done_by
  simp [-ev_forS]
  rw [e0]
  simp only []
  rw [ev_forS, sq']
  simp only [ev_okb]
  rw [e]
  cases o with
  | none =>
    have := hr rfl
    subst this
    simp
  | some u =>
    obtain ⟨rfl, q⟩ := ho u rfl
    simp [q]
theorem law_done_by_is (t ps : List (Int × Int)) (ht : t.length ≤ 1000) (hk : (t.map (·.1)).Nodup) : m__law_done_by [.v (tbD t), .v (prsD ps)] = .ok (.bl (doneS t ps)) [.v (tbD t), .v (prsD ps)] := by
  obtain ⟨cs, hcs⟩ : ∃ cs, t.map (·.1) = cs := ⟨_, rfl⟩
  obtain ⟨ls, hls⟩ : ∃ ls, t.map (·.2) = ls := ⟨_, rfl⟩
  have htz : t = cs.zip ls := by rw [← hcs, ← hls, zip_parts]
  have hcl : cs.length = t.length := by rw [← hcs, List.length_map]
  have hll : ls.length = t.length := by rw [← hls, List.length_map]
  rw [hcs] at hk
  have sq : seqD (tbD t) = some (cs.map .int) := by
    show some ((t.map kvD).map (·.1)) = _
    rw [← hcs, List.map_map, List.map_map]; rfl
  have hba := bd_all id cs
  rw [List.map_id] at hba
  obtain ⟨ρ', e0, x3, n3, rfl⟩ := for_inv (fi := seqI (varE 0)) (g := setT 3) (f := setK 2 (varE 3) (varE 3))
    (ρ0 := [.v (tbD t), .v (prsD ps), .o (.dct []), .u, .u, .u, .u]) (ρ := [.v (tbD t), .v (prsD ps), .o (.dct []), .u, .u, .u, .u]) (ds := cs.map .int)
    (fun j ρ => ∃ x3, notP x3 = true ∧ ρ = [.v (tbD t), .v (prsD ps), .o (.dct ((cs.take j).map (bdK id))), x3, .u, .u, .u])
    (by rw [ev_seqD]; simp [sq]) ⟨.u, rfl, by simp⟩ (fun j d ρ hj ⟨x3, h3, eρ⟩ => by
      subst eρ
      rw [List.getElem?_map] at hj
      obtain ⟨a, hcj, rfl⟩ := map_inv hj
      have pu := bd_put id hk hcj (by omega)
      refine ⟨[.v (tbD t), .v (prsD ps), .o (.dct ((cs.take j).map (bdK id))), .v (.int a), .u, .u, .u], [.v (tbD t), .v (prsD ps), .o (.dct ((cs.take (j + 1)).map (bdK id))), .v (.int a), .u, .u, .u], by simp [-ev_setT, ev_setTn, h3], ?_, .v (.int a), rfl, rfl⟩
      generalize (cs.take j).map (bdK id) = K at *
      generalize (cs.take (j + 1)).map (bdK id) = K' at *
      simp only [id] at pu
      simp [pu])
  rw [List.length_map, List.take_length, hba] at e0
  obtain ⟨y2, y3, y4, y5, e, e2⟩ := here_loop (tbD t) (prsD ps) cs hk (by omega) ps cs x3 .u .u n3 rfl rfl rfl hk
  refine done0 (tbD t) (prsD ps) (dz cs cs) cs (ps.map prD) ((runZ cs ps).map (dz cs)) (doneS t ps) x3 y2 y3 y4 y5 n3 e0 rfl ?_ ?_ ?_
  · rw [e]
    cases runZ cs ps <;> rfl
  · intro u hu
    unfold doneS
    rw [hcs, hls]
    cases q : runZ cs ps with
    | none => rw [q] at hu; cases hu
    | some v =>
      rw [q] at hu
      cases hu
      obtain ⟨q1, q2⟩ := e2 v q
      refine ⟨q1, ?_⟩
      have ee : eqKF (dz cs v) (tbD t) = some (.bl (eqII (cs.zip v) t)) := by
        unfold eqKF dz tbD
        simp only [intKV_kv]
      rw [ee, htz, eq_zip hk (by omega) (by omega)]
      simp
  · intro hu
    unfold doneS
    rw [hcs]
    cases q : runZ cs ps with
    | none => simp
    | some v => rw [q] at hu; cases hu
end DL

/-! The plain law of k10. -/
namespace DL
open PySem L2

theorem steps_for_is (b : Int) (hb : 2 ≤ b) (hb2 : b ≤ 5) {t : List (Int × Int)} (h : okMv b t) : m_steps_for [.v (.int b), .v (prsD t)] = .ok (stepsD (stepsO b t)) [.v (.int b), .v (prsD t)] := by
  have e0 := size_ok b hb hb2
  have e1 := look_moves b (by omega) (by omega) h
  have e2 := shortest_is b hb hb2 h
  unfold m_steps_for b_steps_for
  generalize stepsD (stepsO b t) = S at *
  generalize prsD t = T at *
  simp [e0, e1, e2]
def dueD (o : Option Nat) : D := match o with
  | some n => .int (n : Int)
  | none => .non
theorem len_prs (ps : List (Int × Int)) : lenF [prsD ps] = some (.int (ps.length : Int)) := by unfold prsD; simp
theorem fewest_is (b : Int) (hb : 2 ≤ b) (hb2 : b ≤ 5) {t : List (Int × Int)} (h : okMv b t) : m_fewest_steps [.v (.int b), .v (prsD t)] = .ok (dueD ((stepsO b t).map fun nd => nd.2.length)) [.v (.int b), .v (prsD t)] := by
  have e0 := size_ok b hb hb2
  have e1 := look_moves b (by omega) (by omega) h
  have e2 := shortest_is b hb hb2 h
  unfold m_fewest_steps b_fewest_steps
  cases hs : stepsO b t with
  | none =>
    rw [hs] at e2
    have e2 : m_shortest_steps [.v (.int b), .v (prsD t)] = .ok .non [.v (.int b), .v (prsD t)] := e2
    have i1 : isD .non .non = some (.bl true) := rfl
    generalize prsD t = T at *
    simp [e0, e1, e2, i1, dueD]
  | some nd =>
    rw [hs] at e2
    have e2 : m_shortest_steps [.v (.int b), .v (prsD t)] = .ok (prsD nd.2) [.v (.int b), .v (prsD t)] := e2
    have i1 : isD (prsD nd.2) .non = some (.bl false) := rfl
    have i2 := len_prs nd.2
    generalize prsD t = T at *
    generalize prsD nd.2 = S at *
    simp [e0, e1, e2, i1, i2, dueD]
theorem add_prs (ps qs : List (Int × Int)) (h : ps.length ≤ 1000) (h2 : qs.length ≤ 1000) : addD (prsD ps) (prsD qs) = some (prsD (ps ++ qs)) := by
  unfold prsD
  rw [op_at, if_pos (by rw [List.length_map, List.length_map]; omega), List.map_append]
theorem cut_pre {α : Type} (f : α → D) (l : List α) (i : Int) (h : 0 ≤ i) : cutD (l.map f) none (some i) = (l.take i.toNat).map f := by
  unfold cutD HT.sIx
  simp only [List.length_map]
  rw [if_neg (by omega), List.map_take, List.drop_zero, Nat.sub_zero]
  by_cases q : i.toNat ≤ l.length
  · rw [Nat.min_eq_left q]
  · rw [Nat.min_eq_right (by omega), List.take_of_length_le (by simp), List.take_of_length_le (by simp; omega)]
theorem cut_suf {α : Type} (f : α → D) (l : List α) (i : Int) (h : 0 ≤ i) : cutD (l.map f) (some i) none = (l.drop i.toNat).map f := by
  unfold cutD HT.sIx
  simp only [List.length_map]
  rw [if_neg (by omega), List.map_drop]
  by_cases q : i.toNat ≤ l.length
  · rw [Nat.min_eq_left q, List.take_of_length_le (by simp)]
  · rw [Nat.min_eq_right (by omega), List.drop_of_length_le (by simp), List.drop_of_length_le (by simp; omega)]
    simp
abbrev NBody : SM := seqS (asgS (callE m__law_take (argS 1 (argV (bin2 addD (callB lenF (consE (varE 11) (retE []))) (retE (.int 1))) (retE [])))) (setT 13)) (seqS (asgS (tupE (consE (callE m__law_take (argS 1 (argV (varE 2) (retE [])))) (consE (callE m__law_take (argS 1 (argV (varE 2) (retE [])))) (retE [])))) (setT 14)) (asgS (bin2 addD (bin2 addD (slE (varE 11) (retE none) (partE (varE 13))) (tupE (consE (varE 14) (retE [])))) (slE (varE 11) (partE (bin2 addD (varE 13) (callE m__law_take (argS 1 (argV (retE (.int 2)) (retE [])))))) (retE none))) (setT 11)))
abbrev NFi : EM (List D) := rng1I (consE (callE m__law_take (argS 1 (argV (retE (.int 4)) (retE [])))) (retE []))
abbrev EBody : SM := seqS (forS NFi (setT 12) NBody) (ifS (notT (testE (callE m__law_same (argV (callE m_do_them (argV (varE 2) (argV (varE 4) (argV (varE 11) (retE []))))) (argV (callE m__law_done_by (argV (varE 5) (argV (varE 11) (retE [])))) (retE [])))))) (retS (retE (.bl false))) nextS)
theorem new_step (b : Int) (hb : 2 ≤ b) (hb2 : b ≤ 5) (w : Bag) (h0 : 0 ≤ w.c) (h1 : w.c + 40 ≤ 2 ^ 62) (x0 x3 x4 x5 x6 x7 x10 x12 x13 x14 : Sl) (h13 : notP x13 = true) (h14 : notP x14 = true) (ps : List (Int × Int)) (hps : ∀ p ∈ ps, inB b p) (hl : ps.length ≤ 100) :
    ∃ w' qs y13 y14, NBody [x0, .o w.d, .v (.int b), x3, x4, x5, x6, x7, .u, .u, x10, .v (prsD ps), x12, x13, x14] = .ok .nx [x0, .o (Bag.d w'), .v (.int b), x3, x4, x5, x6, x7, .u, .u, x10, .v (prsD qs), x12, y13, y14] ∧ notP y13 = true ∧ notP y14 = true ∧ (∀ p ∈ qs, inB b p) ∧ qs.length ≤ ps.length + 1 ∧ w.c ≤ w'.c ∧ w'.c ≤ w.c + 4 := by
  obtain ⟨_, w1, f1, ⟨i, rfl, i1, i2⟩, c1, c2⟩ := take_ok ((ps.length : Int) + 1) (by omega) (by omega) w h0 (by omega)
  obtain ⟨_, w2, f2, ⟨u, rfl, u1, u2⟩, c3, c4⟩ := take_ok b (by omega) (by omega) w1 (by omega) (by omega)
  obtain ⟨_, w3, f3, ⟨v, rfl, v1, v2⟩, c5, c6⟩ := take_ok b (by omega) (by omega) w2 (by omega) (by omega)
  obtain ⟨_, w4, f4, ⟨k, rfl, k1, k2⟩, c7, c8⟩ := take_ok 2 (by omega) (by omega) w3 (by omega) (by omega)
  simp only [List.map_cons, List.map_nil] at f1 f2 f3 f4
  have lf := len_prs ps
  have s1 : slD (prsD ps) none (some i) = some (prsD (ps.take i.toNat)) := by unfold prsD; rw [op_slt, cut_pre _ _ _ i1]
  have s2 : slD (prsD ps) (some (i + k)) none = some (prsD (ps.drop (i + k).toNat)) := by unfold prsD; rw [op_slt, cut_suf _ _ _ (by omega)]
  have ml : (ps.take i.toNat).length = i.toNat := by rw [List.length_take]; omega
  have ll : (ps.drop (i + k).toNat).length = ps.length - (i + k).toNat := List.length_drop
  have m3 : ∀ x ∈ ps.take i.toNat, x ∈ ps := fun x hx => List.mem_of_mem_take hx
  have l2 : ∀ x ∈ ps.drop (i + k).toNat, x ∈ ps := fun x hx => List.mem_of_mem_drop hx
  generalize ps.take i.toNat = m at *
  generalize ps.drop (i + k).toNat = l at *
  have a1 := prs_add m (u, v) (by omega)
  have a2 := add_prs (m ++ [(u, v)]) l (by simp; omega) (by omega)
  refine ⟨w4, (m ++ [(u, v)]) ++ l, .v (.int i), .v (prD (u, v)), ?_, rfl, rfl, ?_, ?_, by omega, by omega⟩
  · have p0 : D.tup [.int u, .int v] = prD (u, v) := rfl
    have q1 : ¬ (100000000000000000000 : Int) < 0 := by omega
    generalize prsD (m ++ [(u, v)] ++ l) = R at *
    generalize prsD (m ++ [(u, v)]) = R1 at *
    generalize prsD m = R2 at *
    generalize prsD l = R3 at *
    generalize prsD ps = P at *
    simp [-ev_setT, ev_setTn, h13, h14, f1, f2, f3, f4, lf, s1, s2, p0, a1, a2]
  · intro p hp
    rcases List.mem_append.mp hp with hp | hp
    · rcases List.mem_append.mp hp with hp | hp
      · exact hps p (m3 p hp)
      · rw [List.mem_singleton.mp hp]; exact ⟨u1, u2, v1, v2⟩
    · exact hps p (l2 p hp)
  · rw [List.length_append, List.length_append, List.length_singleton]
    omega
theorem drawn_is (b : Int) (hb : 2 ≤ b) (hb2 : b ≤ 5) (w : Bag) (h0 : 0 ≤ w.c) (h1 : w.c + 400 ≤ 2 ^ 62) {t : List (Int × Int)} (ht : okMv b t) (x0 x3 x6 x7 x10 x12 x13 x14 : Sl) (h12 : notP x12 = true) (h13 : notP x13 = true) (h14 : notP x14 = true) (ps : List (Int × Int)) (hps : ∀ p ∈ ps, inB b p) (hl : ps.length ≤ 10) :
    ∃ w' qs y12 y13 y14, EBody [x0, .o w.d, .v (.int b), x3, .v (prsD t), .v (tbD t), x6, x7, .u, .u, x10, .v (prsD ps), x12, x13, x14] = .ok .nx [x0, .o (Bag.d w'), .v (.int b), x3, .v (prsD t), .v (tbD t), x6, x7, .u, .u, x10, .v (prsD qs), y12, y13, y14] ∧ notP y12 = true ∧ notP y13 = true ∧ notP y14 = true ∧ w.c ≤ w'.c ∧ w'.c ≤ w.c + 20 := by
  obtain ⟨_, w1, f1, ⟨k, rfl, k1, k2⟩, c1, c2⟩ := take_ok 4 (by omega) (by omega) w h0 (by omega)
  simp only [List.map_cons, List.map_nil] at f1
  have sm : smallI k = true := by unfold smallI; simp; omega
  obtain ⟨ρ', e, w', qs, y12, y13, y14, rfl, n12, n13, n14, q1, q2, c3, c4⟩ := for_inv (fi := NFi) (g := setT 12) (f := NBody)
    (ρ0 := [x0, .o w.d, .v (.int b), x3, .v (prsD t), .v (tbD t), x6, x7, .u, .u, x10, .v (prsD ps), x12, x13, x14]) (ρ := [x0, .o w1.d, .v (.int b), x3, .v (prsD t), .v (tbD t), x6, x7, .u, .u, x10, .v (prsD ps), x12, x13, x14]) (ds := rngD 0 k.toNat)
    (fun j ρ => ∃ w' qs y12 y13 y14, ρ = [x0, .o (Bag.d w'), .v (.int b), x3, .v (prsD t), .v (tbD t), x6, x7, .u, .u, x10, .v (prsD qs), y12, y13, y14] ∧ notP y12 = true ∧ notP y13 = true ∧ notP y14 = true ∧ (∀ p ∈ qs, inB b p) ∧ qs.length ≤ ps.length + j ∧ w1.c ≤ w'.c ∧ w'.c ≤ w1.c + 4 * j)
    (by simp [f1, sm]) ⟨w1, ps, x12, x13, x14, rfl, h12, h13, h14, hps, by omega, by omega, by omega⟩ (fun j d ρ hj ⟨w', qs, y12, y13, y14, eρ, n12, n13, n14, q1, q2, c3, c4⟩ => by
      subst eρ
      obtain ⟨rfl, hj2⟩ := rng_get hj
      obtain ⟨w2, rs, z13, z14, e, m13, m14, r1, r2, c5, c6⟩ := new_step b hb hb2 w' (by omega) (by omega) x0 x3 (.v (prsD t)) (.v (tbD t)) x6 x7 x10 (.v (.int (0 + (j : Int)))) y13 y14 n13 n14 qs q1 (by omega)
      refine ⟨[x0, .o w'.d, .v (.int b), x3, .v (prsD t), .v (tbD t), x6, x7, .u, .u, x10, .v (prsD qs), .v (.int (0 + (j : Int))), y13, y14], _, by simp [-ev_setT, ev_setTn, n12], e, w2, rs, _, z13, z14, rfl, rfl, m13, m14, r1, by omega, by omega, by push_cast; omega⟩)
  have hlen := mv_len ht (by omega)
  have rl : (rngD 0 k.toNat).length = k.toNat := by unfold rngD; simp
  rw [rl] at q2 c4
  have d1 := do_them_is b hb hb2 ht qs q1 (by omega)
  have d2 := law_done_by_is t qs (by omega) (mv_olds ht).1
  have d3 := same_ok (d := .bl (doneS t qs)) trivial
  refine ⟨w', qs, y12, y13, y14, ?_, n12, n13, n14, by omega, by omega⟩
  show seqS _ _ _ = _
  rw [ev_seqS, e]
  generalize doneS t qs = r at *
  generalize prsD qs = Q at *
  generalize prsD t = T at *
  generalize tbD t = B at *
  simp [d1, d2, d3]
def snd0' (d : D) : Int := match d with
  | .tup [_, .int y] => y
  | _ => 0
theorem moved_lc (t : List (Int × Int)) (hl : t.length ≤ 1000) (x0 x1 x2 x3 x5 x6 x7 x10 x11 x12 x13 x14 : Sl) :
    ∃ ds, lcE [8, 9] (seqI (varE 4)) (tupT 2 (consT (setT 8) (consT (setT 9) nilT))) (testE (bin2 neD (varE 8) (varE 9))) (retE (.int 1)) [x0, x1, x2, x3, .v (prsD t), x5, x6, x7, .u, .u, x10, x11, x12, x13, x14] = .ok (.lst ds) [x0, x1, x2, x3, .v (prsD t), x5, x6, x7, .u, .u, x10, x11, x12, x13, x14] ∧ lenF [.lst ds] = some (.int ((movedZ t : Nat) : Int)) := by
  have := lcE_filter (vs := [8, 9]) (fi := seqI (varE 4)) (g := tupT 2 (consT (setT 8) (consT (setT 9) nilT))) (ft := testE (bin2 neD (varE 8) (varE 9))) (fe := retE (.int 1)) (ρ := [x0, x1, x2, x3, .v (prsD t), x5, x6, x7, .u, .u, x10, x11, x12, x13, x14]) (ds := t.map prD) (fun d => !decide (fst0 d = snd0' d)) (fun _ => .int 1) (by simp [prsD]) (by simp) (by simp; omega) (fun x hx => by
    obtain ⟨p, _, rfl⟩ := List.mem_map.mp hx
    exact ⟨[x0, x1, x2, x3, .v (prsD t), x5, x6, x7, .v (.int p.1), .v (.int p.2), x10, x11, x12, x13, x14], [x0, x1, x2, x3, .v (prsD t), x5, x6, x7, .v (.int p.1), .v (.int p.2), x10, x11, x12, x13, x14], by simp [prD], by simp [fst0, snd0', prD]; try rfl, by simp, fun _ => ⟨[x0, x1, x2, x3, .v (prsD t), x5, x6, x7, .v (.int p.1), .v (.int p.2), x10, x11, x12, x13, x14], by simp, by simp⟩⟩)
  refine ⟨_, this, ?_⟩
  have : ((t.map prD).filter fun d => !decide (fst0 d = snd0' d)).length = movedZ t := by
    unfold movedZ
    rw [List.filter_map, List.length_map]
    rfl
  simp [this]
abbrev TBody : SM := (seqS (asgS (callE m__law_moves (argS 1 (argV (varE 2) (retE [])))) (setT 4)) (seqS (asgS (callB dictF2 (consE (varE 4) (retE []))) (setT 5)) (seqS (asgS (callE m__law_rings (argV (varE 5) (retE []))) (setT 6)) (seqS (asgS (bin2 addD (callB lenF (consE (lcE [8, 9] (seqI (varE 4)) (tupT 2 (consT (setT 8) (consT (setT 9) nilT))) (testE (bin2 neD (varE 8) (varE 9))) (retE (.int 1))) (retE []))) (varE 6)) (setT 7)) (seqS (asgS (ifE (andT (testE (bin2 gtD (varE 6) (retE (.int 0)))) (testE (bin2 eqD (callB lenF (consE (varE 4) (retE []))) (varE 2)))) (retE .non) (varE 7)) (setT 7)) (seqS (asgS (callE m_steps_for (argV (varE 2) (argV (varE 4) (retE [])))) (setT 10)) (seqS (ifS (orT (notT (testE (callE m__law_same (argV (callE m_fewest_steps (argV (varE 2) (argV (varE 4) (retE [])))) (argV (varE 7) (retE [])))))) (testE (bin2 neD (bin2 isD (varE 10) (retE .non)) (bin2 isD (varE 7) (retE .non))))) (retS (retE (.bl false))) nextS) (seqS (ifS (testE (bin2 isNotD (varE 10) (retE .non))) (ifS (orT (notT (testE (callB isiF (consE (varE 10) (consE (retE (.ty "tuple")) (retE [])))))) (orT (testE (bin2 neD (callB lenF (consE (varE 10) (retE []))) (varE 7))) (notT (testE (callE m__law_done_by (argV (varE 5) (argV (varE 10) (retE [])))))))) (retS (retE (.bl false))) nextS) nextS) (seqS (asgS (ifE (testE (bin2 isD (varE 10) (retE .non))) (tupE (retE [])) (varE 10)) (setT 11)) EBody)))))))))
theorem due_is {b : Int} (hb : 2 ≤ b) (hb2 : b ≤ 5) {t : List (Int × Int)} (h : okMv b t) : dueZ b t = (stepsO b t).map fun nd => nd.2.length := by
  have := steps_due hb hb2 h
  cases e : stepsO b t with
  | none => rw [e] at this; exact this
  | some nd => rw [e] at this; exact this.1
theorem due_ev {b : Int} {t : List (Int × Int)} : dueD (dueZ b t) = if 0 < ringsZ t ∧ (t.length : Int) = b then .non else .int ((movedZ t : Int) + (ringsZ t : Int)) := by
  unfold dueZ
  split
  · rfl
  · show D.int _ = _
    rw [Int.natCast_add]
theorem due_same (o : Option Nat) : m__law_same [.v (dueD o), .v (dueD o)] = .ok (.bl true) [.v (dueD o), .v (dueD o)] := by
  cases o with
  | none => exact same_ok trivial
  | some n => exact same_ok trivial
theorem rings_le {t : List (Int × Int)} : ∀ (N : Nat) (ks : List Int) (f : Nat) (met : List Int), ringF t N ks f met ≤ f + ks.length
  | _, [], f, met => Nat.le_refl _
  | N, k :: ks, f, met => by
    unfold ringF
    refine Nat.le_trans (rings_le N ks _ _) ?_
    have : ringB k (walkZ t N k met []) ≤ 1 := by unfold ringB; split <;> omega
    rw [List.length_cons]
    omega
theorem turn_is (b : Int) (hb : 2 ≤ b) (hb2 : b ≤ 5) (w : Bag) (h0 : 0 ≤ w.c) (h1 : w.c + 500 ≤ 2 ^ 62) (x0 x3 x4 x5 x6 x7 x10 x11 x12 x13 x14 : Sl) (n4 : notP x4 = true) (n5 : notP x5 = true) (n6 : notP x6 = true) (n7 : notP x7 = true) (n10 : notP x10 = true) (n11 : notP x11 = true) (h12 : notP x12 = true) (h13 : notP x13 = true) (h14 : notP x14 = true) :
    ∃ w' y4 y5 y6 y7 y10 y11 y12 y13 y14, TBody [x0, .o w.d, .v (.int b), x3, x4, x5, x6, x7, .u, .u, x10, x11, x12, x13, x14] = .ok .nx [x0, .o (Bag.d w'), .v (.int b), x3, y4, y5, y6, y7, .u, .u, y10, y11, y12, y13, y14] ∧ (notP y4 = true ∧ notP y5 = true ∧ notP y6 = true ∧ notP y7 = true ∧ notP y10 = true ∧ notP y11 = true ∧ notP y12 = true ∧ notP y13 = true ∧ notP y14 = true) ∧ w.c ≤ w'.c ∧ w'.c ≤ w.c + 40 := by
  obtain ⟨_, w1, f1, ⟨t, rfl, ht⟩, c1, c2⟩ := moves_ok b (by omega) (by omega) w (by omega) (by omega)
  simp only [List.map_cons, List.map_nil] at f1
  have hlen := mv_len ht (by omega)
  have hk := (mv_olds ht).1
  have e2 : dictF2 [prsD t] = some (tbD t) := dict_tab t hk
  have e3 := law_rings_is t (by omega) hk
  have e4 := fun x5 x6 => moved_lc t (by omega) x0 (.o w1.d) (.v (.int b)) x3 x5 x6 x7 x10 x11 x12 x13 x14
  have l1 := len_prs t
  have e6 := steps_for_is b hb hb2 ht
  have e7 := fewest_is b hb hb2 ht
  rw [← due_is hb hb2 ht] at e7
  have e8 := due_same (dueZ b t)
  obtain ⟨ds, m1, m2⟩ := e4 (.v (tbD t)) (.v (.int ((ringsZ t : Nat) : Int)))
  have dv := due_ev (b := b) (t := t)
  have key : ∀ (S : D) (ps : List (Int × Int)), stepsD (stepsO b t) = S → (∀ p ∈ ps, inB b p) → ps.length ≤ 10 → (S = .non ∧ dueD (dueZ b t) = .non ∧ ps = [] ∨ S = prsD ps ∧ dueD (dueZ b t) = .int (ps.length : Int) ∧ doneS t ps = true) →
      ∃ w' y4 y5 y6 y7 y10 y11 y12 y13 y14, TBody [x0, .o w.d, .v (.int b), x3, x4, x5, x6, x7, .u, .u, x10, x11, x12, x13, x14] = .ok .nx [x0, .o (Bag.d w'), .v (.int b), x3, y4, y5, y6, y7, .u, .u, y10, y11, y12, y13, y14] ∧ (notP y4 = true ∧ notP y5 = true ∧ notP y6 = true ∧ notP y7 = true ∧ notP y10 = true ∧ notP y11 = true ∧ notP y12 = true ∧ notP y13 = true ∧ notP y14 = true) ∧ w.c ≤ w'.c ∧ w'.c ≤ w.c + 40 := fun S ps hS hps hpl hc => by
    rw [hS] at e6
    obtain ⟨w2, qs, y12, y13, y14, E, n12, n13, n14, c3, c4⟩ := drawn_is b hb hb2 w1 (by omega) (by omega) ht x0 x3 (.v (.int ((ringsZ t : Nat) : Int))) (.v (dueD (dueZ b t))) (.v S) x12 x13 x14 h12 h13 h14 ps hps hpl
    refine ⟨w2, .v (prsD t), .v (tbD t), .v (.int ((ringsZ t : Nat) : Int)), .v (dueD (dueZ b t)), .v S, .v (prsD qs), y12, y13, y14, ?_, ⟨rfl, rfl, rfl, rfl, rfl, rfl, n12, n13, n14⟩, by omega, by omega⟩
    have g1 : gtD (.int ((ringsZ t : Nat) : Int)) (.int 0) = some (.bl (decide (0 < ringsZ t))) := by
      show some (D.bl (decide ((0 : Int) < ((ringsZ t : Nat) : Int)))) = _
      congr 2
      exact decide_eq_decide.mpr (by omega)
    have g2 : eqD (.int (t.length : Int)) (.int b) = some (.bl (decide ((t.length : Int) = b))) := by
      show some (D.bl ((t.length : Int) == b)) = _
      congr 2
    have d0 := law_done_by_is t ps (by omega) hk
    have l2 := len_prs ps
    generalize hDue : dueD (dueZ b t) = Du at *
    generalize ringsZ t = R at *
    generalize movedZ t = Mv at *
    generalize tbD t = B at *
    generalize hT : prsD t = T at *
    have hp0 : D.tup [] = prsD [] := rfl
    have st : ∀ rest : SM, seqS (asgS (callE m__law_moves (argS 1 (argV (varE 2) (retE [])))) (setT 4)) (seqS (asgS (callB dictF2 (consE (varE 4) (retE []))) (setT 5)) (seqS (asgS (callE m__law_rings (argV (varE 5) (retE []))) (setT 6)) (seqS (asgS (bin2 addD (callB lenF (consE (lcE [8, 9] (seqI (varE 4)) (tupT 2 (consT (setT 8) (consT (setT 9) nilT))) (testE (bin2 neD (varE 8) (varE 9))) (retE (.int 1))) (retE []))) (varE 6)) (setT 7)) (seqS (asgS (ifE (andT (testE (bin2 gtD (varE 6) (retE (.int 0)))) (testE (bin2 eqD (callB lenF (consE (varE 4) (retE []))) (varE 2)))) (retE .non) (varE 7)) (setT 7)) (seqS (asgS (callE m_steps_for (argV (varE 2) (argV (varE 4) (retE [])))) (setT 10)) rest))))) [x0, .o w.d, .v (.int b), x3, x4, x5, x6, x7, .u, .u, x10, x11, x12, x13, x14] = rest [x0, .o w1.d, .v (.int b), x3, .v T, .v B, .v (.int (R : Int)), .v Du, .u, .u, .v S, x11, x12, x13, x14] := fun rest => by
      simp [-ev_setT, ev_setTn, n4, n5, n6, n7, n10, f1, e2, e3]
      rw [m1]
      simp [-ev_setT, ev_setTn, n4, n5, n6, n7, n10, m2, l1, g1, g2]
      rw [dv]
      by_cases q1 : 0 < R
      · by_cases q2 : (t.length : Int) = b
        · simp [-ev_setT, ev_setTn, n10, q1, q2, e6]
        · simp [-ev_setT, ev_setTn, n10, q1, q2, e6]
      · simp [-ev_setT, ev_setTn, n10, q1, e6]
    refine (st _).trans ?_
    rcases hc with ⟨rfl, hd, rfl⟩ | ⟨rfl, hd, hdo⟩
    · subst hd
      have i1 : isD .non .non = some (.bl true) := rfl
      have i2 : isNotD .non .non = some (.bl false) := rfl
      have i3 : neD (.bl true) (.bl true) = some (.bl false) := rfl
      simp [-ev_setT, -ev_forS, ev_setTn, n11, e7, e8, i1, i2, i3, hp0]
      exact E
    · subst hd
      have i1 : isD (prsD ps) .non = some (.bl false) := rfl
      have i2 : isNotD (prsD ps) .non = some (.bl true) := rfl
      have i3 : neD (.bl false) (.bl false) = some (.bl false) := rfl
      have i4 : isD (.int (ps.length : Int)) .non = some (.bl false) := rfl
      have i5 : isiF [prsD ps, .ty "tuple"] = some (.bl true) := rfl
      have i6 : neD (.int (ps.length : Int)) (.int (ps.length : Int)) = some (.bl false) := by
        show some (D.bl !((ps.length : Int) == (ps.length : Int))) = _
        simp
      rw [hdo] at d0
      generalize prsD ps = P at *
      generalize (ps.length : Int) = L at *
      simp [-ev_setT, -ev_forS, ev_setTn, n11, e7, e8, i1, i2, i3, i4, i5, i6, l2, d0]
      exact E
  cases hs : stepsO b t with
  | none =>
    have hd := due_is hb hb2 ht
    rw [hs] at hd
    exact key .non [] (by rw [hs]; rfl) (by simp) (by simp) (.inl ⟨rfl, by rw [hd]; rfl, rfl⟩)
  | some nd =>
    have hd := steps_due hb hb2 ht
    rw [hs] at hd
    obtain ⟨hd1, hd2⟩ := hd
    obtain ⟨g1, g2⟩ := mv_good ht
    obtain ⟨p1, p2⟩ := pth_steps g1 hd2
    refine key (prsD nd.2) nd.2 (by rw [hs]; rfl) p1 ?_ (.inr ⟨rfl, by rw [hd1]; rfl, ?_⟩)
    · unfold dueZ at hd1
      split at hd1
      · cases hd1
      · injection hd1 with hd1
        have r1 : ringsZ t ≤ 0 + (t.map (·.1)).length := rings_le 6 _ _ _
        have r2 : movedZ t ≤ t.length := List.length_filter_le _ _
        rw [List.length_map] at r1
        omega
    · unfold doneS
      rw [pth_run hd2]
      simp
theorem fit_all : ∀ ns : List Int, ns.length ≤ 63 → ∃ ws : List Bag, (∃ ρ', fit_law (.v (.scr ns) :: List.replicate 14 .u) = .ok (.lst (ws.map Bag.d)) ρ') ∧ (∀ (i j : Nat) (w u : Bag), ws[i]? = some w → ws[j]? = some u → w.c = u.c → i = j) ∧ ∀ w ∈ ws, w.ok := fun ns hn => by
  obtain ⟨ws, e, h1, h2⟩ := bags_is ns 8 (by omega) (by omega) hn
  exact ⟨ws, ⟨.v (.scr ns) :: List.replicate 14 .u, by unfold fit_law; simp [e]⟩, h1, h2⟩
theorem tail_all : ∃ ρ', g_law (List.replicate 15 .u) = .ok (.ret (.bl true)) ρ' := ⟨_, rfl⟩
theorem body_all : ∀ w : Bag, w.ok → ∃ ρ', b_law (bagRo w 13) = .ok .nx ρ' := fun w hw => by
  obtain ⟨_, _, _, hc0, hc1⟩ := hw
  obtain ⟨_, w1, f1, ⟨k, rfl, t1, t2⟩, c1, c2⟩ := take_ok 4 (by omega) (by omega) w (by omega) (by omega)
  obtain ⟨b, hb⟩ : ∃ b, b = 2 + k := ⟨_, rfl⟩
  have b1 : 2 ≤ b := by omega
  have b2 : b ≤ 5 := by omega
  simp only [List.map_cons, List.map_nil] at f1
  obtain ⟨ρ1, e1, _⟩ := for_inv (fi := rng1I (consE (retE (.int 4)) (retE []))) (g := setT 3) (f := TBody)
    (ρ0 := [.u, .o w1.d, .v (.int b), .u, .u, .u, .u, .u, .u, .u, .u, .u, .u, .u, .u]) (ρ := [.u, .o w1.d, .v (.int b), .u, .u, .u, .u, .u, .u, .u, .u, .u, .u, .u, .u]) (ds := rngD 0 4)
    (fun j ρ => ∃ w' y3 y4 y5 y6 y7 y10 y11 y12 y13 y14, ρ = [.u, .o (Bag.d w'), .v (.int b), y3, y4, y5, y6, y7, .u, .u, y10, y11, y12, y13, y14] ∧ notP y3 = true ∧ (notP y4 = true ∧ notP y5 = true ∧ notP y6 = true ∧ notP y7 = true ∧ notP y10 = true ∧ notP y11 = true ∧ notP y12 = true ∧ notP y13 = true ∧ notP y14 = true) ∧ w1.c ≤ w'.c ∧ w'.c ≤ w1.c + 40 * j)
    (by simp [smallI]) ⟨w1, _, _, _, _, _, _, _, _, _, _, rfl, rfl, ⟨rfl, rfl, rfl, rfl, rfl, rfl, rfl, rfl, rfl⟩, by omega, by omega⟩ (fun j d ρ hj ⟨w', y3, y4, y5, y6, y7, y10, y11, y12, y13, y14, eρ, m3, ⟨m4, m5, m6, m7, m10, m11, m12, m13, m14⟩, c3, c4⟩ => by
      subst eρ
      obtain ⟨rfl, hj2⟩ := rng_get hj
      obtain ⟨w2, z4, z5, z6, z7, z10, z11, z12, z13, z14, e, nn, c5, c6⟩ := turn_is b b1 b2 w' (by omega) (by omega) .u (.v (.int (0 + (j : Int)))) y4 y5 y6 y7 y10 y11 y12 y13 y14 m4 m5 m6 m7 m10 m11 m12 m13 m14
      exact ⟨[.u, .o w'.d, .v (.int b), .v (.int (0 + (j : Int))), y4, y5, y6, y7, .u, .u, y10, y11, y12, y13, y14], _, by simp [-ev_setT, ev_setTn, m3], e, w2, _, z4, z5, z6, z7, z10, z11, z12, z13, z14, rfl, rfl, nn, by omega, by push_cast; omega⟩)
  refine ⟨ρ1, ?_⟩
  have hb' := hb.symm
  unfold b_law bagRo
  simp [-ev_forS, f1, hb']
  exact e1
end DL

/-! the walk, printed by gen.py -/
namespace DL
open PySem L2
def top (i : Nat) : Stmt := PySem.Challenge.pw_pointsat_k10_whole_moves_by_single_steps.main.body.getD i (.Pass ⟨0, 0, 0, 0⟩)
abbrev s_is_within : Stmt := top 6
theorem sc_is_within : FnScope ["value", "low", "high"] ["value", "low", "high"] (defScope s_is_within) := ⟨rfl, rfl, rfl, by decide +kernel, rfl, by decide +kernel, by decide +kernel⟩
abbrev s_rises : Stmt := top 7
theorem sc_rises : FnScope ["some", "one", "other"] ["some"] (defScope s_rises) := ⟨rfl, rfl, rfl, by decide +kernel, rfl, by decide +kernel, by decide +kernel⟩
abbrev s_look_at_size : Stmt := top 8
theorem sc_look_at_size : FnScope ["size"] ["size"] (defScope s_look_at_size) := ⟨rfl, rfl, rfl, by decide +kernel, rfl, by decide +kernel, by decide +kernel⟩
abbrev s_is_pair : Stmt := top 9
theorem sc_is_pair : FnScope ["size", "value", "part"] ["size", "value"] (defScope s_is_pair) := ⟨rfl, rfl, rfl, by decide +kernel, rfl, by decide +kernel, by decide +kernel⟩
abbrev s_are_moves : Stmt := top 12
theorem sc_are_moves : FnScope ["size", "value", "pair"] ["size", "value"] (defScope s_are_moves) := ⟨rfl, rfl, rfl, by decide +kernel, rfl, by decide +kernel, by decide +kernel⟩
abbrev s_look_at_moves : Stmt := top 13
theorem sc_look_at_moves : FnScope ["size", "moves"] ["size", "moves"] (defScope s_look_at_moves) := ⟨rfl, rfl, rfl, by decide +kernel, rfl, by decide +kernel, by decide +kernel⟩
abbrev s_stepped : Stmt := top 14
theorem sc_stepped : FnScope ["rows", "step", "old", "new", "number"] ["rows", "step"] (defScope s_stepped) := ⟨rfl, rfl, rfl, by decide +kernel, rfl, by decide +kernel, by decide +kernel⟩
abbrev s_first_and_last : Stmt := top 15
theorem sc_first_and_last : FnScope ["moves", "old", "new"] ["moves"] (defScope s_first_and_last) := ⟨rfl, rfl, rfl, by decide +kernel, rfl, by decide +kernel, by decide +kernel⟩
abbrev s_shortest_steps : Stmt := top 16
theorem sc_shortest_steps : FnScope ["size", "moves", "first", "last", "found", "waiting", "at", "rows", "old", "new", "later"] ["size", "moves"] (defScope s_shortest_steps) := ⟨rfl, rfl, rfl, by decide +kernel, rfl, by decide +kernel, by decide +kernel⟩
abbrev s_fewest_steps : Stmt := top 17
theorem sc_fewest_steps : FnScope ["size", "moves", "steps"] ["size", "moves"] (defScope s_fewest_steps) := ⟨rfl, rfl, rfl, by decide +kernel, rfl, by decide +kernel, by decide +kernel⟩
abbrev s_do_them : Stmt := top 18
theorem sc_do_them : FnScope ["size", "moves", "steps", "step", "rows", "last"] ["size", "moves", "steps"] (defScope s_do_them) := ⟨rfl, rfl, rfl, by decide +kernel, rfl, by decide +kernel, by decide +kernel⟩
abbrev s_steps_for : Stmt := top 19
theorem sc_steps_for : FnScope ["size", "moves"] ["size", "moves"] (defScope s_steps_for) := ⟨rfl, rfl, rfl, by decide +kernel, rfl, by decide +kernel, by decide +kernel⟩
abbrev s__law_well : Stmt := top 21
theorem sc__law_well : FnScope ["_law_cell", "_law_turn"] ["_law_cell", "_law_turn"] (defScope s__law_well) := ⟨rfl, rfl, rfl, by decide +kernel, rfl, by decide +kernel, by decide +kernel⟩
abbrev s__law_take : Stmt := top 22
theorem sc__law_take : FnScope ["_law_bag", "_law_many", "_law_found", "_law_p", "_law_n"] ["_law_bag", "_law_many"] (defScope s__law_take) := ⟨rfl, rfl, rfl, by decide +kernel, rfl, by decide +kernel, by decide +kernel⟩
abbrev s__law_bags : Stmt := top 23
theorem sc__law_bags : FnScope ["_law_script", "_law_most", "_law_k", "_law_cell"] ["_law_script", "_law_most"] (defScope s__law_bags) := ⟨rfl, rfl, rfl, by decide +kernel, rfl, by decide +kernel, by decide +kernel⟩
abbrev s__law_same : Stmt := top 24
theorem sc__law_same : FnScope ["_law_a", "_law_b", "_law_x", "_law_y"] ["_law_a", "_law_b"] (defScope s__law_same) := ⟨rfl, rfl, rfl, by decide +kernel, rfl, by decide +kernel, by decide +kernel⟩
abbrev s__law_moves : Stmt := top 25
theorem sc__law_moves : FnScope ["_law_bag", "_law_bound", "_law_news", "_law_found", "_law_old"] ["_law_bag", "_law_bound"] (defScope s__law_moves) := ⟨rfl, rfl, rfl, by decide +kernel, rfl, by decide +kernel, by decide +kernel⟩
abbrev s__law_rings : Stmt := top 26
theorem sc__law_rings : FnScope ["_law_table", "_law_found", "_law_met", "_law_old", "_law_at", "_law_way"] ["_law_table"] (defScope s__law_rings) := ⟨rfl, rfl, rfl, by decide +kernel, rfl, by decide +kernel, by decide +kernel⟩
abbrev s__law_done_by : Stmt := top 27
theorem sc__law_done_by : FnScope ["_law_table", "_law_steps", "_law_here", "_law_old", "_law_new", "_law_some", "_law_row"] ["_law_table", "_law_steps"] (defScope s__law_done_by) := ⟨rfl, rfl, rfl, by decide +kernel, rfl, by decide +kernel, by decide +kernel⟩
abbrev s_law : Stmt := top 28
theorem sc_law : FnScope ["_law_script", "_law_bag", "_law_bound", "_law_turn", "_law_moves_here", "_law_table", "_law_rings_here", "_law_due", "_law_old", "_law_new", "_law_steps", "_law_drawn", "_law_k", "_law_at", "_law_step"] ["_law_script"] (defScope s_law) := ⟨rfl, rfl, rfl, by decide +kernel, rfl, by decide +kernel, by decide +kernel⟩
structure Txt (K : PySem.W.Frag) (mg : Str → Option Value) : Prop where
  z_all : mg "all" = none
  z_bool : mg "bool" = none
  z_dict : mg "dict" = none
  z_enumerate : mg "enumerate" = none
  z_int : mg "int" = none
  z_isinstance : mg "isinstance" = none
  z_len : mg "len" = none
  z_list : mg "list" = none
  z_range : mg "range" = none
  z_set : mg "set" = none
  z_str : mg "str" = none
  z_tuple : mg "tuple" = none
  z_zip : mg "zip" = none
  c_MOST_STEPS : Glob K mg "MOST_STEPS" c_MOST_STEPS
  x_InvalidMoves : ExcOk K mg "InvalidMoves"
  x_InvalidSize : ExcOk K mg "InvalidSize"
  x_InvalidSteps : ExcOk K mg "InvalidSteps"
  d_is_within : DefAt K mg "is_within" s_is_within ["value", "low", "high"]
  d_rises : DefAt K mg "rises" s_rises ["some"]
  d_look_at_size : DefAt K mg "look_at_size" s_look_at_size ["size"]
  d_is_pair : DefAt K mg "is_pair" s_is_pair ["size", "value"]
  d_are_moves : DefAt K mg "are_moves" s_are_moves ["size", "value"]
  d_look_at_moves : DefAt K mg "look_at_moves" s_look_at_moves ["size", "moves"]
  d_stepped : DefAt K mg "stepped" s_stepped ["rows", "step"]
  d_first_and_last : DefAt K mg "first_and_last" s_first_and_last ["moves"]
  d_shortest_steps : DefAt K mg "shortest_steps" s_shortest_steps ["size", "moves"]
  d_fewest_steps : DefAt K mg "fewest_steps" s_fewest_steps ["size", "moves"]
  d_do_them : DefAt K mg "do_them" s_do_them ["size", "moves", "steps"]
  d_steps_for : DefAt K mg "steps_for" s_steps_for ["size", "moves"]
  d__law_well : DefAt K mg "_law_well" s__law_well ["_law_cell", "_law_turn"]
  d__law_take : DefAt K mg "_law_take" s__law_take ["_law_bag", "_law_many"]
  d__law_bags : DefAt K mg "_law_bags" s__law_bags ["_law_script", "_law_most"]
  d__law_same : DefAt K mg "_law_same" s__law_same ["_law_a", "_law_b"]
  d__law_moves : DefAt K mg "_law_moves" s__law_moves ["_law_bag", "_law_bound"]
  d__law_rings : DefAt K mg "_law_rings" s__law_rings ["_law_table"]
  d__law_done_by : DefAt K mg "_law_done_by" s__law_done_by ["_law_table", "_law_steps"]
section
variable {P : Program} {w : World} {K : PySem.W.Frag} {mg : Str → Option Value} {base : Heap}
theorem F_is_within (T : Txt K mg) : FnD P w K mg base 1 "is_within" 3 m_is_within := fnD (k := 0) T.d_is_within sc_is_within rfl rfl fun f cdv A outer s H E hr => (ss_one (s_ret (d_and (d_callB call_isi rdc_isi rfl T.z_isinstance bb_isinstance (ad_cons (d_var 0 rfl (by first | exact Or.inl rfl | exact Or.inr (Or.inl rfl) | exact Or.inr (Or.inr rfl))) (ad_cons (d_ty rfl T.z_int bb_int) ad_nil rfl) rfl) rfl rfl) (d_and (d_not (d_callB call_isi rdc_isi rfl T.z_isinstance bb_isinstance (ad_cons (d_var 0 rfl (by first | exact Or.inl rfl | exact Or.inr (Or.inl rfl) | exact Or.inr (Or.inr rfl))) (ad_cons (d_ty rfl T.z_bool bb_bool) ad_nil rfl) rfl) rfl rfl)) (d_one (d_chain op_le rd_le op_le rd_le (d_var 1 rfl (by first | exact Or.inl rfl | exact Or.inr (Or.inl rfl) | exact Or.inr (Or.inr rfl))) (d_var 0 rfl (by first | exact Or.inl rfl | exact Or.inr (Or.inl rfl) | exact Or.inr (Or.inr rfl))) (d_var 2 rfl (by first | exact Or.inl rfl | exact Or.inr (Or.inl rfl) | exact Or.inr (Or.inr rfl))) (by with_unfolding_all rfl)))))))
theorem F_rises (T : Txt K mg) : FnD P w K mg base 1 "rises" 1 m_rises := fnD (k := 0) T.d_rises sc_rises rfl rfl fun f cdv A outer s H E hr => (ss_one (s_ret (d_callB (cr_all rfl) rdc_all rfl T.z_all bb_all (ad_cons (PF.pd (f_lc [("one", 1), ("other", 2)] rfl sc_rises.nd (i_zip rfl T.z_zip (ad_cons (d_var 0 rfl (by first | exact Or.inl rfl | exact Or.inr (Or.inl rfl) | exact Or.inr (Or.inr rfl))) (ad_cons (d_sl (d_var 0 rfl (by first | exact Or.inl rfl | exact Or.inr (Or.inl rfl) | exact Or.inr (Or.inr rfl))) (od_some d_int) od_none) ad_nil rfl) rfl) rfl rfl) (by kernel_rfl) (fun _ _ _ _ _ => (g_tup rfl (gs_cons (g_name 1 sc_rises.nd rfl (by first | exact Or.inl rfl | exact Or.inr rfl) (by first | exact Or.inl rfl | exact Or.inr rfl)) (gs_cons (g_name 2 sc_rises.nd rfl (by first | exact Or.inl rfl | exact Or.inr rfl) (by first | exact Or.inl rfl | exact Or.inr rfl)) gs_nil rfl) rfl) rfl rfl)) (by decide) (fun _ _ _ _ _ => ts_nil) (fun _ _ _ _ _ => (d_cmp op_lt rd_lt (d_var 1 rfl (by first | exact Or.inl rfl | exact Or.inr (Or.inl rfl) | exact Or.inr (Or.inr rfl))) (d_var 2 rfl (by first | exact Or.inl rfl | exact Or.inr (Or.inl rfl) | exact Or.inr (Or.inr rfl))) (nomark _))) (by intro _; rfl))) ad_nil rfl) rfl rfl)))
theorem F_look_at_size (T : Txt K mg) : FnD P w K mg base 2 "look_at_size" 1 m_look_at_size := fnD (k := 1) T.d_look_at_size sc_look_at_size rfl rfl fun f cdv A outer s H E hr => (ss_one (s_if (b_not (b_val (d_call (F_is_within T) (hr.mono (by decide)) rfl passF (ar_v (d_var 0 rfl (by first | exact Or.inl rfl | exact Or.inr (Or.inl rfl) | exact Or.inr (Or.inr rfl))) (ar_v d_int (ar_v d_int ar_nil rfl) rfl) rfl) rfl rfl rfl) (by intro _; rfl))) (ss_one (s_raiseX rfl takesF T.x_InvalidSize rfl)) ss_nil))
theorem F_is_pair (T : Txt K mg) : FnD P w K mg base 2 "is_pair" 2 m_is_pair := fnD (k := 1) T.d_is_pair sc_is_pair rfl rfl fun f cdv A outer s H E hr => (ss_one (s_ret (d_and (d_callB call_isi rdc_isi rfl T.z_isinstance bb_isinstance (ad_cons (d_var 1 rfl (by first | exact Or.inl rfl | exact Or.inr (Or.inl rfl) | exact Or.inr (Or.inr rfl))) (ad_cons (d_ty rfl T.z_tuple bb_tuple) ad_nil rfl) rfl) rfl rfl) (d_and (d_cmp (op_eqD hr.units) rd_eq (d_callB call_len2 rdc_len rfl T.z_len bb_len (ad_cons (d_var 1 rfl (by first | exact Or.inl rfl | exact Or.inr (Or.inl rfl) | exact Or.inr (Or.inr rfl))) ad_nil rfl) rfl rfl) d_int (nomark _)) (d_one (d_callB (cr_all rfl) rdc_all rfl T.z_all bb_all (ad_cons (PF.pd (f_lc [("part", 2)] rfl sc_is_pair.nd (i_seq (d_var 1 rfl (by first | exact Or.inl rfl | exact Or.inr (Or.inl rfl) | exact Or.inr (Or.inr rfl)))) (by kernel_rfl) (fun _ _ _ _ _ => (g_name 2 sc_is_pair.nd rfl (by first | exact Or.inl rfl | exact Or.inr rfl) (by first | exact Or.inl rfl | exact Or.inr rfl))) (by decide) (fun _ _ _ _ _ => ts_nil) (fun _ _ _ _ _ => (d_call (F_is_within T) (hr.mono (by decide)) rfl passL (ar_v (d_var 2 rfl (by first | exact Or.inl rfl | exact Or.inr (Or.inl rfl) | exact Or.inr (Or.inr rfl))) (ar_v d_int (ar_v (d_op op_sub rd_sub (d_var 0 rfl (by first | exact Or.inl rfl | exact Or.inr (Or.inl rfl) | exact Or.inr (Or.inr rfl))) d_int) ar_nil rfl) rfl) rfl) rfl rfl rfl)) (by intro _; rfl))) ad_nil rfl) rfl rfl))))))
theorem F_are_moves (T : Txt K mg) : FnD P w K mg base 3 "are_moves" 2 m_are_moves := fnD (k := 2) T.d_are_moves sc_are_moves rfl rfl fun f cdv A outer s H E hr => (ss_cons (s_if (PBW.pb (b_or (b_not (b_val (d_callB call_isi rdc_isi rfl T.z_isinstance bb_isinstance (ad_cons (d_var 1 rfl (by first | exact Or.inl rfl | exact Or.inr (Or.inl rfl) | exact Or.inr (Or.inr rfl))) (ad_cons (d_ty rfl T.z_tuple bb_tuple) ad_nil rfl) rfl) rfl rfl) (by intro _; rfl))) (b_or (b_cmp op_gt rd_gt (d_callB call_len2 rdc_len rfl T.z_len bb_len (ad_cons (d_var 1 rfl (by first | exact Or.inl rfl | exact Or.inr (Or.inl rfl) | exact Or.inr (Or.inr rfl))) ad_nil rfl) rfl rfl) (d_var 0 rfl (by first | exact Or.inl rfl | exact Or.inr (Or.inl rfl) | exact Or.inr (Or.inr rfl))) (nomark _)) (b_or1 (b_not (b_val (d_callB (cr_all rfl) rdc_all rfl T.z_all bb_all (ad_cons (PF.pd (f_lc [("pair", 2)] rfl sc_are_moves.nd (i_seq (d_var 1 rfl (by first | exact Or.inl rfl | exact Or.inr (Or.inl rfl) | exact Or.inr (Or.inr rfl)))) (by kernel_rfl) (fun _ _ _ _ _ => (g_name 2 sc_are_moves.nd rfl (by first | exact Or.inl rfl | exact Or.inr rfl) (by first | exact Or.inl rfl | exact Or.inr rfl))) (by decide) (fun _ _ _ _ _ => ts_nil) (fun _ _ _ _ _ => (d_call (F_is_pair T) (hr.mono (by decide)) rfl passL (ar_v (d_var 0 rfl (by first | exact Or.inl rfl | exact Or.inr (Or.inl rfl) | exact Or.inr (Or.inr rfl))) (ar_v (d_var 2 rfl (by first | exact Or.inl rfl | exact Or.inr (Or.inl rfl) | exact Or.inr (Or.inr rfl))) ar_nil rfl) rfl) rfl rfl rfl)) (by intro _; rfl))) ad_nil rfl) rfl rfl) (by intro _; rfl))))))) (ss_one (s_ret d_bl)) ss_nil) (ss_one (s_ret (d_and (d_call (F_rises T) (hr.mono (by decide)) rfl passF (ar_v (PF.pd (f_lc [("pair", 2)] rfl sc_are_moves.nd (i_seq (d_var 1 rfl (by first | exact Or.inl rfl | exact Or.inr (Or.inl rfl) | exact Or.inr (Or.inr rfl)))) (by kernel_rfl) (fun _ _ _ _ _ => (g_name 2 sc_are_moves.nd rfl (by first | exact Or.inl rfl | exact Or.inr rfl) (by first | exact Or.inl rfl | exact Or.inr rfl))) (by decide) (fun _ _ _ _ _ => ts_nil) (fun _ _ _ _ _ => (d_ix hr.units (d_var 2 rfl (by first | exact Or.inl rfl | exact Or.inr (Or.inl rfl) | exact Or.inr (Or.inr rfl))) d_int (fun _ _ => rfl))) (by intro _; rfl))) ar_nil rfl) rfl rfl rfl) (d_one (d_cmp (op_eqD hr.units) rd_eq (d_lenSet rfl T.z_len rfl T.z_set (PF.pd (f_lc [("pair", 2)] rfl sc_are_moves.nd (i_seq (d_var 1 rfl (by first | exact Or.inl rfl | exact Or.inr (Or.inl rfl) | exact Or.inr (Or.inr rfl)))) (by kernel_rfl) (fun _ _ _ _ _ => (g_name 2 sc_are_moves.nd rfl (by first | exact Or.inl rfl | exact Or.inr rfl) (by first | exact Or.inl rfl | exact Or.inr rfl))) (by decide) (fun _ _ _ _ _ => ts_nil) (fun _ _ _ _ _ => (d_ix hr.units (d_var 2 rfl (by first | exact Or.inl rfl | exact Or.inr (Or.inl rfl) | exact Or.inr (Or.inr rfl))) d_int (fun _ _ => rfl))) (by intro _; rfl))) rfl rfl) (d_callB call_len2 rdc_len rfl T.z_len bb_len (ad_cons (d_var 1 rfl (by first | exact Or.inl rfl | exact Or.inr (Or.inl rfl) | exact Or.inr (Or.inr rfl))) ad_nil rfl) rfl rfl) (nomark _)))))))
theorem F_look_at_moves (T : Txt K mg) : FnD P w K mg base 4 "look_at_moves" 2 m_look_at_moves := fnD (k := 3) T.d_look_at_moves sc_look_at_moves rfl rfl fun f cdv A outer s H E hr => (ss_one (s_if (b_not (b_val (d_call (F_are_moves T) (hr.mono (by decide)) rfl passF (ar_v (d_var 0 rfl (by first | exact Or.inl rfl | exact Or.inr (Or.inl rfl) | exact Or.inr (Or.inr rfl))) (ar_v (d_var 1 rfl (by first | exact Or.inl rfl | exact Or.inr (Or.inl rfl) | exact Or.inr (Or.inr rfl))) ar_nil rfl) rfl) rfl rfl rfl) (by intro _; rfl))) (ss_one (s_raiseX rfl takesF T.x_InvalidMoves rfl)) ss_nil))
theorem F_stepped (T : Txt K mg) : FnD P w K mg base 1 "stepped" 2 m_stepped := fnD (k := 0) T.d_stepped sc_stepped rfl rfl fun f cdv A outer s H E hr => (ss_cons (s_asg (d_var 1 rfl (by first | exact Or.inl rfl | exact Or.inr (Or.inl rfl) | exact Or.inr (Or.inr rfl))) (g_tup rfl (gs_cons (g_name 2 sc_stepped.nd rfl (by first | exact Or.inl rfl | exact Or.inr rfl) (by first | exact Or.inl rfl | exact Or.inr rfl)) (gs_cons (g_name 3 sc_stepped.nd rfl (by first | exact Or.inl rfl | exact Or.inr rfl) (by first | exact Or.inl rfl | exact Or.inr rfl)) gs_nil rfl) rfl) rfl rfl) rfl rfl rfl) (ss_cons (s_if (PBW.pb (b_or (b_cmp op_notIn_seq rd_notIn (d_var 2 rfl (by first | exact Or.inl rfl | exact Or.inr (Or.inl rfl) | exact Or.inr (Or.inr rfl))) (d_var 0 rfl (by first | exact Or.inl rfl | exact Or.inr (Or.inl rfl) | exact Or.inr (Or.inr rfl))) (by with_unfolding_all rfl)) (b_or1 (b_cmp op_in_seq rd_in (d_var 3 rfl (by first | exact Or.inl rfl | exact Or.inr (Or.inl rfl) | exact Or.inr (Or.inr rfl))) (d_var 0 rfl (by first | exact Or.inl rfl | exact Or.inr (Or.inl rfl) | exact Or.inr (Or.inr rfl))) (by with_unfolding_all rfl))))) (ss_one (s_ret d_non)) ss_nil) (ss_one (s_ret (d_callTy call_tupX rdc_tup rfl T.z_tuple bb_tuple (ad_cons (PF.pd (f_lc [("number", 4)] rfl sc_stepped.nd (i_seq (d_var 0 rfl (by first | exact Or.inl rfl | exact Or.inr (Or.inl rfl) | exact Or.inr (Or.inr rfl)))) (by kernel_rfl) (fun _ _ _ _ _ => (g_name 4 sc_stepped.nd rfl (by first | exact Or.inl rfl | exact Or.inr rfl) (by first | exact Or.inl rfl | exact Or.inr rfl))) (by decide) (fun _ _ _ _ _ => ts_nil) (fun _ _ _ _ _ => (d_if (b_cmp (op_eqD hr.units) rd_eq (d_var 4 rfl (by first | exact Or.inl rfl | exact Or.inr (Or.inl rfl) | exact Or.inr (Or.inr rfl))) (d_var 2 rfl (by first | exact Or.inl rfl | exact Or.inr (Or.inl rfl) | exact Or.inr (Or.inr rfl))) (nomark _)) (d_var 3 rfl (by first | exact Or.inl rfl | exact Or.inr (Or.inl rfl) | exact Or.inr (Or.inr rfl))) (d_var 4 rfl (by first | exact Or.inl rfl | exact Or.inr (Or.inl rfl) | exact Or.inr (Or.inr rfl))))) (by intro _; rfl))) ad_nil rfl) rfl rfl)))))
theorem F_first_and_last (T : Txt K mg) : FnD P w K mg base 1 "first_and_last" 1 m_first_and_last := fnD (k := 0) T.d_first_and_last sc_first_and_last rfl rfl fun f cdv A outer s H E hr => (ss_one (s_ret (d_tup (ad_cons (d_callTy call_tupX rdc_tup rfl T.z_tuple bb_tuple (ad_cons (PF.pd (f_lc [("old", 1), ("new", 2)] rfl sc_first_and_last.nd (i_seq (d_var 0 rfl (by first | exact Or.inl rfl | exact Or.inr (Or.inl rfl) | exact Or.inr (Or.inr rfl)))) (by kernel_rfl) (fun _ _ _ _ _ => (g_tup rfl (gs_cons (g_name 1 sc_first_and_last.nd rfl (by first | exact Or.inl rfl | exact Or.inr rfl) (by first | exact Or.inl rfl | exact Or.inr rfl)) (gs_cons (g_name 2 sc_first_and_last.nd rfl (by first | exact Or.inl rfl | exact Or.inr rfl) (by first | exact Or.inl rfl | exact Or.inr rfl)) gs_nil rfl) rfl) rfl rfl)) (by decide) (fun _ _ _ _ _ => ts_nil) (fun _ _ _ _ _ => (d_var 1 rfl (by first | exact Or.inl rfl | exact Or.inr (Or.inl rfl) | exact Or.inr (Or.inr rfl)))) (by intro _; rfl))) ad_nil rfl) rfl rfl) (ad_cons (d_callTy call_tupX rdc_tup rfl T.z_tuple bb_tuple (ad_cons (PF.pd (f_lc [("old", 1), ("new", 2)] rfl sc_first_and_last.nd (i_seq (d_var 0 rfl (by first | exact Or.inl rfl | exact Or.inr (Or.inl rfl) | exact Or.inr (Or.inr rfl)))) (by kernel_rfl) (fun _ _ _ _ _ => (g_tup rfl (gs_cons (g_name 1 sc_first_and_last.nd rfl (by first | exact Or.inl rfl | exact Or.inr rfl) (by first | exact Or.inl rfl | exact Or.inr rfl)) (gs_cons (g_name 2 sc_first_and_last.nd rfl (by first | exact Or.inl rfl | exact Or.inr rfl) (by first | exact Or.inl rfl | exact Or.inr rfl)) gs_nil rfl) rfl) rfl rfl)) (by decide) (fun _ _ _ _ _ => ts_nil) (fun _ _ _ _ _ => (d_var 2 rfl (by first | exact Or.inl rfl | exact Or.inr (Or.inl rfl) | exact Or.inr (Or.inr rfl)))) (by intro _; rfl))) ad_nil rfl) rfl rfl) ad_nil rfl) rfl))))
theorem F_shortest_steps (T : Txt K mg) : FnD P w K mg base 2 "shortest_steps" 2 m_shortest_steps := fnD (k := 1) T.d_shortest_steps sc_shortest_steps rfl rfl fun f cdv A outer s H E hr => (ss_cons (s_asg (d_call (F_first_and_last T) (hr.mono (by decide)) rfl passF (ar_v (d_var 1 rfl (by first | exact Or.inl rfl | exact Or.inr (Or.inl rfl) | exact Or.inr (Or.inr rfl))) ar_nil rfl) rfl rfl rfl) (g_tup rfl (gs_cons (g_name 2 sc_shortest_steps.nd rfl (by first | exact Or.inl rfl | exact Or.inr rfl) (by first | exact Or.inl rfl | exact Or.inr rfl)) (gs_cons (g_name 3 sc_shortest_steps.nd rfl (by first | exact Or.inl rfl | exact Or.inr rfl) (by first | exact Or.inl rfl | exact Or.inr rfl)) gs_nil rfl) rfl) rfl rfl) rfl rfl rfl) (ss_cons (s_parNN3 4 5 6 rfl sc_shortest_steps.nd rfl rfl rfl (by decide) (by decide) (by decide) rfl rfl rfl (f_disp1N hr.units (d_var 2 rfl (by first | exact Or.inl rfl | exact Or.inr (Or.inl rfl) | exact Or.inr (Or.inr rfl))) (d_tup ad_nil)) (f_lst (ad_cons (d_var 2 rfl (by first | exact Or.inl rfl | exact Or.inr (Or.inl rfl) | exact Or.inr (Or.inr rfl))) ad_nil rfl)) d_int rfl rfl rfl rfl rfl) (ss_cons (s_while nW ownF (b_cmp op_lt rd_lt (d_var 6 rfl (by first | exact Or.inl rfl | exact Or.inr (Or.inl rfl) | exact Or.inr (Or.inr rfl))) (d_lenO 5 rfl (by first | exact Or.inl rfl | exact Or.inr (Or.inl rfl) | exact Or.inr (Or.inr rfl)) rfl T.z_len bb_len rfl rfl) (nomark _)) (ss_cons (s_set 7 sc_shortest_steps.nd rfl (by first | exact Or.inl rfl | exact Or.inr rfl) (by first | exact Or.inl rfl | exact Or.inr rfl) (d_ixO 5 rfl (by first | exact Or.inl rfl | exact Or.inr (Or.inl rfl) | exact Or.inr (Or.inr rfl)) (d_var 6 rfl (by first | exact Or.inl rfl | exact Or.inr (Or.inl rfl) | exact Or.inr (Or.inr rfl))) (fun _ _ => rfl)) rfl) (ss_cons (s_set 6 sc_shortest_steps.nd rfl (by first | exact Or.inl rfl | exact Or.inr rfl) (by first | exact Or.inl rfl | exact Or.inr rfl) (d_op op_addA rd_add (d_var 6 rfl (by first | exact Or.inl rfl | exact Or.inr (Or.inl rfl) | exact Or.inr (Or.inr rfl))) d_int) rfl) (ss_cons (s_if (b_cmp (op_eqD hr.units) rd_eq (d_var 7 rfl (by first | exact Or.inl rfl | exact Or.inr (Or.inl rfl) | exact Or.inr (Or.inr rfl))) (d_var 3 rfl (by first | exact Or.inl rfl | exact Or.inr (Or.inl rfl) | exact Or.inr (Or.inr rfl))) (nomark _)) (ss_one (s_ret (d_ixNO 4 hr.units rfl (by first | exact Or.inl rfl | exact Or.inr (Or.inl rfl) | exact Or.inr (Or.inr rfl)) (d_var 7 rfl (by first | exact Or.inl rfl | exact Or.inr (Or.inl rfl) | exact Or.inr (Or.inr rfl))) (fun _ _ => rfl)))) ss_nil) (ss_one (s_for ownF rfl (i_seq (d_var 7 rfl (by first | exact Or.inl rfl | exact Or.inr (Or.inl rfl) | exact Or.inr (Or.inr rfl)))) (g_name 8 sc_shortest_steps.nd rfl (by first | exact Or.inl rfl | exact Or.inr rfl) (by first | exact Or.inl rfl | exact Or.inr rfl)) (ss_one (s_for ownF rfl (i_rng1 rfl T.z_range (ad_cons (d_var 0 rfl (by first | exact Or.inl rfl | exact Or.inr (Or.inl rfl) | exact Or.inr (Or.inr rfl))) ad_nil rfl) rfl) (g_name 9 sc_shortest_steps.nd rfl (by first | exact Or.inl rfl | exact Or.inr rfl) (by first | exact Or.inl rfl | exact Or.inr rfl)) (ss_cons (s_set 10 sc_shortest_steps.nd rfl (by first | exact Or.inl rfl | exact Or.inr rfl) (by first | exact Or.inl rfl | exact Or.inr rfl) (d_call (F_stepped T) (hr.mono (by decide)) rfl passF (ar_v (d_var 7 rfl (by first | exact Or.inl rfl | exact Or.inr (Or.inl rfl) | exact Or.inr (Or.inr rfl))) (ar_v (d_tup (ad_cons (d_var 8 rfl (by first | exact Or.inl rfl | exact Or.inr (Or.inl rfl) | exact Or.inr (Or.inr rfl))) (ad_cons (d_var 9 rfl (by first | exact Or.inl rfl | exact Or.inr (Or.inl rfl) | exact Or.inr (Or.inr rfl))) ad_nil rfl) rfl)) ar_nil rfl) rfl) rfl rfl rfl) rfl) (ss_one (s_if (PBW.pb (b_and (b_cmp op_isNotA rd_isNot (d_var 10 rfl (by first | exact Or.inl rfl | exact Or.inr (Or.inl rfl) | exact Or.inr (Or.inr rfl))) d_non (nomark _)) (b_and1 (b_notInNO 4 hr.units rfl (by first | exact Or.inl rfl | exact Or.inr (Or.inl rfl) | exact Or.inr (Or.inr rfl)) (d_var 10 rfl (by first | exact Or.inl rfl | exact Or.inr (Or.inl rfl) | exact Or.inr (Or.inr rfl))) (by with_unfolding_all rfl))))) (ss_cons (s_setN 4 hr.units rfl (by first | exact Or.inl rfl | exact Or.inr (Or.inl rfl) | exact Or.inr (Or.inr rfl)) (d_var 10 rfl (by first | exact Or.inl rfl | exact Or.inr (Or.inl rfl) | exact Or.inr (Or.inr rfl))) (d_op op_addA rd_add (d_ixNO 4 hr.units rfl (by first | exact Or.inl rfl | exact Or.inr (Or.inl rfl) | exact Or.inr (Or.inr rfl)) (d_var 7 rfl (by first | exact Or.inl rfl | exact Or.inr (Or.inl rfl) | exact Or.inr (Or.inr rfl))) (fun _ _ => rfl)) (d_tup (ad_cons (d_tup (ad_cons (d_var 8 rfl (by first | exact Or.inl rfl | exact Or.inr (Or.inl rfl) | exact Or.inr (Or.inr rfl))) (ad_cons (d_var 9 rfl (by first | exact Or.inl rfl | exact Or.inr (Or.inl rfl) | exact Or.inr (Or.inr rfl))) ad_nil rfl) rfl)) ad_nil rfl))) (by intro _; rfl) rfl rfl rfl) (ss_one (s_appO 5 rfl (by first | exact Or.inl rfl | exact Or.inr (Or.inl rfl) | exact Or.inr (Or.inr rfl)) (d_var 10 rfl (by first | exact Or.inl rfl | exact Or.inr (Or.inl rfl) | exact Or.inr (Or.inr rfl))) rfl rfl rfl rfl rfl rfl))) ss_nil))) (by intro _; rfl))) (by intro _; rfl))))))) (ss_thaw 4 (ss_thaw 5 (ss_one (s_ret d_non)))))))
theorem F_fewest_steps (T : Txt K mg) : FnD P w K mg base 5 "fewest_steps" 2 m_fewest_steps := fnD (k := 4) T.d_fewest_steps sc_fewest_steps rfl rfl fun f cdv A outer s H E hr => (ss_cons (s_expr (d_call (F_look_at_size T) (hr.mono (by decide)) rfl passF (ar_v (d_var 0 rfl (by first | exact Or.inl rfl | exact Or.inr (Or.inl rfl) | exact Or.inr (Or.inr rfl))) ar_nil rfl) rfl rfl rfl) rfl) (ss_cons (s_expr (d_call (F_look_at_moves T) (hr.mono (by decide)) rfl passF (ar_v (d_var 0 rfl (by first | exact Or.inl rfl | exact Or.inr (Or.inl rfl) | exact Or.inr (Or.inr rfl))) (ar_v (d_var 1 rfl (by first | exact Or.inl rfl | exact Or.inr (Or.inl rfl) | exact Or.inr (Or.inr rfl))) ar_nil rfl) rfl) rfl rfl rfl) rfl) (ss_cons (s_set 2 sc_fewest_steps.nd rfl (by first | exact Or.inl rfl | exact Or.inr rfl) (by first | exact Or.inl rfl | exact Or.inr rfl) (d_call (F_shortest_steps T) (hr.mono (by decide)) rfl passF (ar_v (d_var 0 rfl (by first | exact Or.inl rfl | exact Or.inr (Or.inl rfl) | exact Or.inr (Or.inr rfl))) (ar_v (d_var 1 rfl (by first | exact Or.inl rfl | exact Or.inr (Or.inl rfl) | exact Or.inr (Or.inr rfl))) ar_nil rfl) rfl) rfl rfl rfl) rfl) (ss_one (s_ret (d_if (b_cmp op_isA rd_is (d_var 2 rfl (by first | exact Or.inl rfl | exact Or.inr (Or.inl rfl) | exact Or.inr (Or.inr rfl))) d_non (nomark _)) d_non (d_callB call_len2 rdc_len rfl T.z_len bb_len (ad_cons (d_var 2 rfl (by first | exact Or.inl rfl | exact Or.inr (Or.inl rfl) | exact Or.inr (Or.inr rfl))) ad_nil rfl) rfl rfl)))))))
theorem F_do_them (T : Txt K mg) : FnD P w K mg base 5 "do_them" 3 m_do_them := fnD (k := 4) T.d_do_them sc_do_them rfl rfl fun f cdv A outer s H E hr => (ss_cons (s_expr (d_call (F_look_at_size T) (hr.mono (by decide)) rfl passF (ar_v (d_var 0 rfl (by first | exact Or.inl rfl | exact Or.inr (Or.inl rfl) | exact Or.inr (Or.inr rfl))) ar_nil rfl) rfl rfl rfl) rfl) (ss_cons (s_expr (d_call (F_look_at_moves T) (hr.mono (by decide)) rfl passF (ar_v (d_var 0 rfl (by first | exact Or.inl rfl | exact Or.inr (Or.inl rfl) | exact Or.inr (Or.inr rfl))) (ar_v (d_var 1 rfl (by first | exact Or.inl rfl | exact Or.inr (Or.inl rfl) | exact Or.inr (Or.inr rfl))) ar_nil rfl) rfl) rfl rfl rfl) rfl) (ss_cons (s_if (PBW.pb (b_or (b_not (b_val (d_callB call_isi rdc_isi rfl T.z_isinstance bb_isinstance (ad_cons (d_var 2 rfl (by first | exact Or.inl rfl | exact Or.inr (Or.inl rfl) | exact Or.inr (Or.inr rfl))) (ad_cons (d_ty rfl T.z_tuple bb_tuple) ad_nil rfl) rfl) rfl rfl) (by intro _; rfl))) (b_or (b_cmp op_gt rd_gt (d_callB call_len2 rdc_len rfl T.z_len bb_len (ad_cons (d_var 2 rfl (by first | exact Or.inl rfl | exact Or.inr (Or.inl rfl) | exact Or.inr (Or.inr rfl))) ad_nil rfl) rfl rfl) (d_glb rfl T.c_MOST_STEPS) (nomark _)) (b_or1 (b_not (b_val (d_callB (cr_all rfl) rdc_all rfl T.z_all bb_all (ad_cons (PF.pd (f_lc [("step", 3)] rfl sc_do_them.nd (i_seq (d_var 2 rfl (by first | exact Or.inl rfl | exact Or.inr (Or.inl rfl) | exact Or.inr (Or.inr rfl)))) (by kernel_rfl) (fun _ _ _ _ _ => (g_name 3 sc_do_them.nd rfl (by first | exact Or.inl rfl | exact Or.inr rfl) (by first | exact Or.inl rfl | exact Or.inr rfl))) (by decide) (fun _ _ _ _ _ => ts_nil) (fun _ _ _ _ _ => (d_call (F_is_pair T) (hr.mono (by decide)) rfl passL (ar_v (d_var 0 rfl (by first | exact Or.inl rfl | exact Or.inr (Or.inl rfl) | exact Or.inr (Or.inr rfl))) (ar_v (d_var 3 rfl (by first | exact Or.inl rfl | exact Or.inr (Or.inl rfl) | exact Or.inr (Or.inr rfl))) ar_nil rfl) rfl) rfl rfl rfl)) (by intro _; rfl))) ad_nil rfl) rfl rfl) (by intro _; rfl))))))) (ss_one (s_raiseX rfl takesF T.x_InvalidSteps rfl)) ss_nil) (ss_cons (s_asg (d_call (F_first_and_last T) (hr.mono (by decide)) rfl passF (ar_v (d_var 1 rfl (by first | exact Or.inl rfl | exact Or.inr (Or.inl rfl) | exact Or.inr (Or.inr rfl))) ar_nil rfl) rfl rfl rfl) (g_tup rfl (gs_cons (g_name 4 sc_do_them.nd rfl (by first | exact Or.inl rfl | exact Or.inr rfl) (by first | exact Or.inl rfl | exact Or.inr rfl)) (gs_cons (g_name 5 sc_do_them.nd rfl (by first | exact Or.inl rfl | exact Or.inr rfl) (by first | exact Or.inl rfl | exact Or.inr rfl)) gs_nil rfl) rfl) rfl rfl) rfl rfl rfl) (ss_cons (s_for ownF rfl (i_seq (d_var 2 rfl (by first | exact Or.inl rfl | exact Or.inr (Or.inl rfl) | exact Or.inr (Or.inr rfl)))) (g_name 3 sc_do_them.nd rfl (by first | exact Or.inl rfl | exact Or.inr rfl) (by first | exact Or.inl rfl | exact Or.inr rfl)) (ss_cons (s_set 4 sc_do_them.nd rfl (by first | exact Or.inl rfl | exact Or.inr rfl) (by first | exact Or.inl rfl | exact Or.inr rfl) (d_call (F_stepped T) (hr.mono (by decide)) rfl passF (ar_v (d_var 4 rfl (by first | exact Or.inl rfl | exact Or.inr (Or.inl rfl) | exact Or.inr (Or.inr rfl))) (ar_v (d_var 3 rfl (by first | exact Or.inl rfl | exact Or.inr (Or.inl rfl) | exact Or.inr (Or.inr rfl))) ar_nil rfl) rfl) rfl rfl rfl) rfl) (ss_one (s_if (b_cmp op_isA rd_is (d_var 4 rfl (by first | exact Or.inl rfl | exact Or.inr (Or.inl rfl) | exact Or.inr (Or.inr rfl))) d_non (nomark _)) (ss_one (s_ret d_bl)) ss_nil))) (by intro _; rfl)) (ss_one (s_ret (d_cmp (op_eqD hr.units) rd_eq (d_var 4 rfl (by first | exact Or.inl rfl | exact Or.inr (Or.inl rfl) | exact Or.inr (Or.inr rfl))) (d_var 5 rfl (by first | exact Or.inl rfl | exact Or.inr (Or.inl rfl) | exact Or.inr (Or.inr rfl))) (nomark _)))))))))
theorem F_steps_for (T : Txt K mg) : FnD P w K mg base 5 "steps_for" 2 m_steps_for := fnD (k := 4) T.d_steps_for sc_steps_for rfl rfl fun f cdv A outer s H E hr => (ss_cons (s_expr (d_call (F_look_at_size T) (hr.mono (by decide)) rfl passF (ar_v (d_var 0 rfl (by first | exact Or.inl rfl | exact Or.inr (Or.inl rfl) | exact Or.inr (Or.inr rfl))) ar_nil rfl) rfl rfl rfl) rfl) (ss_cons (s_expr (d_call (F_look_at_moves T) (hr.mono (by decide)) rfl passF (ar_v (d_var 0 rfl (by first | exact Or.inl rfl | exact Or.inr (Or.inl rfl) | exact Or.inr (Or.inr rfl))) (ar_v (d_var 1 rfl (by first | exact Or.inl rfl | exact Or.inr (Or.inl rfl) | exact Or.inr (Or.inr rfl))) ar_nil rfl) rfl) rfl rfl rfl) rfl) (ss_one (s_ret (d_call (F_shortest_steps T) (hr.mono (by decide)) rfl passF (ar_v (d_var 0 rfl (by first | exact Or.inl rfl | exact Or.inr (Or.inl rfl) | exact Or.inr (Or.inr rfl))) (ar_v (d_var 1 rfl (by first | exact Or.inl rfl | exact Or.inr (Or.inl rfl) | exact Or.inr (Or.inr rfl))) ar_nil rfl) rfl) rfl rfl rfl)))))
theorem F__law_well (T : Txt K mg) : FnD P w K mg base 1 "_law_well" 2 m__law_well := fnD (k := 0) T.d__law_well sc__law_well rfl rfl fun f cdv A outer s H E hr => (ss_cons (s_if (b_cmp op_ge rd_ge (d_var 0 rfl (by first | exact Or.inl rfl | exact Or.inr (Or.inl rfl) | exact Or.inr (Or.inr rfl))) (d_op op_pow rd_pow d_int d_int) (nomark _)) (ss_one (s_ret (PF.pd (f_lst (ad_cons (d_op op_sub rd_sub (d_var 0 rfl (by first | exact Or.inl rfl | exact Or.inr (Or.inl rfl) | exact Or.inr (Or.inr rfl))) (d_op op_pow rd_pow d_int d_int)) (ad_cons (d_op op_mod rd_mod (d_var 0 rfl (by first | exact Or.inl rfl | exact Or.inr (Or.inl rfl) | exact Or.inr (Or.inr rfl))) d_int) (ad_cons (d_var 1 rfl (by first | exact Or.inl rfl | exact Or.inr (Or.inl rfl) | exact Or.inr (Or.inr rfl))) ad_nil rfl) rfl) rfl))))) ss_nil) (ss_one (s_ret (PF.pd (f_lst (ad_cons d_int (ad_cons (d_op op_mod rd_mod (d_var 0 rfl (by first | exact Or.inl rfl | exact Or.inr (Or.inl rfl) | exact Or.inr (Or.inr rfl))) d_int) (ad_cons (d_var 1 rfl (by first | exact Or.inl rfl | exact Or.inr (Or.inl rfl) | exact Or.inr (Or.inr rfl))) ad_nil rfl) rfl) rfl))))))
theorem F__law_take (T : Txt K mg) : FnD P w K mg base 1 "_law_take" 2 m__law_take := fnD (k := 0) T.d__law_take sc__law_take rfl rfl fun f cdv A outer s H E hr => (ss_cons (s_if (b_cmp op_gt rd_gt (d_ixO 0 rfl (by first | exact Or.inl rfl | exact Or.inr (Or.inl rfl) | exact Or.inr (Or.inr rfl)) d_int (fun _ _ => rfl)) d_int (nomark _)) (ss_cons (s_set 2 sc__law_take.nd rfl (by first | exact Or.inl rfl | exact Or.inr rfl) (by first | exact Or.inl rfl | exact Or.inr rfl) (d_op op_mod rd_mod (d_ixO 0 rfl (by first | exact Or.inl rfl | exact Or.inr (Or.inl rfl) | exact Or.inr (Or.inr rfl)) d_int (fun _ _ => rfl)) (d_var 1 rfl (by first | exact Or.inl rfl | exact Or.inr (Or.inl rfl) | exact Or.inr (Or.inr rfl)))) rfl) (ss_cons (s_setO 0 rfl (by first | exact Or.inl rfl | exact Or.inr (Or.inl rfl) | exact Or.inr (Or.inr rfl)) d_int (d_op op_fdiv rd_fdiv (d_ixO 0 rfl (by first | exact Or.inl rfl | exact Or.inr (Or.inl rfl) | exact Or.inr (Or.inr rfl)) d_int (fun _ _ => rfl)) (d_var 1 rfl (by first | exact Or.inl rfl | exact Or.inr (Or.inl rfl) | exact Or.inr (Or.inr rfl)))) (by intro _; rfl) rfl rfl rfl) (ss_one (s_ret (d_var 2 rfl (by first | exact Or.inl rfl | exact Or.inr (Or.inl rfl) | exact Or.inr (Or.inr rfl))))))) ss_nil) (ss_cons (s_setO 0 rfl (by first | exact Or.inl rfl | exact Or.inr (Or.inl rfl) | exact Or.inr (Or.inr rfl)) d_int (d_op op_addA rd_add (d_ixO 0 rfl (by first | exact Or.inl rfl | exact Or.inr (Or.inl rfl) | exact Or.inr (Or.inr rfl)) d_int (fun _ _ => rfl)) d_int) (by intro _; rfl) rfl rfl rfl) (ss_cons (s_set 3 sc__law_take.nd rfl (by first | exact Or.inl rfl | exact Or.inr rfl) (by first | exact Or.inl rfl | exact Or.inr rfl) d_int rfl) (ss_cons (s_set 4 sc__law_take.nd rfl (by first | exact Or.inl rfl | exact Or.inr rfl) (by first | exact Or.inl rfl | exact Or.inr rfl) (d_op op_mod rd_mod (d_op op_addA rd_add (d_ixO 0 rfl (by first | exact Or.inl rfl | exact Or.inr (Or.inl rfl) | exact Or.inr (Or.inr rfl)) d_int (fun _ _ => rfl)) (d_op op_mulA rd_mul d_int (d_ixO 0 rfl (by first | exact Or.inl rfl | exact Or.inr (Or.inl rfl) | exact Or.inr (Or.inr rfl)) d_int (fun _ _ => rfl)))) (d_var 3 rfl (by first | exact Or.inl rfl | exact Or.inr (Or.inl rfl) | exact Or.inr (Or.inr rfl)))) rfl) (ss_cons (s_set 4 sc__law_take.nd rfl (by first | exact Or.inl rfl | exact Or.inr rfl) (by first | exact Or.inl rfl | exact Or.inr rfl) (d_op op_mod rd_mod (d_op op_addA rd_add (d_op op_addA rd_add (d_op op_mulA rd_mul (d_var 4 rfl (by first | exact Or.inl rfl | exact Or.inr (Or.inl rfl) | exact Or.inr (Or.inr rfl))) (d_var 4 rfl (by first | exact Or.inl rfl | exact Or.inr (Or.inl rfl) | exact Or.inr (Or.inr rfl)))) (d_op op_mulA rd_mul d_int (d_op op_pow rd_pow (d_ixO 0 rfl (by first | exact Or.inl rfl | exact Or.inr (Or.inl rfl) | exact Or.inr (Or.inr rfl)) d_int (fun _ _ => rfl)) d_int))) d_int) (d_var 3 rfl (by first | exact Or.inl rfl | exact Or.inr (Or.inl rfl) | exact Or.inr (Or.inr rfl)))) rfl) (ss_one (s_ret (d_op op_mod rd_mod (d_op op_fdiv rd_fdiv (d_op op_mod rd_mod (d_op op_pow rd_pow (d_var 4 rfl (by first | exact Or.inl rfl | exact Or.inr (Or.inl rfl) | exact Or.inr (Or.inr rfl))) d_int) (d_var 3 rfl (by first | exact Or.inl rfl | exact Or.inr (Or.inl rfl) | exact Or.inr (Or.inr rfl)))) d_int) (d_var 1 rfl (by first | exact Or.inl rfl | exact Or.inr (Or.inl rfl) | exact Or.inr (Or.inr rfl)))))))))))
theorem F__law_bags (T : Txt K mg) : FnD P w K mg base 2 "_law_bags" 2 m__law_bags := fnD (k := 1) T.d__law_bags sc__law_bags rfl rfl fun f cdv A outer s H E hr => (ss_one (s_ret (PF.pd (f_lc [("_law_k", 2), ("_law_cell", 3)] rfl sc__law_bags.nd (i_enumA rfl T.z_enumerate (ad_cons (d_op op_addA rd_add (d_sl (d_var 0 rfl (by first | exact Or.inl rfl | exact Or.inr (Or.inl rfl) | exact Or.inr (Or.inr rfl))) od_none (od_some (d_var 1 rfl (by first | exact Or.inl rfl | exact Or.inr (Or.inl rfl) | exact Or.inr (Or.inr rfl))))) (PF.pd (f_lst (ad_cons d_int ad_nil rfl)))) ad_nil rfl) rfl) (by kernel_rfl) (fun _ _ _ _ _ => (g_tup rfl (gs_cons (g_name 2 sc__law_bags.nd rfl (by first | exact Or.inl rfl | exact Or.inr rfl) (by first | exact Or.inl rfl | exact Or.inr rfl)) (gs_cons (g_name 3 sc__law_bags.nd rfl (by first | exact Or.inl rfl | exact Or.inr rfl) (by first | exact Or.inl rfl | exact Or.inr rfl)) gs_nil rfl) rfl) rfl rfl)) (by decide) (fun _ _ _ _ _ => ts_nil) (fun _ _ _ _ _ => (d_call (F__law_well T) (hr.mono (by decide)) rfl passL (ar_v (d_var 3 rfl (by first | exact Or.inl rfl | exact Or.inr (Or.inl rfl) | exact Or.inr (Or.inr rfl))) (ar_v (d_op op_mulA rd_mul d_int (d_var 2 rfl (by first | exact Or.inl rfl | exact Or.inr (Or.inl rfl) | exact Or.inr (Or.inr rfl)))) ar_nil rfl) rfl) rfl rfl rfl)) (by intro _; rfl)))))
theorem R__law_same (T : Txt K mg) : ∀ d : Nat, FnD P w K mg base (1 + d) "_law_same" 2 (r__law_same d)
  | 0 => fnD0 T.d__law_same sc__law_same rfl
  | d + 1 => fnD (k := 1 + d) T.d__law_same sc__law_same rfl rfl fun f cdv A outer s H E hr => by
    have Fself := R__law_same T d
    exact (ss_cons (s_if (PBW.pb (b_or (PBW.pb (b_and (b_val (d_callB call_isi rdc_isi rfl T.z_isinstance bb_isinstance (ad_cons (d_var 0 rfl (by first | exact Or.inl rfl | exact Or.inr (Or.inl rfl) | exact Or.inr (Or.inr rfl))) (ad_cons (d_ty rfl T.z_list bb_list) ad_nil rfl) rfl) rfl rfl) (by intro _; rfl)) (b_and1 (b_val (d_callB call_isi rdc_isi rfl T.z_isinstance bb_isinstance (ad_cons (d_var 1 rfl (by first | exact Or.inl rfl | exact Or.inr (Or.inl rfl) | exact Or.inr (Or.inr rfl))) (ad_cons (d_ty rfl T.z_list bb_list) ad_nil rfl) rfl) rfl rfl) (by intro _; rfl))))) (b_or1 (PBW.pb (b_and (b_val (d_callB call_isi rdc_isi rfl T.z_isinstance bb_isinstance (ad_cons (d_var 0 rfl (by first | exact Or.inl rfl | exact Or.inr (Or.inl rfl) | exact Or.inr (Or.inr rfl))) (ad_cons (d_ty rfl T.z_tuple bb_tuple) ad_nil rfl) rfl) rfl rfl) (by intro _; rfl)) (b_and1 (b_val (d_callB call_isi rdc_isi rfl T.z_isinstance bb_isinstance (ad_cons (d_var 1 rfl (by first | exact Or.inl rfl | exact Or.inr (Or.inl rfl) | exact Or.inr (Or.inr rfl))) (ad_cons (d_ty rfl T.z_tuple bb_tuple) ad_nil rfl) rfl) rfl rfl) (by intro _; rfl)))))))) (ss_one (s_ret (d_and (d_cmp (op_eqD hr.units) rd_eq (d_callB call_len2 rdc_len rfl T.z_len bb_len (ad_cons (d_var 0 rfl (by first | exact Or.inl rfl | exact Or.inr (Or.inl rfl) | exact Or.inr (Or.inr rfl))) ad_nil rfl) rfl rfl) (d_callB call_len2 rdc_len rfl T.z_len bb_len (ad_cons (d_var 1 rfl (by first | exact Or.inl rfl | exact Or.inr (Or.inl rfl) | exact Or.inr (Or.inr rfl))) ad_nil rfl) rfl rfl) (nomark _)) (d_one (d_callB (cr_all rfl) rdc_all rfl T.z_all bb_all (ad_cons (PF.pd (f_lc [("_law_x", 2), ("_law_y", 3)] rfl sc__law_same.nd (i_zip rfl T.z_zip (ad_cons (d_var 0 rfl (by first | exact Or.inl rfl | exact Or.inr (Or.inl rfl) | exact Or.inr (Or.inr rfl))) (ad_cons (d_var 1 rfl (by first | exact Or.inl rfl | exact Or.inr (Or.inl rfl) | exact Or.inr (Or.inr rfl))) ad_nil rfl) rfl) rfl rfl) (by kernel_rfl) (fun _ _ _ _ _ => (g_tup rfl (gs_cons (g_name 2 sc__law_same.nd rfl (by first | exact Or.inl rfl | exact Or.inr rfl) (by first | exact Or.inl rfl | exact Or.inr rfl)) (gs_cons (g_name 3 sc__law_same.nd rfl (by first | exact Or.inl rfl | exact Or.inr rfl) (by first | exact Or.inl rfl | exact Or.inr rfl)) gs_nil rfl) rfl) rfl rfl)) (by decide) (fun _ _ _ _ _ => ts_nil) (fun _ _ _ _ _ => (d_call Fself hr rfl passL (ar_v (d_var 2 rfl (by first | exact Or.inl rfl | exact Or.inr (Or.inl rfl) | exact Or.inr (Or.inr rfl))) (ar_v (d_var 3 rfl (by first | exact Or.inl rfl | exact Or.inr (Or.inl rfl) | exact Or.inr (Or.inr rfl))) ar_nil rfl) rfl) rfl rfl rfl)) (by intro _; rfl))) ad_nil rfl) rfl rfl))))) ss_nil) (ss_cons (s_if (PBW.pb (b_or (b_val (d_isiT ["bool", "list", "tuple"] rfl T.z_isinstance bb_isinstance (d_var 0 rfl (by first | exact Or.inl rfl | exact Or.inr (Or.inl rfl) | exact Or.inr (Or.inr rfl))) (pe_tup (pa_tys rfl T.z_bool bb_bool (pa_tys rfl T.z_list bb_list (pa_tys rfl T.z_tuple bb_tuple pa_tys_nil rfl) rfl) rfl)) rfl rfl rfl) (by intro _; rfl)) (b_or1 (b_val (d_isiT ["bool", "list", "tuple"] rfl T.z_isinstance bb_isinstance (d_var 1 rfl (by first | exact Or.inl rfl | exact Or.inr (Or.inl rfl) | exact Or.inr (Or.inr rfl))) (pe_tup (pa_tys rfl T.z_bool bb_bool (pa_tys rfl T.z_list bb_list (pa_tys rfl T.z_tuple bb_tuple pa_tys_nil rfl) rfl) rfl)) rfl rfl rfl) (by intro _; rfl))))) (ss_one (s_ret (d_and (d_callB call_isi rdc_isi rfl T.z_isinstance bb_isinstance (ad_cons (d_var 0 rfl (by first | exact Or.inl rfl | exact Or.inr (Or.inl rfl) | exact Or.inr (Or.inr rfl))) (ad_cons (d_ty rfl T.z_bool bb_bool) ad_nil rfl) rfl) rfl rfl) (d_and (d_callB call_isi rdc_isi rfl T.z_isinstance bb_isinstance (ad_cons (d_var 1 rfl (by first | exact Or.inl rfl | exact Or.inr (Or.inl rfl) | exact Or.inr (Or.inr rfl))) (ad_cons (d_ty rfl T.z_bool bb_bool) ad_nil rfl) rfl) rfl rfl) (d_one (d_cmp (op_eqD hr.units) rd_eq (d_var 0 rfl (by first | exact Or.inl rfl | exact Or.inr (Or.inl rfl) | exact Or.inr (Or.inr rfl))) (d_var 1 rfl (by first | exact Or.inl rfl | exact Or.inr (Or.inl rfl) | exact Or.inr (Or.inr rfl))) (nomark _))))))) ss_nil) (ss_cons (s_if (PBW.pb (b_or (b_val (d_callB call_isi rdc_isi rfl T.z_isinstance bb_isinstance (ad_cons (d_var 0 rfl (by first | exact Or.inl rfl | exact Or.inr (Or.inl rfl) | exact Or.inr (Or.inr rfl))) (ad_cons (d_ty rfl T.z_int bb_int) ad_nil rfl) rfl) rfl rfl) (by intro _; rfl)) (b_or1 (b_val (d_callB call_isi rdc_isi rfl T.z_isinstance bb_isinstance (ad_cons (d_var 1 rfl (by first | exact Or.inl rfl | exact Or.inr (Or.inl rfl) | exact Or.inr (Or.inr rfl))) (ad_cons (d_ty rfl T.z_int bb_int) ad_nil rfl) rfl) rfl rfl) (by intro _; rfl))))) (ss_one (s_ret (d_and (d_callB call_isi rdc_isi rfl T.z_isinstance bb_isinstance (ad_cons (d_var 0 rfl (by first | exact Or.inl rfl | exact Or.inr (Or.inl rfl) | exact Or.inr (Or.inr rfl))) (ad_cons (d_ty rfl T.z_int bb_int) ad_nil rfl) rfl) rfl rfl) (d_and (d_callB call_isi rdc_isi rfl T.z_isinstance bb_isinstance (ad_cons (d_var 1 rfl (by first | exact Or.inl rfl | exact Or.inr (Or.inl rfl) | exact Or.inr (Or.inr rfl))) (ad_cons (d_ty rfl T.z_int bb_int) ad_nil rfl) rfl) rfl rfl) (d_one (d_cmp (op_eqD hr.units) rd_eq (d_var 0 rfl (by first | exact Or.inl rfl | exact Or.inr (Or.inl rfl) | exact Or.inr (Or.inr rfl))) (d_var 1 rfl (by first | exact Or.inl rfl | exact Or.inr (Or.inl rfl) | exact Or.inr (Or.inr rfl))) (nomark _))))))) ss_nil) (ss_cons (s_if (PBW.pb (b_or (b_val (d_callB call_isi rdc_isi rfl T.z_isinstance bb_isinstance (ad_cons (d_var 0 rfl (by first | exact Or.inl rfl | exact Or.inr (Or.inl rfl) | exact Or.inr (Or.inr rfl))) (ad_cons (d_ty rfl T.z_str bb_str) ad_nil rfl) rfl) rfl rfl) (by intro _; rfl)) (b_or1 (b_val (d_callB call_isi rdc_isi rfl T.z_isinstance bb_isinstance (ad_cons (d_var 1 rfl (by first | exact Or.inl rfl | exact Or.inr (Or.inl rfl) | exact Or.inr (Or.inr rfl))) (ad_cons (d_ty rfl T.z_str bb_str) ad_nil rfl) rfl) rfl rfl) (by intro _; rfl))))) (ss_one (s_ret (d_and (d_callB call_isi rdc_isi rfl T.z_isinstance bb_isinstance (ad_cons (d_var 0 rfl (by first | exact Or.inl rfl | exact Or.inr (Or.inl rfl) | exact Or.inr (Or.inr rfl))) (ad_cons (d_ty rfl T.z_str bb_str) ad_nil rfl) rfl) rfl rfl) (d_and (d_callB call_isi rdc_isi rfl T.z_isinstance bb_isinstance (ad_cons (d_var 1 rfl (by first | exact Or.inl rfl | exact Or.inr (Or.inl rfl) | exact Or.inr (Or.inr rfl))) (ad_cons (d_ty rfl T.z_str bb_str) ad_nil rfl) rfl) rfl rfl) (d_one (d_cmp (op_eqD hr.units) rd_eq (d_var 0 rfl (by first | exact Or.inl rfl | exact Or.inr (Or.inl rfl) | exact Or.inr (Or.inr rfl))) (d_var 1 rfl (by first | exact Or.inl rfl | exact Or.inr (Or.inl rfl) | exact Or.inr (Or.inr rfl))) (nomark _))))))) ss_nil) (ss_one (s_ret (d_and (d_cmp op_isA rd_is (d_var 0 rfl (by first | exact Or.inl rfl | exact Or.inr (Or.inl rfl) | exact Or.inr (Or.inr rfl))) d_non (nomark _)) (d_one (d_cmp op_isA rd_is (d_var 1 rfl (by first | exact Or.inl rfl | exact Or.inr (Or.inl rfl) | exact Or.inr (Or.inr rfl))) d_non (nomark _))))))))))
theorem F__law_same (T : Txt K mg) : FnD P w K mg base 9 "_law_same" 2 m__law_same := R__law_same T 8
theorem F__law_moves (T : Txt K mg) : FnD P w K mg base 2 "_law_moves" 2 m__law_moves := fnD (k := 1) T.d__law_moves sc__law_moves rfl rfl fun f cdv A outer s H E hr => (ss_cons (s_parNN 2 3 rfl sc__law_moves.nd rfl rfl (by decide) rfl rfl (f_lstRg rfl T.z_list rfl T.z_range (d_var 1 rfl (by first | exact Or.inl rfl | exact Or.inr (Or.inl rfl) | exact Or.inr (Or.inr rfl))) rfl rfl) (f_lst ad_nil) rfl rfl rfl rfl) (ss_cons (s_for ownF rfl (i_rng1 rfl T.z_range (ad_cons (d_var 1 rfl (by first | exact Or.inl rfl | exact Or.inr (Or.inl rfl) | exact Or.inr (Or.inr rfl))) ad_nil rfl) rfl) (g_name 4 sc__law_moves.nd rfl (by first | exact Or.inl rfl | exact Or.inr rfl) (by first | exact Or.inl rfl | exact Or.inr rfl)) (ss_one (s_if (b_cmp op_gt rd_gt (d_call (F__law_take T) (hr.mono (by decide)) rfl passF (ar_s 0 rfl (by first | exact Or.inl rfl | exact Or.inr (Or.inl rfl) | exact Or.inr (Or.inr rfl)) (ar_v d_int ar_nil rfl) rfl) rfl rfl rfl) d_int (nomark _)) (ss_one (s_appO 3 rfl (by first | exact Or.inl rfl | exact Or.inr (Or.inl rfl) | exact Or.inr (Or.inr rfl)) (d_tup (ad_cons (d_var 4 rfl (by first | exact Or.inl rfl | exact Or.inr (Or.inl rfl) | exact Or.inr (Or.inr rfl))) (ad_cons (d_popO 2 rfl (by first | exact Or.inl rfl | exact Or.inr (Or.inl rfl) | exact Or.inr (Or.inr rfl)) (d_call (F__law_take T) (hr.mono (by decide)) rfl passF (ar_s 0 rfl (by first | exact Or.inl rfl | exact Or.inr (Or.inl rfl) | exact Or.inr (Or.inr rfl)) (ar_v (d_lenO 2 rfl (by first | exact Or.inl rfl | exact Or.inr (Or.inl rfl) | exact Or.inr (Or.inr rfl)) rfl T.z_len bb_len rfl rfl) ar_nil rfl) rfl) rfl rfl rfl) rfl rfl rfl rfl rfl) ad_nil rfl) rfl)) rfl rfl rfl rfl rfl rfl)) ss_nil)) (by intro _; rfl)) (ss_thaw 2 (ss_thaw 3 (ss_one (s_ret (d_callTy call_tupX rdc_tup rfl T.z_tuple bb_tuple (ad_cons (d_var 3 rfl (by first | exact Or.inl rfl | exact Or.inr (Or.inl rfl) | exact Or.inr (Or.inr rfl))) ad_nil rfl) rfl rfl)))))))
theorem F__law_rings (T : Txt K mg) : FnD P w K mg base 1 "_law_rings" 1 m__law_rings := fnD (k := 0) T.d__law_rings sc__law_rings rfl rfl fun f cdv A outer s H E hr => (ss_cons (s_parNew2 1 2 rfl sc__law_rings.nd rfl rfl (by decide) rfl rfl d_int (f_lst ad_nil) rfl rfl rfl rfl) (ss_cons (s_for ownF rfl (i_seq (d_var 0 rfl (by first | exact Or.inl rfl | exact Or.inr (Or.inl rfl) | exact Or.inr (Or.inr rfl)))) (g_name 3 sc__law_rings.nd rfl (by first | exact Or.inl rfl | exact Or.inr rfl) (by first | exact Or.inl rfl | exact Or.inr rfl)) (ss_cons (s_parNew2 4 5 rfl sc__law_rings.nd rfl rfl (by decide) rfl rfl (d_var 3 rfl (by first | exact Or.inl rfl | exact Or.inr (Or.inl rfl) | exact Or.inr (Or.inr rfl))) (f_lst ad_nil) rfl rfl rfl rfl) (ss_cons (s_while nW ownF (PBW.pb (b_and (b_cmp (op_inK hr.units) rd_inK (d_var 4 rfl (by first | exact Or.inl rfl | exact Or.inr (Or.inl rfl) | exact Or.inr (Or.inr rfl))) (d_var 0 rfl (by first | exact Or.inl rfl | exact Or.inr (Or.inl rfl) | exact Or.inr (Or.inr rfl))) (by with_unfolding_all rfl)) (b_and1 (b_notInO 2 rfl (by first | exact Or.inl rfl | exact Or.inr (Or.inl rfl) | exact Or.inr (Or.inr rfl)) (d_var 4 rfl (by first | exact Or.inl rfl | exact Or.inr (Or.inl rfl) | exact Or.inr (Or.inr rfl))) (by with_unfolding_all rfl))))) (ss_cons (s_appO 2 rfl (by first | exact Or.inl rfl | exact Or.inr (Or.inl rfl) | exact Or.inr (Or.inr rfl)) (d_var 4 rfl (by first | exact Or.inl rfl | exact Or.inr (Or.inl rfl) | exact Or.inr (Or.inr rfl))) rfl rfl rfl rfl rfl rfl) (ss_cons (s_appO 5 rfl (by first | exact Or.inl rfl | exact Or.inr (Or.inl rfl) | exact Or.inr (Or.inr rfl)) (d_var 4 rfl (by first | exact Or.inl rfl | exact Or.inr (Or.inl rfl) | exact Or.inr (Or.inr rfl))) rfl rfl rfl rfl rfl rfl) (ss_one (s_set 4 sc__law_rings.nd rfl (by first | exact Or.inl rfl | exact Or.inr rfl) (by first | exact Or.inl rfl | exact Or.inr rfl) (d_ix hr.units (d_var 0 rfl (by first | exact Or.inl rfl | exact Or.inr (Or.inl rfl) | exact Or.inr (Or.inr rfl))) (d_var 4 rfl (by first | exact Or.inl rfl | exact Or.inr (Or.inl rfl) | exact Or.inr (Or.inr rfl))) (fun _ _ => rfl)) rfl))))) (ss_thaw 5 (ss_one (s_set 1 sc__law_rings.nd rfl (by first | exact Or.inl rfl | exact Or.inr rfl) (by first | exact Or.inl rfl | exact Or.inr rfl) (d_op op_addA rd_add (d_var 1 rfl (by first | exact Or.inl rfl | exact Or.inr (Or.inl rfl) | exact Or.inr (Or.inr rfl))) (d_callTy call_int1 rdc_int rfl T.z_int bb_int (ad_cons (d_and (d_cmp op_gt rd_gt (d_callB call_len2 rdc_len rfl T.z_len bb_len (ad_cons (d_var 5 rfl (by first | exact Or.inl rfl | exact Or.inr (Or.inl rfl) | exact Or.inr (Or.inr rfl))) ad_nil rfl) rfl rfl) d_int (nomark _)) (d_one (d_cmp (op_eqD hr.units) rd_eq (d_var 4 rfl (by first | exact Or.inl rfl | exact Or.inr (Or.inl rfl) | exact Or.inr (Or.inr rfl))) (d_var 3 rfl (by first | exact Or.inl rfl | exact Or.inr (Or.inl rfl) | exact Or.inr (Or.inr rfl))) (nomark _)))) ad_nil rfl) rfl rfl)) rfl))))) (by intro _; rfl)) (ss_thaw 2 (ss_one (s_ret (d_var 1 rfl (by first | exact Or.inl rfl | exact Or.inr (Or.inl rfl) | exact Or.inr (Or.inr rfl))))))))
theorem F__law_done_by (T : Txt K mg) : FnD P w K mg base 1 "_law_done_by" 2 m__law_done_by := fnD (k := 0) T.d__law_done_by sc__law_done_by rfl rfl fun f cdv A outer s H E hr => (ss_cons (s_new 2 sc__law_done_by.nd rfl (by first | exact Or.inl rfl | exact Or.inr rfl) (by first | exact Or.inl rfl | exact Or.inr rfl) f_dnew rfl) (ss_cons (s_for ownF rfl (i_seq (d_var 0 rfl (by first | exact Or.inl rfl | exact Or.inr (Or.inl rfl) | exact Or.inr (Or.inr rfl)))) (g_name 3 sc__law_done_by.nd rfl (by first | exact Or.inl rfl | exact Or.inr rfl) (by first | exact Or.inl rfl | exact Or.inr rfl)) (ss_one (s_setK 2 hr.units rfl (by first | exact Or.inl rfl | exact Or.inr (Or.inl rfl) | exact Or.inr (Or.inr rfl)) (d_var 3 rfl (by first | exact Or.inl rfl | exact Or.inr (Or.inl rfl) | exact Or.inr (Or.inr rfl))) (d_var 3 rfl (by first | exact Or.inl rfl | exact Or.inr (Or.inl rfl) | exact Or.inr (Or.inr rfl))) (by intro _; rfl) rfl rfl rfl)) (by intro _; rfl)) (ss_cons (s_for ownF rfl (i_seq (d_var 1 rfl (by first | exact Or.inl rfl | exact Or.inr (Or.inl rfl) | exact Or.inr (Or.inr rfl)))) (g_tup rfl (gs_cons (g_name 3 sc__law_done_by.nd rfl (by first | exact Or.inl rfl | exact Or.inr rfl) (by first | exact Or.inl rfl | exact Or.inr rfl)) (gs_cons (g_name 4 sc__law_done_by.nd rfl (by first | exact Or.inl rfl | exact Or.inr rfl) (by first | exact Or.inl rfl | exact Or.inr rfl)) gs_nil rfl) rfl) rfl rfl) (ss_cons (s_lcSetL 2 5 [("_law_row", 6)] rfl sc__law_done_by.nd rfl rfl rfl (i_seq (d_var 2 rfl (by first | exact Or.inl rfl | exact Or.inr (Or.inl rfl) | exact Or.inr (Or.inr rfl)))) (by kernel_rfl) (fun _ _ _ _ _ => (g_name 6 sc__law_done_by.nd rfl (by first | exact Or.inl rfl | exact Or.inr rfl) (by first | exact Or.inl rfl | exact Or.inr rfl))) (by decide) (fun _ _ _ _ _ => (ts_one (b_cmp (op_eqD hr.units) rd_eq (d_ix hr.units (d_var 2 rfl (by first | exact Or.inl rfl | exact Or.inr (Or.inl rfl) | exact Or.inr (Or.inr rfl))) (d_var 6 rfl (by first | exact Or.inl rfl | exact Or.inr (Or.inl rfl) | exact Or.inr (Or.inr rfl))) (fun _ _ => rfl)) (d_var 3 rfl (by first | exact Or.inl rfl | exact Or.inr (Or.inl rfl) | exact Or.inr (Or.inr rfl))) (nomark _)))) (fun _ _ _ _ _ => (d_var 6 rfl (by first | exact Or.inl rfl | exact Or.inr (Or.inl rfl) | exact Or.inr (Or.inr rfl)))) (by intro _; rfl)) (ss_cons (s_if (PBW.pb (b_or (b_cmp (op_eqD hr.units) rd_eq (d_var 5 rfl (by first | exact Or.inl rfl | exact Or.inr (Or.inl rfl) | exact Or.inr (Or.inr rfl))) (PF.pd (f_lst ad_nil)) (nomark _)) (b_or1 (b_cmp (op_neD hr.units) rd_ne (PF.pd (f_loan 2 (f_lc [("_law_row", 6)] rfl sc__law_done_by.nd (i_seq (d_var 2 rfl (by first | exact Or.inl rfl | exact Or.inr (Or.inl rfl) | exact Or.inr (Or.inr rfl)))) (by kernel_rfl) (fun _ _ _ _ _ => (g_name 6 sc__law_done_by.nd rfl (by first | exact Or.inl rfl | exact Or.inr rfl) (by first | exact Or.inl rfl | exact Or.inr rfl))) (by decide) (fun _ _ _ _ _ => (ts_one (b_cmp (op_eqD hr.units) rd_eq (d_ix hr.units (d_var 2 rfl (by first | exact Or.inl rfl | exact Or.inr (Or.inl rfl) | exact Or.inr (Or.inr rfl))) (d_var 6 rfl (by first | exact Or.inl rfl | exact Or.inr (Or.inl rfl) | exact Or.inr (Or.inr rfl))) (fun _ _ => rfl)) (d_var 4 rfl (by first | exact Or.inl rfl | exact Or.inr (Or.inl rfl) | exact Or.inr (Or.inr rfl))) (nomark _)))) (fun _ _ _ _ _ => (d_var 6 rfl (by first | exact Or.inl rfl | exact Or.inr (Or.inl rfl) | exact Or.inr (Or.inr rfl)))) (by intro _; rfl)))) (PF.pd (f_lst ad_nil)) (nomark _))))) (ss_one (s_ret d_bl)) ss_nil) (ss_one (s_setK 2 hr.units rfl (by first | exact Or.inl rfl | exact Or.inr (Or.inl rfl) | exact Or.inr (Or.inr rfl)) (d_ix hr.units (d_var 5 rfl (by first | exact Or.inl rfl | exact Or.inr (Or.inl rfl) | exact Or.inr (Or.inr rfl))) d_int (fun _ _ => rfl)) (d_var 4 rfl (by first | exact Or.inl rfl | exact Or.inr (Or.inl rfl) | exact Or.inr (Or.inr rfl))) (by intro _; rfl) rfl rfl rfl)))) (by intro _; rfl)) (ss_thaw 2 (ss_one (s_ret (d_cmp (op_eqKI (Nat.lt_of_le_of_lt (Nat.le_add_right _ 64) hr.units)) rd_eqK (d_var 2 rfl (by first | exact Or.inl rfl | exact Or.inr (Or.inl rfl) | exact Or.inr (Or.inr rfl))) (d_var 0 rfl (by first | exact Or.inl rfl | exact Or.inr (Or.inl rfl) | exact Or.inr (Or.inr rfl))) (nomark _))))))))
end
section
variable {P : Program} {w : World} {K : PySem.W.Frag} {mg : Str → Option Value} {base : Heap} {fa : Addr} {fd : FuncData} {cdv : Value} {A : Around} {outer : List Env} {s : Shared} {H : Hp} {E : XK}
theorem hit_law (T : Txt K mg) (hr : Room 9 (A.deeper (PyProof.Rows.envOfC "law" (defScope s_law) s.heap.objs.size fa cdv))) : PD (cxOf (L2.CX P w) P w K mg base ["_law_script", "_law_bag", "_law_bound", "_law_turn", "_law_moves_here", "_law_table", "_law_rings_here", "_law_due", "_law_old", "_law_new", "_law_steps", "_law_drawn", "_law_k", "_law_at", "_law_step"] "law" (defScope s_law) fa cdv A outer s H E) E (forIter s_law) fit_law := (d_call (F__law_bags T) (hr.mono (by decide)) rfl passF (ar_v (d_var 0 rfl (by first | exact Or.inl rfl | exact Or.inr (Or.inl rfl) | exact Or.inr (Or.inr rfl))) (ar_v d_int ar_nil rfl) rfl) rfl rfl rfl)
theorem hbd_law (T : Txt K mg) (hr : Room 9 (A.deeper (PyProof.Rows.envOfC "law" (defScope s_law) s.heap.objs.size fa cdv))) : PSsD (cxOf (L2.CX P w) P w K mg base ["_law_script", "_law_bag", "_law_bound", "_law_turn", "_law_moves_here", "_law_table", "_law_rings_here", "_law_due", "_law_old", "_law_new", "_law_steps", "_law_drawn", "_law_k", "_law_at", "_law_step"] "law" (defScope s_law) fa cdv A outer s H E) E (forBody s_law) b_law := (ss_cons (s_set 2 sc_law.nd rfl (by first | exact Or.inl rfl | exact Or.inr rfl) (by first | exact Or.inl rfl | exact Or.inr rfl) (d_op op_addA rd_add d_int (d_call (F__law_take T) (hr.mono (by decide)) rfl passF (ar_s 1 rfl (by first | exact Or.inl rfl | exact Or.inr (Or.inl rfl) | exact Or.inr (Or.inr rfl)) (ar_v d_int ar_nil rfl) rfl) rfl rfl rfl)) rfl) (ss_one (s_for ownF rfl (i_rng1 rfl T.z_range (ad_cons d_int ad_nil rfl) rfl) (g_name 3 sc_law.nd rfl (by first | exact Or.inl rfl | exact Or.inr rfl) (by first | exact Or.inl rfl | exact Or.inr rfl)) (ss_cons (s_set 4 sc_law.nd rfl (by first | exact Or.inl rfl | exact Or.inr rfl) (by first | exact Or.inl rfl | exact Or.inr rfl) (d_call (F__law_moves T) (hr.mono (by decide)) rfl passF (ar_s 1 rfl (by first | exact Or.inl rfl | exact Or.inr (Or.inl rfl) | exact Or.inr (Or.inr rfl)) (ar_v (d_var 2 rfl (by first | exact Or.inl rfl | exact Or.inr (Or.inl rfl) | exact Or.inr (Or.inr rfl))) ar_nil rfl) rfl) rfl rfl rfl) rfl) (ss_cons (s_set 5 sc_law.nd rfl (by first | exact Or.inl rfl | exact Or.inr rfl) (by first | exact Or.inl rfl | exact Or.inr rfl) (PF.pd (f_callTy (cr_dictA rfl) rdc_dictA rfl T.z_dict bb_dict (ad_cons (d_var 4 rfl (by first | exact Or.inl rfl | exact Or.inr (Or.inl rfl) | exact Or.inr (Or.inr rfl))) ad_nil rfl) rfl rfl)) rfl) (ss_cons (s_set 6 sc_law.nd rfl (by first | exact Or.inl rfl | exact Or.inr rfl) (by first | exact Or.inl rfl | exact Or.inr rfl) (d_call (F__law_rings T) (hr.mono (by decide)) rfl passF (ar_v (d_var 5 rfl (by first | exact Or.inl rfl | exact Or.inr (Or.inl rfl) | exact Or.inr (Or.inr rfl))) ar_nil rfl) rfl rfl rfl) rfl) (ss_cons (s_set 7 sc_law.nd rfl (by first | exact Or.inl rfl | exact Or.inr rfl) (by first | exact Or.inl rfl | exact Or.inr rfl) (d_op op_addA rd_add (d_callB call_len2 rdc_len rfl T.z_len bb_len (ad_cons (PF.pd (f_lc [("_law_old", 8), ("_law_new", 9)] rfl sc_law.nd (i_seq (d_var 4 rfl (by first | exact Or.inl rfl | exact Or.inr (Or.inl rfl) | exact Or.inr (Or.inr rfl)))) (by kernel_rfl) (fun _ _ _ _ _ => (g_tup rfl (gs_cons (g_name 8 sc_law.nd rfl (by first | exact Or.inl rfl | exact Or.inr rfl) (by first | exact Or.inl rfl | exact Or.inr rfl)) (gs_cons (g_name 9 sc_law.nd rfl (by first | exact Or.inl rfl | exact Or.inr rfl) (by first | exact Or.inl rfl | exact Or.inr rfl)) gs_nil rfl) rfl) rfl rfl)) (by decide) (fun _ _ _ _ _ => (ts_one (b_cmp (op_neD hr.units) rd_ne (d_var 8 rfl (by first | exact Or.inl rfl | exact Or.inr (Or.inl rfl) | exact Or.inr (Or.inr rfl))) (d_var 9 rfl (by first | exact Or.inl rfl | exact Or.inr (Or.inl rfl) | exact Or.inr (Or.inr rfl))) (nomark _)))) (fun _ _ _ _ _ => d_int) (by intro _; rfl))) ad_nil rfl) rfl rfl) (d_var 6 rfl (by first | exact Or.inl rfl | exact Or.inr (Or.inl rfl) | exact Or.inr (Or.inr rfl)))) rfl) (ss_cons (s_set 7 sc_law.nd rfl (by first | exact Or.inl rfl | exact Or.inr rfl) (by first | exact Or.inl rfl | exact Or.inr rfl) (d_if (PBW.pb (b_and (b_cmp op_gt rd_gt (d_var 6 rfl (by first | exact Or.inl rfl | exact Or.inr (Or.inl rfl) | exact Or.inr (Or.inr rfl))) d_int (nomark _)) (b_and1 (b_cmp (op_eqD hr.units) rd_eq (d_callB call_len2 rdc_len rfl T.z_len bb_len (ad_cons (d_var 4 rfl (by first | exact Or.inl rfl | exact Or.inr (Or.inl rfl) | exact Or.inr (Or.inr rfl))) ad_nil rfl) rfl rfl) (d_var 2 rfl (by first | exact Or.inl rfl | exact Or.inr (Or.inl rfl) | exact Or.inr (Or.inr rfl))) (nomark _))))) d_non (d_var 7 rfl (by first | exact Or.inl rfl | exact Or.inr (Or.inl rfl) | exact Or.inr (Or.inr rfl)))) rfl) (ss_cons (s_set 10 sc_law.nd rfl (by first | exact Or.inl rfl | exact Or.inr rfl) (by first | exact Or.inl rfl | exact Or.inr rfl) (d_call (F_steps_for T) (hr.mono (by decide)) rfl passF (ar_v (d_var 2 rfl (by first | exact Or.inl rfl | exact Or.inr (Or.inl rfl) | exact Or.inr (Or.inr rfl))) (ar_v (d_var 4 rfl (by first | exact Or.inl rfl | exact Or.inr (Or.inl rfl) | exact Or.inr (Or.inr rfl))) ar_nil rfl) rfl) rfl rfl rfl) rfl) (ss_cons (s_if (PBW.pb (b_or (b_not (b_val (d_call (F__law_same T) (hr.mono (by decide)) rfl passF (ar_v (d_call (F_fewest_steps T) (hr.mono (by decide)) rfl passF (ar_v (d_var 2 rfl (by first | exact Or.inl rfl | exact Or.inr (Or.inl rfl) | exact Or.inr (Or.inr rfl))) (ar_v (d_var 4 rfl (by first | exact Or.inl rfl | exact Or.inr (Or.inl rfl) | exact Or.inr (Or.inr rfl))) ar_nil rfl) rfl) rfl rfl rfl) (ar_v (d_var 7 rfl (by first | exact Or.inl rfl | exact Or.inr (Or.inl rfl) | exact Or.inr (Or.inr rfl))) ar_nil rfl) rfl) rfl rfl rfl) (by intro _; rfl))) (b_or1 (b_cmp (op_neD hr.units) rd_ne (d_cmp op_isA rd_is (d_var 10 rfl (by first | exact Or.inl rfl | exact Or.inr (Or.inl rfl) | exact Or.inr (Or.inr rfl))) d_non (nomark _)) (d_cmp op_isA rd_is (d_var 7 rfl (by first | exact Or.inl rfl | exact Or.inr (Or.inl rfl) | exact Or.inr (Or.inr rfl))) d_non (nomark _)) (nomark _))))) (ss_one (s_ret d_bl)) ss_nil) (ss_cons (s_if (b_cmp op_isNotA rd_isNot (d_var 10 rfl (by first | exact Or.inl rfl | exact Or.inr (Or.inl rfl) | exact Or.inr (Or.inr rfl))) d_non (nomark _)) (ss_one (s_if (PBW.pb (b_or (b_not (b_val (d_callB call_isi rdc_isi rfl T.z_isinstance bb_isinstance (ad_cons (d_var 10 rfl (by first | exact Or.inl rfl | exact Or.inr (Or.inl rfl) | exact Or.inr (Or.inr rfl))) (ad_cons (d_ty rfl T.z_tuple bb_tuple) ad_nil rfl) rfl) rfl rfl) (by intro _; rfl))) (b_or (b_cmp (op_neD hr.units) rd_ne (d_callB call_len2 rdc_len rfl T.z_len bb_len (ad_cons (d_var 10 rfl (by first | exact Or.inl rfl | exact Or.inr (Or.inl rfl) | exact Or.inr (Or.inr rfl))) ad_nil rfl) rfl rfl) (d_var 7 rfl (by first | exact Or.inl rfl | exact Or.inr (Or.inl rfl) | exact Or.inr (Or.inr rfl))) (nomark _)) (b_or1 (b_not (b_val (d_call (F__law_done_by T) (hr.mono (by decide)) rfl passF (ar_v (d_var 5 rfl (by first | exact Or.inl rfl | exact Or.inr (Or.inl rfl) | exact Or.inr (Or.inr rfl))) (ar_v (d_var 10 rfl (by first | exact Or.inl rfl | exact Or.inr (Or.inl rfl) | exact Or.inr (Or.inr rfl))) ar_nil rfl) rfl) rfl rfl rfl) (by intro _; rfl))))))) (ss_one (s_ret d_bl)) ss_nil)) ss_nil) (ss_cons (s_set 11 sc_law.nd rfl (by first | exact Or.inl rfl | exact Or.inr rfl) (by first | exact Or.inl rfl | exact Or.inr rfl) (d_if (b_cmp op_isA rd_is (d_var 10 rfl (by first | exact Or.inl rfl | exact Or.inr (Or.inl rfl) | exact Or.inr (Or.inr rfl))) d_non (nomark _)) (d_tup ad_nil) (d_var 10 rfl (by first | exact Or.inl rfl | exact Or.inr (Or.inl rfl) | exact Or.inr (Or.inr rfl)))) rfl) (ss_cons (s_for ownF rfl (i_rng1 rfl T.z_range (ad_cons (d_call (F__law_take T) (hr.mono (by decide)) rfl passF (ar_s 1 rfl (by first | exact Or.inl rfl | exact Or.inr (Or.inl rfl) | exact Or.inr (Or.inr rfl)) (ar_v d_int ar_nil rfl) rfl) rfl rfl rfl) ad_nil rfl) rfl) (g_name 12 sc_law.nd rfl (by first | exact Or.inl rfl | exact Or.inr rfl) (by first | exact Or.inl rfl | exact Or.inr rfl)) (ss_cons (s_set 13 sc_law.nd rfl (by first | exact Or.inl rfl | exact Or.inr rfl) (by first | exact Or.inl rfl | exact Or.inr rfl) (d_call (F__law_take T) (hr.mono (by decide)) rfl passF (ar_s 1 rfl (by first | exact Or.inl rfl | exact Or.inr (Or.inl rfl) | exact Or.inr (Or.inr rfl)) (ar_v (d_op op_addA rd_add (d_callB call_len2 rdc_len rfl T.z_len bb_len (ad_cons (d_var 11 rfl (by first | exact Or.inl rfl | exact Or.inr (Or.inl rfl) | exact Or.inr (Or.inr rfl))) ad_nil rfl) rfl rfl) d_int) ar_nil rfl) rfl) rfl rfl rfl) rfl) (ss_cons (s_set 14 sc_law.nd rfl (by first | exact Or.inl rfl | exact Or.inr rfl) (by first | exact Or.inl rfl | exact Or.inr rfl) (d_tup (ad_cons (d_call (F__law_take T) (hr.mono (by decide)) rfl passF (ar_s 1 rfl (by first | exact Or.inl rfl | exact Or.inr (Or.inl rfl) | exact Or.inr (Or.inr rfl)) (ar_v (d_var 2 rfl (by first | exact Or.inl rfl | exact Or.inr (Or.inl rfl) | exact Or.inr (Or.inr rfl))) ar_nil rfl) rfl) rfl rfl rfl) (ad_cons (d_call (F__law_take T) (hr.mono (by decide)) rfl passF (ar_s 1 rfl (by first | exact Or.inl rfl | exact Or.inr (Or.inl rfl) | exact Or.inr (Or.inr rfl)) (ar_v (d_var 2 rfl (by first | exact Or.inl rfl | exact Or.inr (Or.inl rfl) | exact Or.inr (Or.inr rfl))) ar_nil rfl) rfl) rfl rfl rfl) ad_nil rfl) rfl)) rfl) (ss_one (s_set 11 sc_law.nd rfl (by first | exact Or.inl rfl | exact Or.inr rfl) (by first | exact Or.inl rfl | exact Or.inr rfl) (d_op op_addA rd_add (d_op op_addA rd_add (d_sl (d_var 11 rfl (by first | exact Or.inl rfl | exact Or.inr (Or.inl rfl) | exact Or.inr (Or.inr rfl))) od_none (od_some (d_var 13 rfl (by first | exact Or.inl rfl | exact Or.inr (Or.inl rfl) | exact Or.inr (Or.inr rfl))))) (d_tup (ad_cons (d_var 14 rfl (by first | exact Or.inl rfl | exact Or.inr (Or.inl rfl) | exact Or.inr (Or.inr rfl))) ad_nil rfl))) (d_sl (d_var 11 rfl (by first | exact Or.inl rfl | exact Or.inr (Or.inl rfl) | exact Or.inr (Or.inr rfl))) (od_some (d_op op_addA rd_add (d_var 13 rfl (by first | exact Or.inl rfl | exact Or.inr (Or.inl rfl) | exact Or.inr (Or.inr rfl))) (d_call (F__law_take T) (hr.mono (by decide)) rfl passF (ar_s 1 rfl (by first | exact Or.inl rfl | exact Or.inr (Or.inl rfl) | exact Or.inr (Or.inr rfl)) (ar_v d_int ar_nil rfl) rfl) rfl rfl rfl))) od_none)) rfl)))) (by intro _; rfl)) (ss_one (s_if (b_not (b_val (d_call (F__law_same T) (hr.mono (by decide)) rfl passF (ar_v (d_call (F_do_them T) (hr.mono (by decide)) rfl passF (ar_v (d_var 2 rfl (by first | exact Or.inl rfl | exact Or.inr (Or.inl rfl) | exact Or.inr (Or.inr rfl))) (ar_v (d_var 4 rfl (by first | exact Or.inl rfl | exact Or.inr (Or.inl rfl) | exact Or.inr (Or.inr rfl))) (ar_v (d_var 11 rfl (by first | exact Or.inl rfl | exact Or.inr (Or.inl rfl) | exact Or.inr (Or.inr rfl))) ar_nil rfl) rfl) rfl) rfl rfl rfl) (ar_v (d_call (F__law_done_by T) (hr.mono (by decide)) rfl passF (ar_v (d_var 5 rfl (by first | exact Or.inl rfl | exact Or.inr (Or.inl rfl) | exact Or.inr (Or.inr rfl))) (ar_v (d_var 11 rfl (by first | exact Or.inl rfl | exact Or.inr (Or.inl rfl) | exact Or.inr (Or.inr rfl))) ar_nil rfl) rfl) rfl rfl rfl) ar_nil rfl) rfl) rfl rfl rfl) (by intro _; rfl))) (ss_one (s_ret d_bl)) ss_nil)))))))))))) (by intro _; rfl))))
theorem htl_law (T : Txt K mg) (hr : Room 9 (A.deeper (PyProof.Rows.envOfC "law" (defScope s_law) s.heap.objs.size fa cdv))) : PSsD (cxOf (L2.CX P w) P w K mg base ["_law_script", "_law_bag", "_law_bound", "_law_turn", "_law_moves_here", "_law_table", "_law_rings_here", "_law_due", "_law_old", "_law_new", "_law_steps", "_law_drawn", "_law_k", "_law_at", "_law_step"] "law" (defScope s_law) fa cdv A outer s H E) E (forTail s_law) g_law := (ss_one (s_ret d_bl))
theorem ok_law (F : Fun K "law" "law" s_law fa fd) (T : Txt K mg)
    (hfit : ∀ ns : List Int, ns.length ≤ 63 → ∃ ws : List Bag, (∃ ρ', fit_law (.v (.scr ns) :: List.replicate 14 .u) = .ok (.lst (ws.map Bag.d)) ρ') ∧ (∀ (i j : Nat) (w u : Bag), ws[i]? = some w → ws[j]? = some u → w.c = u.c → i = j) ∧ ∀ w ∈ ws, w.ok)
    (hbody : ∀ w : Bag, w.ok → ∃ ρ', b_law (bagRo w 13) = .ok .nx ρ') (htail : ∃ ρ', g_law (List.replicate 15 .u) = .ok (.ret (.bl true)) ρ') : FnOk P w K mg base (L2.CX P w) 10 fa fd ["_law_script"] (spLaw K) := by
  refine F.okX sc_law (fun vs H Q E h => ?_) (fun cdv A outer s H vs Q E hr h => ?_)
  · obtain ⟨a, ns, rfl, _⟩ := h
    rfl
  · obtain ⟨a, ns, rfl, hS, hn, hQ⟩ := h
    obtain ⟨ws, h1, h2, h3⟩ := hfit ns hn
    obtain ⟨t, t1, t2⟩ := (hit_law T hr).ex
    obtain ⟨tb, b1, b2⟩ := (hbd_law T hr).ex
    obtain ⟨tt, g1, g2⟩ := (htl_law T hr).ex
    exact ⟨_, pss_cons (ps_for ownF rfl (pi_list t1) (pg_name (i := 1) sc_law.nd rfl (by first | exact Or.inl rfl | exact Or.inr rfl) (by first | exact Or.inl rfl | exact Or.inr rfl)) b1 (by intro _; rfl)) g1, law_sem t2 b2 g2 rfl hS h1 h2 (fun w hw => hbody w (h3 w hw)) htail hQ⟩
end
end DL

/-! the end, printed by gen.py -/
namespace DL
open PySem L2
theorem all_mk {l : PySem.W.OpenLaw} {w : World} {K : PySem.W.Frag} {h : Heap} {mg : Str → Option Value} {fa : Addr} (X : K.In h) (G : h.Ns mainGlobals mg) (hfa : mg "law" = some (.ref fa))
    {t_MOST_STEPS : Tok}
    {e_InvalidMoves : Addr}
    {e_InvalidSize : Addr}
    {e_InvalidSteps : Addr}
    {f0 : Addr} {od0 an0 : Option Addr} {sl0 : Array (Option Value)} {oc0 kV0 dc0 pm0 cd0 ct0 : Value}
    {f1 : Addr} {od1 an1 : Option Addr} {sl1 : Array (Option Value)} {oc1 kV1 dc1 pm1 cd1 ct1 : Value}
    {f2 : Addr} {od2 an2 : Option Addr} {sl2 : Array (Option Value)} {oc2 kV2 dc2 pm2 cd2 ct2 : Value}
    {f3 : Addr} {od3 an3 : Option Addr} {sl3 : Array (Option Value)} {oc3 kV3 dc3 pm3 cd3 ct3 : Value}
    {f4 : Addr} {od4 an4 : Option Addr} {sl4 : Array (Option Value)} {oc4 kV4 dc4 pm4 cd4 ct4 : Value}
    {f5 : Addr} {od5 an5 : Option Addr} {sl5 : Array (Option Value)} {oc5 kV5 dc5 pm5 cd5 ct5 : Value}
    {f6 : Addr} {od6 an6 : Option Addr} {sl6 : Array (Option Value)} {oc6 kV6 dc6 pm6 cd6 ct6 : Value}
    {f7 : Addr} {od7 an7 : Option Addr} {sl7 : Array (Option Value)} {oc7 kV7 dc7 pm7 cd7 ct7 : Value}
    {f8 : Addr} {od8 an8 : Option Addr} {sl8 : Array (Option Value)} {oc8 kV8 dc8 pm8 cd8 ct8 : Value}
    {f9 : Addr} {od9 an9 : Option Addr} {sl9 : Array (Option Value)} {oc9 kV9 dc9 pm9 cd9 ct9 : Value}
    {f10 : Addr} {od10 an10 : Option Addr} {sl10 : Array (Option Value)} {oc10 kV10 dc10 pm10 cd10 ct10 : Value}
    {f11 : Addr} {od11 an11 : Option Addr} {sl11 : Array (Option Value)} {oc11 kV11 dc11 pm11 cd11 ct11 : Value}
    {f12 : Addr} {od12 an12 : Option Addr} {sl12 : Array (Option Value)} {oc12 kV12 dc12 pm12 cd12 ct12 : Value}
    {f13 : Addr} {od13 an13 : Option Addr} {sl13 : Array (Option Value)} {oc13 kV13 dc13 pm13 cd13 ct13 : Value}
    {f14 : Addr} {od14 an14 : Option Addr} {sl14 : Array (Option Value)} {oc14 kV14 dc14 pm14 cd14 ct14 : Value}
    {f15 : Addr} {od15 an15 : Option Addr} {sl15 : Array (Option Value)} {oc15 kV15 dc15 pm15 cd15 ct15 : Value}
    {f16 : Addr} {od16 an16 : Option Addr} {sl16 : Array (Option Value)} {oc16 kV16 dc16 pm16 cd16 ct16 : Value}
    {f17 : Addr} {od17 an17 : Option Addr} {sl17 : Array (Option Value)} {oc17 kV17 dc17 pm17 cd17 ct17 : Value}
    {f18 : Addr} {od18 an18 : Option Addr} {sl18 : Array (Option Value)} {oc18 kV18 dc18 pm18 cd18 ct18 : Value}
    {f19 : Addr} {od19 an19 : Option Addr} {sl19 : Array (Option Value)} {oc19 kV19 dc19 pm19 cd19 ct19 : Value}
    (z_all : PySem.W.nsIn K mainGlobals "all" = some none)
    (z_bool : PySem.W.nsIn K mainGlobals "bool" = some none)
    (z_dict : PySem.W.nsIn K mainGlobals "dict" = some none)
    (z_enumerate : PySem.W.nsIn K mainGlobals "enumerate" = some none)
    (z_int : PySem.W.nsIn K mainGlobals "int" = some none)
    (z_isinstance : PySem.W.nsIn K mainGlobals "isinstance" = some none)
    (z_len : PySem.W.nsIn K mainGlobals "len" = some none)
    (z_list : PySem.W.nsIn K mainGlobals "list" = some none)
    (z_range : PySem.W.nsIn K mainGlobals "range" = some none)
    (z_set : PySem.W.nsIn K mainGlobals "set" = some none)
    (z_str : PySem.W.nsIn K mainGlobals "str" = some none)
    (z_tuple : PySem.W.nsIn K mainGlobals "tuple" = some none)
    (z_zip : PySem.W.nsIn K mainGlobals "zip" = some none)
    (g_MOST_STEPS : PySem.W.nsIn K mainGlobals "MOST_STEPS" = some (some (.int 20 t_MOST_STEPS)))
    (gx_InvalidMoves : PySem.W.nsIn K mainGlobals "InvalidMoves" = some (some (.ref e_InvalidMoves)))
    (qx_InvalidMoves : PySem.W.excIn K e_InvalidMoves [.type "ValueError", .type "Exception", .type "BaseException", .type "object"] "ValueError.__new__" = true)
    (kx_InvalidMoves : PySem.W.keepIn K (.ref e_InvalidMoves) = true)
    (bx_InvalidMoves : PySem.W.subIn K (.ref e_InvalidMoves) (.type "BaseException") = some true)
    (tx_InvalidMoves : PySem.W.typeIn K (.ref e_InvalidMoves) = some (.type "type"))
    (gx_InvalidSize : PySem.W.nsIn K mainGlobals "InvalidSize" = some (some (.ref e_InvalidSize)))
    (qx_InvalidSize : PySem.W.excIn K e_InvalidSize [.type "ValueError", .type "Exception", .type "BaseException", .type "object"] "ValueError.__new__" = true)
    (kx_InvalidSize : PySem.W.keepIn K (.ref e_InvalidSize) = true)
    (bx_InvalidSize : PySem.W.subIn K (.ref e_InvalidSize) (.type "BaseException") = some true)
    (tx_InvalidSize : PySem.W.typeIn K (.ref e_InvalidSize) = some (.type "type"))
    (gx_InvalidSteps : PySem.W.nsIn K mainGlobals "InvalidSteps" = some (some (.ref e_InvalidSteps)))
    (qx_InvalidSteps : PySem.W.excIn K e_InvalidSteps [.type "ValueError", .type "Exception", .type "BaseException", .type "object"] "ValueError.__new__" = true)
    (kx_InvalidSteps : PySem.W.keepIn K (.ref e_InvalidSteps) = true)
    (bx_InvalidSteps : PySem.W.subIn K (.ref e_InvalidSteps) (.type "BaseException") = some true)
    (tx_InvalidSteps : PySem.W.typeIn K (.ref e_InvalidSteps) = some (.type "type"))
    (a0 : PySem.W.nsIn K mainGlobals "is_within" = some (some (.ref f0)))
    (l0 : K.lookup f0 = some ⟨oc0, od0, .func (PySem.W.fnOf "is_within" "is_within" (defArgs s_is_within) (defBody s_is_within) (defScope s_is_within) .none kV0 dc0 pm0 an0 cd0 ct0), sl0⟩)
    (c0 : PySem.W.codeIn K cd0 "is_within" = true)
    (k0 : PySem.W.keepIn K (.ref f0) = true)
    (a1 : PySem.W.nsIn K mainGlobals "rises" = some (some (.ref f1)))
    (l1 : K.lookup f1 = some ⟨oc1, od1, .func (PySem.W.fnOf "rises" "rises" (defArgs s_rises) (defBody s_rises) (defScope s_rises) .none kV1 dc1 pm1 an1 cd1 ct1), sl1⟩)
    (c1 : PySem.W.codeIn K cd1 "rises" = true)
    (k1 : PySem.W.keepIn K (.ref f1) = true)
    (a2 : PySem.W.nsIn K mainGlobals "look_at_size" = some (some (.ref f2)))
    (l2 : K.lookup f2 = some ⟨oc2, od2, .func (PySem.W.fnOf "look_at_size" "look_at_size" (defArgs s_look_at_size) (defBody s_look_at_size) (defScope s_look_at_size) .none kV2 dc2 pm2 an2 cd2 ct2), sl2⟩)
    (c2 : PySem.W.codeIn K cd2 "look_at_size" = true)
    (k2 : PySem.W.keepIn K (.ref f2) = true)
    (a3 : PySem.W.nsIn K mainGlobals "is_pair" = some (some (.ref f3)))
    (l3 : K.lookup f3 = some ⟨oc3, od3, .func (PySem.W.fnOf "is_pair" "is_pair" (defArgs s_is_pair) (defBody s_is_pair) (defScope s_is_pair) .none kV3 dc3 pm3 an3 cd3 ct3), sl3⟩)
    (c3 : PySem.W.codeIn K cd3 "is_pair" = true)
    (k3 : PySem.W.keepIn K (.ref f3) = true)
    (a4 : PySem.W.nsIn K mainGlobals "are_moves" = some (some (.ref f4)))
    (l4 : K.lookup f4 = some ⟨oc4, od4, .func (PySem.W.fnOf "are_moves" "are_moves" (defArgs s_are_moves) (defBody s_are_moves) (defScope s_are_moves) .none kV4 dc4 pm4 an4 cd4 ct4), sl4⟩)
    (c4 : PySem.W.codeIn K cd4 "are_moves" = true)
    (k4 : PySem.W.keepIn K (.ref f4) = true)
    (a5 : PySem.W.nsIn K mainGlobals "look_at_moves" = some (some (.ref f5)))
    (l5 : K.lookup f5 = some ⟨oc5, od5, .func (PySem.W.fnOf "look_at_moves" "look_at_moves" (defArgs s_look_at_moves) (defBody s_look_at_moves) (defScope s_look_at_moves) .none kV5 dc5 pm5 an5 cd5 ct5), sl5⟩)
    (c5 : PySem.W.codeIn K cd5 "look_at_moves" = true)
    (k5 : PySem.W.keepIn K (.ref f5) = true)
    (a6 : PySem.W.nsIn K mainGlobals "stepped" = some (some (.ref f6)))
    (l6 : K.lookup f6 = some ⟨oc6, od6, .func (PySem.W.fnOf "stepped" "stepped" (defArgs s_stepped) (defBody s_stepped) (defScope s_stepped) .none kV6 dc6 pm6 an6 cd6 ct6), sl6⟩)
    (c6 : PySem.W.codeIn K cd6 "stepped" = true)
    (k6 : PySem.W.keepIn K (.ref f6) = true)
    (a7 : PySem.W.nsIn K mainGlobals "first_and_last" = some (some (.ref f7)))
    (l7 : K.lookup f7 = some ⟨oc7, od7, .func (PySem.W.fnOf "first_and_last" "first_and_last" (defArgs s_first_and_last) (defBody s_first_and_last) (defScope s_first_and_last) .none kV7 dc7 pm7 an7 cd7 ct7), sl7⟩)
    (c7 : PySem.W.codeIn K cd7 "first_and_last" = true)
    (k7 : PySem.W.keepIn K (.ref f7) = true)
    (a8 : PySem.W.nsIn K mainGlobals "shortest_steps" = some (some (.ref f8)))
    (l8 : K.lookup f8 = some ⟨oc8, od8, .func (PySem.W.fnOf "shortest_steps" "shortest_steps" (defArgs s_shortest_steps) (defBody s_shortest_steps) (defScope s_shortest_steps) .none kV8 dc8 pm8 an8 cd8 ct8), sl8⟩)
    (c8 : PySem.W.codeIn K cd8 "shortest_steps" = true)
    (k8 : PySem.W.keepIn K (.ref f8) = true)
    (a9 : PySem.W.nsIn K mainGlobals "fewest_steps" = some (some (.ref f9)))
    (l9 : K.lookup f9 = some ⟨oc9, od9, .func (PySem.W.fnOf "fewest_steps" "fewest_steps" (defArgs s_fewest_steps) (defBody s_fewest_steps) (defScope s_fewest_steps) .none kV9 dc9 pm9 an9 cd9 ct9), sl9⟩)
    (c9 : PySem.W.codeIn K cd9 "fewest_steps" = true)
    (k9 : PySem.W.keepIn K (.ref f9) = true)
    (a10 : PySem.W.nsIn K mainGlobals "do_them" = some (some (.ref f10)))
    (l10 : K.lookup f10 = some ⟨oc10, od10, .func (PySem.W.fnOf "do_them" "do_them" (defArgs s_do_them) (defBody s_do_them) (defScope s_do_them) .none kV10 dc10 pm10 an10 cd10 ct10), sl10⟩)
    (c10 : PySem.W.codeIn K cd10 "do_them" = true)
    (k10 : PySem.W.keepIn K (.ref f10) = true)
    (a11 : PySem.W.nsIn K mainGlobals "steps_for" = some (some (.ref f11)))
    (l11 : K.lookup f11 = some ⟨oc11, od11, .func (PySem.W.fnOf "steps_for" "steps_for" (defArgs s_steps_for) (defBody s_steps_for) (defScope s_steps_for) .none kV11 dc11 pm11 an11 cd11 ct11), sl11⟩)
    (c11 : PySem.W.codeIn K cd11 "steps_for" = true)
    (k11 : PySem.W.keepIn K (.ref f11) = true)
    (a12 : PySem.W.nsIn K mainGlobals "_law_well" = some (some (.ref f12)))
    (l12 : K.lookup f12 = some ⟨oc12, od12, .func (PySem.W.fnOf "_law_well" "_law_well" (defArgs s__law_well) (defBody s__law_well) (defScope s__law_well) .none kV12 dc12 pm12 an12 cd12 ct12), sl12⟩)
    (c12 : PySem.W.codeIn K cd12 "_law_well" = true)
    (k12 : PySem.W.keepIn K (.ref f12) = true)
    (a13 : PySem.W.nsIn K mainGlobals "_law_take" = some (some (.ref f13)))
    (l13 : K.lookup f13 = some ⟨oc13, od13, .func (PySem.W.fnOf "_law_take" "_law_take" (defArgs s__law_take) (defBody s__law_take) (defScope s__law_take) .none kV13 dc13 pm13 an13 cd13 ct13), sl13⟩)
    (c13 : PySem.W.codeIn K cd13 "_law_take" = true)
    (k13 : PySem.W.keepIn K (.ref f13) = true)
    (a14 : PySem.W.nsIn K mainGlobals "_law_bags" = some (some (.ref f14)))
    (l14 : K.lookup f14 = some ⟨oc14, od14, .func (PySem.W.fnOf "_law_bags" "_law_bags" (defArgs s__law_bags) (defBody s__law_bags) (defScope s__law_bags) .none kV14 dc14 pm14 an14 cd14 ct14), sl14⟩)
    (c14 : PySem.W.codeIn K cd14 "_law_bags" = true)
    (k14 : PySem.W.keepIn K (.ref f14) = true)
    (a15 : PySem.W.nsIn K mainGlobals "_law_same" = some (some (.ref f15)))
    (l15 : K.lookup f15 = some ⟨oc15, od15, .func (PySem.W.fnOf "_law_same" "_law_same" (defArgs s__law_same) (defBody s__law_same) (defScope s__law_same) .none kV15 dc15 pm15 an15 cd15 ct15), sl15⟩)
    (c15 : PySem.W.codeIn K cd15 "_law_same" = true)
    (k15 : PySem.W.keepIn K (.ref f15) = true)
    (a16 : PySem.W.nsIn K mainGlobals "_law_moves" = some (some (.ref f16)))
    (l16 : K.lookup f16 = some ⟨oc16, od16, .func (PySem.W.fnOf "_law_moves" "_law_moves" (defArgs s__law_moves) (defBody s__law_moves) (defScope s__law_moves) .none kV16 dc16 pm16 an16 cd16 ct16), sl16⟩)
    (c16 : PySem.W.codeIn K cd16 "_law_moves" = true)
    (k16 : PySem.W.keepIn K (.ref f16) = true)
    (a17 : PySem.W.nsIn K mainGlobals "_law_rings" = some (some (.ref f17)))
    (l17 : K.lookup f17 = some ⟨oc17, od17, .func (PySem.W.fnOf "_law_rings" "_law_rings" (defArgs s__law_rings) (defBody s__law_rings) (defScope s__law_rings) .none kV17 dc17 pm17 an17 cd17 ct17), sl17⟩)
    (c17 : PySem.W.codeIn K cd17 "_law_rings" = true)
    (k17 : PySem.W.keepIn K (.ref f17) = true)
    (a18 : PySem.W.nsIn K mainGlobals "_law_done_by" = some (some (.ref f18)))
    (l18 : K.lookup f18 = some ⟨oc18, od18, .func (PySem.W.fnOf "_law_done_by" "_law_done_by" (defArgs s__law_done_by) (defBody s__law_done_by) (defScope s__law_done_by) .none kV18 dc18 pm18 an18 cd18 ct18), sl18⟩)
    (c18 : PySem.W.codeIn K cd18 "_law_done_by" = true)
    (k18 : PySem.W.keepIn K (.ref f18) = true)
    (a19 : PySem.W.nsIn K mainGlobals "law" = some (some (.ref f19)))
    (l19 : K.lookup f19 = some ⟨oc19, od19, .func (PySem.W.fnOf "law" "law" (defArgs s_law) (defBody s_law) (defScope s_law) .none kV19 dc19 pm19 an19 cd19 ct19), sl19⟩)
    (c19 : PySem.W.codeIn K cd19 "law" = true)
    (k19 : PySem.W.keepIn K (.ref f19) = true) :
    ∃ fd : FuncData, (∀ (s : Shared) (v : Value), BindsTo s fd ⟨[v], []⟩ [("_law_script", v)]) ∧ ∀ base : Heap, K.In base → base.Ns mainGlobals mg → FnOk l.prog w K mg base (L2.CX l.prog w) 10 fa fd ["_law_script"] (spLaw K) := by
  have e := hfa.symm.trans (PySem.W.mg_of X G a19)
  cases e
  have T : Txt K mg := { z_all := PySem.W.mg_none_of X G z_all, z_bool := PySem.W.mg_none_of X G z_bool, z_dict := PySem.W.mg_none_of X G z_dict, z_enumerate := PySem.W.mg_none_of X G z_enumerate, z_int := PySem.W.mg_none_of X G z_int, z_isinstance := PySem.W.mg_none_of X G z_isinstance, z_len := PySem.W.mg_none_of X G z_len, z_list := PySem.W.mg_none_of X G z_list, z_range := PySem.W.mg_none_of X G z_range, z_set := PySem.W.mg_none_of X G z_set, z_str := PySem.W.mg_none_of X G z_str, z_tuple := PySem.W.mg_none_of X G z_tuple, z_zip := PySem.W.mg_none_of X G z_zip, c_MOST_STEPS := glob_int X G g_MOST_STEPS, x_InvalidMoves := exc_mk X G gx_InvalidMoves qx_InvalidMoves kx_InvalidMoves bx_InvalidMoves tx_InvalidMoves, x_InvalidSize := exc_mk X G gx_InvalidSize qx_InvalidSize kx_InvalidSize bx_InvalidSize tx_InvalidSize, x_InvalidSteps := exc_mk X G gx_InvalidSteps qx_InvalidSteps kx_InvalidSteps bx_InvalidSteps tx_InvalidSteps, d_is_within := ⟨f0, _, fun_mk (st := s_is_within) l0 c0 k0, PySem.W.mg_of X G a0, (fun_mk (st := s_is_within) l0 c0 k0).binds (ps := ["value", "low", "high"]) fun _ _ _ _ _ _ us hl => match us, hl with | [_, _, _], _ => rfl⟩, d_rises := ⟨f1, _, fun_mk (st := s_rises) l1 c1 k1, PySem.W.mg_of X G a1, (fun_mk (st := s_rises) l1 c1 k1).binds (ps := ["some"]) fun _ _ _ _ _ _ us hl => match us, hl with | [_], _ => rfl⟩, d_look_at_size := ⟨f2, _, fun_mk (st := s_look_at_size) l2 c2 k2, PySem.W.mg_of X G a2, (fun_mk (st := s_look_at_size) l2 c2 k2).binds (ps := ["size"]) fun _ _ _ _ _ _ us hl => match us, hl with | [_], _ => rfl⟩, d_is_pair := ⟨f3, _, fun_mk (st := s_is_pair) l3 c3 k3, PySem.W.mg_of X G a3, (fun_mk (st := s_is_pair) l3 c3 k3).binds (ps := ["size", "value"]) fun _ _ _ _ _ _ us hl => match us, hl with | [_, _], _ => rfl⟩, d_are_moves := ⟨f4, _, fun_mk (st := s_are_moves) l4 c4 k4, PySem.W.mg_of X G a4, (fun_mk (st := s_are_moves) l4 c4 k4).binds (ps := ["size", "value"]) fun _ _ _ _ _ _ us hl => match us, hl with | [_, _], _ => rfl⟩, d_look_at_moves := ⟨f5, _, fun_mk (st := s_look_at_moves) l5 c5 k5, PySem.W.mg_of X G a5, (fun_mk (st := s_look_at_moves) l5 c5 k5).binds (ps := ["size", "moves"]) fun _ _ _ _ _ _ us hl => match us, hl with | [_, _], _ => rfl⟩, d_stepped := ⟨f6, _, fun_mk (st := s_stepped) l6 c6 k6, PySem.W.mg_of X G a6, (fun_mk (st := s_stepped) l6 c6 k6).binds (ps := ["rows", "step"]) fun _ _ _ _ _ _ us hl => match us, hl with | [_, _], _ => rfl⟩, d_first_and_last := ⟨f7, _, fun_mk (st := s_first_and_last) l7 c7 k7, PySem.W.mg_of X G a7, (fun_mk (st := s_first_and_last) l7 c7 k7).binds (ps := ["moves"]) fun _ _ _ _ _ _ us hl => match us, hl with | [_], _ => rfl⟩, d_shortest_steps := ⟨f8, _, fun_mk (st := s_shortest_steps) l8 c8 k8, PySem.W.mg_of X G a8, (fun_mk (st := s_shortest_steps) l8 c8 k8).binds (ps := ["size", "moves"]) fun _ _ _ _ _ _ us hl => match us, hl with | [_, _], _ => rfl⟩, d_fewest_steps := ⟨f9, _, fun_mk (st := s_fewest_steps) l9 c9 k9, PySem.W.mg_of X G a9, (fun_mk (st := s_fewest_steps) l9 c9 k9).binds (ps := ["size", "moves"]) fun _ _ _ _ _ _ us hl => match us, hl with | [_, _], _ => rfl⟩, d_do_them := ⟨f10, _, fun_mk (st := s_do_them) l10 c10 k10, PySem.W.mg_of X G a10, (fun_mk (st := s_do_them) l10 c10 k10).binds (ps := ["size", "moves", "steps"]) fun _ _ _ _ _ _ us hl => match us, hl with | [_, _, _], _ => rfl⟩, d_steps_for := ⟨f11, _, fun_mk (st := s_steps_for) l11 c11 k11, PySem.W.mg_of X G a11, (fun_mk (st := s_steps_for) l11 c11 k11).binds (ps := ["size", "moves"]) fun _ _ _ _ _ _ us hl => match us, hl with | [_, _], _ => rfl⟩, d__law_well := ⟨f12, _, fun_mk (st := s__law_well) l12 c12 k12, PySem.W.mg_of X G a12, (fun_mk (st := s__law_well) l12 c12 k12).binds (ps := ["_law_cell", "_law_turn"]) fun _ _ _ _ _ _ us hl => match us, hl with | [_, _], _ => rfl⟩, d__law_take := ⟨f13, _, fun_mk (st := s__law_take) l13 c13 k13, PySem.W.mg_of X G a13, (fun_mk (st := s__law_take) l13 c13 k13).binds (ps := ["_law_bag", "_law_many"]) fun _ _ _ _ _ _ us hl => match us, hl with | [_, _], _ => rfl⟩, d__law_bags := ⟨f14, _, fun_mk (st := s__law_bags) l14 c14 k14, PySem.W.mg_of X G a14, (fun_mk (st := s__law_bags) l14 c14 k14).binds (ps := ["_law_script", "_law_most"]) fun _ _ _ _ _ _ us hl => match us, hl with | [_, _], _ => rfl⟩, d__law_same := ⟨f15, _, fun_mk (st := s__law_same) l15 c15 k15, PySem.W.mg_of X G a15, (fun_mk (st := s__law_same) l15 c15 k15).binds (ps := ["_law_a", "_law_b"]) fun _ _ _ _ _ _ us hl => match us, hl with | [_, _], _ => rfl⟩, d__law_moves := ⟨f16, _, fun_mk (st := s__law_moves) l16 c16 k16, PySem.W.mg_of X G a16, (fun_mk (st := s__law_moves) l16 c16 k16).binds (ps := ["_law_bag", "_law_bound"]) fun _ _ _ _ _ _ us hl => match us, hl with | [_, _], _ => rfl⟩, d__law_rings := ⟨f17, _, fun_mk (st := s__law_rings) l17 c17 k17, PySem.W.mg_of X G a17, (fun_mk (st := s__law_rings) l17 c17 k17).binds (ps := ["_law_table"]) fun _ _ _ _ _ _ us hl => match us, hl with | [_], _ => rfl⟩, d__law_done_by := ⟨f18, _, fun_mk (st := s__law_done_by) l18 c18 k18, PySem.W.mg_of X G a18, (fun_mk (st := s__law_done_by) l18 c18 k18).binds (ps := ["_law_table", "_law_steps"]) fun _ _ _ _ _ _ us hl => match us, hl with | [_, _], _ => rfl⟩ }
  exact ⟨PySem.W.fnOf "law" "law" (defArgs s_law) (defBody s_law) (defScope s_law) .none kV19 dc19 pm19 an19 cd19 ct19, fun s v => .of_eq rfl, fun base _ _ => ok_law (fun_mk (st := s_law) l19 c19 k19) T fit_all body_all tail_all⟩
theorem walk {l : PySem.W.OpenLaw} {q : Program} {loose : List Str} {XP : (Str → Option Value) → Heap → Prop} {YP : World → Heap → Prop} {d : DefRec} {K : Params → PySem.W.Frag} (hn : l.most = some 63) (hdf : d.params.defaults = [])
    (hY : ∀ (w : World) (h : Heap), YP w h → (K w.params).In h)
    (F : ∀ (w : World) (mg : Str → Option Value) (fa : Addr) (h : Heap), (K w.params).In h → h.Ns mainGlobals mg → mg d.name = some (.ref fa) →
      ∃ fd : FuncData, (∀ (s : Shared) (u : Value), BindsTo s fd ⟨[u], []⟩ [("_law_script", u)]) ∧ ∀ base : Heap, (K w.params).In base → base.Ns mainGlobals mg → FnOk l.prog w (K w.params) mg base (L2.CX l.prog w) 10 fa fd ["_law_script"] (spLaw (K w.params))) :
    PySem.W.WalkO q loose XP YP l.row.toRowW d [] (fun f vs => PySem.call f vs) :=
  L2.walk_of (n := 63) (k := 10) (x := "_law_script") (CX := fun w => L2.CX l.prog w) (sp := fun w => spLaw (K w.params)) hn (by decide) hdf ⟨rfl, by decide, by decide⟩ hY F (fun _ _ a ns hl _ hS => ⟨a, ns, rfl, hS, hl, fun _ => rfl⟩) fun w H s e s' z => cx_no z
end DL
open PySem PySem.W PyProof.Rows in
set_option maxRecDepth 100000 in
set_option maxHeartbeats 0 in
theorem PySem.Challenge.cw_pointsat_k10_whole_moves_by_single_steps_holds : PySem.Challenge.rw_pointsat_k10_whole_moves_by_single_steps.Holds := by
  w_on; o_law; k_head; (case hw => w_witness2)
  k_fill
  refine DL.walk (l := PySem.Challenge.rw_pointsat_k10_whole_moves_by_single_steps) rfl rfl (fun w h Y => PySem.W.kIn_of Y) ?F
  case F =>
    intro w mg fa h KX G hmg
    refine' DL.all_mk KX G hmg ?z_all ?z_bool ?z_dict ?z_enumerate ?z_int ?z_isinstance ?z_len ?z_list ?z_range ?z_set ?z_str ?z_tuple ?z_zip ?g_MOST_STEPS ?gx_InvalidMoves ?qx_InvalidMoves ?kx_InvalidMoves ?bx_InvalidMoves ?tx_InvalidMoves ?gx_InvalidSize ?qx_InvalidSize ?kx_InvalidSize ?bx_InvalidSize ?tx_InvalidSize ?gx_InvalidSteps ?qx_InvalidSteps ?kx_InvalidSteps ?bx_InvalidSteps ?tx_InvalidSteps ?a0 ?l0 ?c0 ?k0 ?a1 ?l1 ?c1 ?k1 ?a2 ?l2 ?c2 ?k2 ?a3 ?l3 ?c3 ?k3 ?a4 ?l4 ?c4 ?k4 ?a5 ?l5 ?c5 ?k5 ?a6 ?l6 ?c6 ?k6 ?a7 ?l7 ?c7 ?k7 ?a8 ?l8 ?c8 ?k8 ?a9 ?l9 ?c9 ?k9 ?a10 ?l10 ?c10 ?k10 ?a11 ?l11 ?c11 ?k11 ?a12 ?l12 ?c12 ?k12 ?a13 ?l13 ?c13 ?k13 ?a14 ?l14 ?c14 ?k14 ?a15 ?l15 ?c15 ?k15 ?a16 ?l16 ?c16 ?k16 ?a17 ?l17 ?c17 ?k17 ?a18 ?l18 ?c18 ?k18 ?a19 ?l19 ?c19 ?k19
    (case z_all => k_is)
    (case z_bool => k_is)
    (case z_dict => k_is)
    (case z_enumerate => k_is)
    (case z_int => k_is)
    (case z_isinstance => k_is)
    (case z_len => k_is)
    (case z_list => k_is)
    (case z_range => k_is)
    (case z_set => k_is)
    (case z_str => k_is)
    (case z_tuple => k_is)
    (case z_zip => k_is)
    (case g_MOST_STEPS => k_is)
    (case gx_InvalidMoves => k_is)
    (case qx_InvalidMoves => k_exc)
    (case kx_InvalidMoves => k_is)
    (case bx_InvalidMoves => k_is)
    (case tx_InvalidMoves => k_is)
    (case gx_InvalidSize => k_is)
    (case qx_InvalidSize => k_exc)
    (case kx_InvalidSize => k_is)
    (case bx_InvalidSize => k_is)
    (case tx_InvalidSize => k_is)
    (case gx_InvalidSteps => k_is)
    (case qx_InvalidSteps => k_exc)
    (case kx_InvalidSteps => k_is)
    (case bx_InvalidSteps => k_is)
    (case tx_InvalidSteps => k_is)
    (case a0 => k_is)
    (case l0 => k_is)
    (case c0 => k_is)
    (case k0 => k_is)
    (case a1 => k_is)
    (case l1 => k_is)
    (case c1 => k_is)
    (case k1 => k_is)
    (case a2 => k_is)
    (case l2 => k_is)
    (case c2 => k_is)
    (case k2 => k_is)
    (case a3 => k_is)
    (case l3 => k_is)
    (case c3 => k_is)
    (case k3 => k_is)
    (case a4 => k_is)
    (case l4 => k_is)
    (case c4 => k_is)
    (case k4 => k_is)
    (case a5 => k_is)
    (case l5 => k_is)
    (case c5 => k_is)
    (case k5 => k_is)
    (case a6 => k_is)
    (case l6 => k_is)
    (case c6 => k_is)
    (case k6 => k_is)
    (case a7 => k_is)
    (case l7 => k_is)
    (case c7 => k_is)
    (case k7 => k_is)
    (case a8 => k_is)
    (case l8 => k_is)
    (case c8 => k_is)
    (case k8 => k_is)
    (case a9 => k_is)
    (case l9 => k_is)
    (case c9 => k_is)
    (case k9 => k_is)
    (case a10 => k_is)
    (case l10 => k_is)
    (case c10 => k_is)
    (case k10 => k_is)
    (case a11 => k_is)
    (case l11 => k_is)
    (case c11 => k_is)
    (case k11 => k_is)
    (case a12 => k_is)
    (case l12 => k_is)
    (case c12 => k_is)
    (case k12 => k_is)
    (case a13 => k_is)
    (case l13 => k_is)
    (case c13 => k_is)
    (case k13 => k_is)
    (case a14 => k_is)
    (case l14 => k_is)
    (case c14 => k_is)
    (case k14 => k_is)
    (case a15 => k_is)
    (case l15 => k_is)
    (case c15 => k_is)
    (case k15 => k_is)
    (case a16 => k_is)
    (case l16 => k_is)
    (case c16 => k_is)
    (case k16 => k_is)
    (case a17 => k_is)
    (case l17 => k_is)
    (case c17 => k_is)
    (case k17 => k_is)
    (case a18 => k_is)
    (case l18 => k_is)
    (case c18 => k_is)
    (case k18 => k_is)
    (case a19 => k_is)
    (case l19 => k_is)
    (case c19 => k_is)
    (case k19 => k_is)
#print axioms PySem.Challenge.cw_pointsat_k10_whole_moves_by_single_steps_holds

import PyProof.Rows.All
import Wide.All
import OpenK.AllK
import Wide.FinOn
import HandS.ForMost
import HandS.ForExc
import HandS.EndBits
import HandS.Wide
import HandS.IsInst
import HandS.Flow
import HandS.Zip
import HandS.TupAny
import HandS.Style
import HandS.Dict
import HandS.Text
import HandS.Iter
import HandS.Replace
import HandS.SortInts
import PyProof.Rows.SortShellAny
import HandS.ExcOwn
import PyProof.StrLawsRepr
import PySem.Challenge.RW_powersalike_k72_whole_best_signs
set_option Elab.async false
set_option linter.all false
set_option maxRecDepth 100000
/-! FA: data, their embedding, results, and what it is for a reading to be computed by a plain function. -/
namespace FL
open PySem PySem.Spec PyProof.Rows L2

/-- a datum: tuples and read-only lists as trees, lists and dicts that change by their number in a small heap -/
inductive D where
  | non | bl (b : Bool) | int (i : Int) | str (cs : List Nat) | ty (n : String) | gl (x : Str)
  | tup (ds : List D) | rol (ds : List D) | ref (i : Nat)
instance : Inhabited D := ⟨.non⟩
/-- keys of dicts -/
abbrev KD := Int ⊕ List Nat
def keyOf : KD → Key
  | .inl i => .inl i
  | .inr cs => .inr ⟨cs.toArray⟩
inductive Ob where
  | lst (ds : List D)
  | dk (kvs : List (KD × D))
  | dt (kvs : List (List KD × D))
instance : Inhabited Ob := ⟨.lst []⟩
abbrev Sl := List (Option D)
abbrev Hs := List Ob

structure Cc where
  K : PySem.W.Frag
  mg : Str → Option Value

def RoL (K : PySem.W.Frag) (H : Hp) (a : Addr) (vs : List V) : Prop :=
  (∃ o, H a = some (.frz o (.lst vs))) ∨
    ∃ (o : Obj) (its : Array Value) (n : Nat), K.lookup a = some o ∧ o.cls = .type "list" ∧ o.dict = none ∧ o.data = .seq its n ∧ its.size ≤ sizeLine ∧ Vals vs its.toList
theorem RoL.seq {K : PySem.W.Frag} {H : Hp} {a : Addr} {vs : List V} (h : RoL K H a vs) : SqL K H a vs := by
  rcases h with h | h
  · exact .inl (.inr h)
  · exact .inr h

mutual
inductive Emb (C : Cc) (ρ : List Addr) (H : Hp) : D → V → Prop
  | non : Emb C ρ H .non .non
  | bl (b : Bool) : Emb C ρ H (.bl b) (.bl b)
  | int (i : Int) : Emb C ρ H (.int i) (.int i)
  | str (cs : List Nat) : Emb C ρ H (.str cs) (.str ⟨cs.toArray⟩)
  | ty (n : String) : Emb C ρ H (.ty n) (.ty n)
  | gl {x : Str} {a : Addr} (h : C.mg x = some (.ref a)) : Emb C ρ H (.gl x) (.ref a)
  | tup {ds : List D} {vs : List V} {a : Addr} (h : SqT C.K H a vs) (hs : Embs C ρ H ds vs) : Emb C ρ H (.tup ds) (.ref a)
  | rol {ds : List D} {vs : List V} {a : Addr} (h : RoL C.K H a vs) (hs : Embs C ρ H ds vs) : Emb C ρ H (.rol ds) (.ref a)
  | ref {i : Nat} {a : Addr} (h : ρ[i]? = some a) : Emb C ρ H (.ref i) (.ref a)
inductive Embs (C : Cc) (ρ : List Addr) (H : Hp) : List D → List V → Prop
  | nil : Embs C ρ H [] []
  | cons {d : D} {v : V} {ds : List D} {vs : List V} (h : Emb C ρ H d v) (hs : Embs C ρ H ds vs) : Embs C ρ H (d :: ds) (v :: vs)
end

/-- pairs of a dict -/
inductive EmbK (C : Cc) (ρ : List Addr) (H : Hp) : List (KD × D) → List (Key × V) → Prop
  | nil : EmbK C ρ H [] []
  | cons {k : KD} {d : D} {v : V} {ds : List (KD × D)} {vs : List (Key × V)} (h : Emb C ρ H d v) (hs : EmbK C ρ H ds vs) : EmbK C ρ H ((k, d) :: ds) ((keyOf k, v) :: vs)
inductive EmbT (C : Cc) (ρ : List Addr) (H : Hp) : List (List KD × D) → List (List Key × V) → Prop
  | nil : EmbT C ρ H [] []
  | cons {k : List KD} {d : D} {v : V} {ds : List (List KD × D)} {vs : List (List Key × V)} (h : Emb C ρ H d v) (hs : EmbT C ρ H ds vs) : EmbT C ρ H ((k, d) :: ds) ((k.map keyOf, v) :: vs)

def ObOk (C : Cc) (ρ : List Addr) (H : Hp) (a : Addr) : Ob → Prop
  | .lst ds => ∃ vs, H a = some (.lst vs) ∧ Embs C ρ H ds vs
  | .dk kvs => ∃ vs, H a = some (.dK vs) ∧ EmbK C ρ H kvs vs
  | .dt kvs => ∃ vs, H a = some (.dT vs) ∧ EmbT C ρ H kvs vs

structure HeapOk (C : Cc) (ρ : List Addr) (h : Hs) (H : Hp) : Prop where
  len : ρ.length = h.length
  nd : ρ.Nodup
  ob : ∀ (i : Nat) (a : Addr) (o : Ob), ρ[i]? = some a → h[i]? = some o → ObOk C ρ H a o

structure Ext (ρ ρ' : List Addr) (H H' : Hp) : Prop where
  pre : ∃ l, ρ' = ρ ++ l
  keep : ∀ a o, H a = some o → a ∉ ρ → H' a = some o
  new : ∀ a, a ∈ ρ' → a ∉ ρ → H a = none
  tup : ∀ a xs, H a = some (.tup xs) → H' a = some (.tup xs)
  frz : ∀ a o u, H a = some (.frz o u) → H' a = some (.frz o u)

section
variable {C : Cc} {ρ ρ1 ρ2 : List Addr} {H H1 H2 : Hp}
theorem Ext.refl : Ext ρ ρ H H := ⟨⟨[], by simp⟩, fun _ _ h _ => h, fun _ h h' => absurd h h', fun _ _ h => h, fun _ _ _ h => h⟩
theorem Ext.sub (e : Ext ρ ρ1 H H1) : ∀ a, a ∈ ρ → a ∈ ρ1 := fun a h => by
  obtain ⟨l, rfl⟩ := e.pre
  exact List.mem_append_left _ h
theorem Ext.at (e : Ext ρ ρ1 H H1) {i : Nat} {a : Addr} (h : ρ[i]? = some a) : ρ1[i]? = some a := by
  obtain ⟨l, rfl⟩ := e.pre
  rw [List.getElem?_append_left (List.getElem?_eq_some_iff.mp h).1]
  exact h
theorem Ext.trans (a : Ext ρ ρ1 H H1) (b : Ext ρ1 ρ2 H1 H2) : Ext ρ ρ2 H H2 := by
  obtain ⟨l, e1⟩ := a.pre
  obtain ⟨m, e2⟩ := b.pre
  refine ⟨⟨l ++ m, by rw [e2, e1, List.append_assoc]⟩, fun c o h hc => ?_, fun c h hc => ?_, fun c xs h => b.tup _ _ (a.tup _ _ h), fun c o u h => b.frz _ _ _ (a.frz _ _ _ h)⟩
  · refine b.keep c o (a.keep c o h hc) fun h1 => ?_
    rw [a.new c h1 hc] at h
    cases h
  · by_cases h1 : c ∈ ρ1
    · exact a.new c h1 hc
    · have z := b.new c h h1
      cases q : H c with
      | none => rfl
      | some o =>
        rw [a.keep c o q hc] at z
        cases z
theorem Ext.sqT (e : Ext ρ ρ1 H H1) {K : PySem.W.Frag} {a : Addr} {xs : List V} (h : SqT K H a xs) : SqT K H1 a xs := by
  rcases h with (h | ⟨o, h⟩) | h
  · exact .inl (.inl (e.tup _ _ h))
  · exact .inl (.inr ⟨o, e.frz _ _ _ h⟩)
  · exact .inr h
theorem Ext.roL (e : Ext ρ ρ1 H H1) {K : PySem.W.Frag} {a : Addr} {xs : List V} (h : RoL K H a xs) : RoL K H1 a xs := by
  rcases h with ⟨o, h⟩ | h
  · exact .inl ⟨o, e.frz _ _ _ h⟩
  · exact .inr h
/-- what data lean on -/
structure Low (ρ ρ' : List Addr) (H H' : Hp) : Prop where
  pre : ∃ l, ρ' = ρ ++ l
  tup : ∀ a xs, H a = some (.tup xs) → H' a = some (.tup xs)
  frz : ∀ a o u, H a = some (.frz o u) → H' a = some (.frz o u)
theorem Ext.low (e : Ext ρ ρ1 H H1) : Low ρ ρ1 H H1 := ⟨e.pre, e.tup, e.frz⟩
theorem Low.at (e : Low ρ ρ1 H H1) {i : Nat} {a : Addr} (h : ρ[i]? = some a) : ρ1[i]? = some a := by
  obtain ⟨l, rfl⟩ := e.pre
  rw [List.getElem?_append_left (List.getElem?_eq_some_iff.mp h).1]
  exact h
theorem Low.sqT (e : Low ρ ρ1 H H1) {K : PySem.W.Frag} {a : Addr} {xs : List V} (h : SqT K H a xs) : SqT K H1 a xs := by
  rcases h with (h | ⟨o, h⟩) | h
  · exact .inl (.inl (e.tup _ _ h))
  · exact .inl (.inr ⟨o, e.frz _ _ _ h⟩)
  · exact .inr h
theorem Low.roL (e : Low ρ ρ1 H H1) {K : PySem.W.Frag} {a : Addr} {xs : List V} (h : RoL K H a xs) : RoL K H1 a xs := by
  rcases h with ⟨o, h⟩ | h
  · exact .inl ⟨o, e.frz _ _ _ h⟩
  · exact .inr h
mutual
theorem Emb.low (e : Low ρ ρ1 H H1) {d : D} {v : V} (h : Emb C ρ H d v) : Emb C ρ1 H1 d v := by
  match h with
  | .non => exact .non
  | .bl b => exact .bl b
  | .int i => exact .int i
  | .str cs => exact .str cs
  | .ty n => exact .ty n
  | .gl h => exact .gl h
  | .tup h hs => exact .tup (e.sqT h) (Embs.low e hs)
  | .rol h hs => exact .rol (e.roL h) (Embs.low e hs)
  | .ref h => exact .ref (e.at h)
theorem Embs.low (e : Low ρ ρ1 H H1) {d : List D} {v : List V} (h : Embs C ρ H d v) : Embs C ρ1 H1 d v := by
  match h with
  | .nil => exact .nil
  | .cons h hs => exact .cons (Emb.low e h) (Embs.low e hs)
end
theorem Emb.mono (e : Ext ρ ρ1 H H1) {d : D} {v : V} (h : Emb C ρ H d v) : Emb C ρ1 H1 d v := h.low e.low
theorem Embs.mono (e : Ext ρ ρ1 H H1) {d : List D} {v : List V} (h : Embs C ρ H d v) : Embs C ρ1 H1 d v := h.low e.low
theorem EmbK.low (e : Low ρ ρ1 H H1) {d : List (KD × D)} {v : List (Key × V)} (h : EmbK C ρ H d v) : EmbK C ρ1 H1 d v := by
  induction h with
  | nil => exact .nil
  | cons h _ ih => exact .cons (h.low e) ih
theorem EmbK.mono (e : Ext ρ ρ1 H H1) {d : List (KD × D)} {v : List (Key × V)} (h : EmbK C ρ H d v) : EmbK C ρ1 H1 d v := h.low e.low
theorem EmbT.low (e : Low ρ ρ1 H H1) {d : List (List KD × D)} {v : List (List Key × V)} (h : EmbT C ρ H d v) : EmbT C ρ1 H1 d v := by
  induction h with
  | nil => exact .nil
  | cons h _ ih => exact .cons (h.low e) ih
theorem EmbT.mono (e : Ext ρ ρ1 H H1) {d : List (List KD × D)} {v : List (List Key × V)} (h : EmbT C ρ H d v) : EmbT C ρ1 H1 d v := h.low e.low
theorem Embs.length {ds : List D} {vs : List V} (h : Embs C ρ H ds vs) : ds.length = vs.length := by
  match h with
  | .nil => rfl
  | .cons _ hs => rw [List.length_cons, List.length_cons, Embs.length hs]
theorem Embs.get {ds : List D} {vs : List V} (h : Embs C ρ H ds vs) {i : Nat} {d : D} (e : ds[i]? = some d) : ∃ v, vs[i]? = some v ∧ Emb C ρ H d v := by
  match h, i with
  | .nil, i => simp at e
  | .cons h _, 0 =>
    have e' := Option.some.inj e
    subst e'
    exact ⟨_, rfl, h⟩
  | .cons _ hs, i + 1 => exact Embs.get hs (i := i) e
theorem Embs.getV {ds : List D} {vs : List V} (h : Embs C ρ H ds vs) {i : Nat} {v : V} (e : vs[i]? = some v) : ∃ d, ds[i]? = some d ∧ Emb C ρ H d v := by
  match h, i with
  | .nil, i => simp at e
  | .cons h _, 0 =>
    have e' := Option.some.inj e
    subst e'
    exact ⟨_, rfl, h⟩
  | .cons _ hs, i + 1 => exact Embs.getV hs (i := i) e
theorem Embs.append {ds es : List D} {vs ws : List V} (h : Embs C ρ H ds vs) (h' : Embs C ρ H es ws) : Embs C ρ H (ds ++ es) (vs ++ ws) := by
  match h with
  | .nil => exact h'
  | .cons h hs => exact .cons h (Embs.append hs h')
theorem Embs.one {d : D} {v : V} (h : Emb C ρ H d v) : Embs C ρ H [d] [v] := .cons h .nil
theorem Embs.take {ds : List D} {vs : List V} (h : Embs C ρ H ds vs) (n : Nat) : Embs C ρ H (ds.take n) (vs.take n) := by
  match h, n with
  | .nil, n => rw [List.take_nil, List.take_nil]; exact .nil
  | .cons _ _, 0 => exact .nil
  | .cons h hs, n + 1 => exact .cons h (Embs.take hs n)
theorem Embs.drop {ds : List D} {vs : List V} (h : Embs C ρ H ds vs) (n : Nat) : Embs C ρ H (ds.drop n) (vs.drop n) := by
  match h, n with
  | .nil, n => rw [List.drop_nil, List.drop_nil]; exact .nil
  | .cons h hs, 0 => exact .cons h hs
  | .cons h hs, n + 1 => exact Embs.drop hs n
theorem Embs.set {ds : List D} {vs : List V} (h : Embs C ρ H ds vs) {d : D} {v : V} (hd : Emb C ρ H d v) (n : Nat) : Embs C ρ H (ds.set n d) (vs.set n v) := by
  match h, n with
  | .nil, n => exact .nil
  | .cons _ hs, 0 => exact .cons hd hs
  | .cons h hs, n + 1 => exact .cons h (Embs.set hs hd n)
theorem Embs.reverse {ds : List D} {vs : List V} (h : Embs C ρ H ds vs) : Embs C ρ H ds.reverse vs.reverse := by
  match h with
  | .nil => exact .nil
  | .cons h hs =>
    rw [List.reverse_cons, List.reverse_cons]
    exact (Embs.reverse hs).append (.one h)
theorem Embs.eraseIdx {ds : List D} {vs : List V} (h : Embs C ρ H ds vs) (n : Nat) : Embs C ρ H (ds.eraseIdx n) (vs.eraseIdx n) := by
  match h, n with
  | .nil, n => exact .nil
  | .cons _ hs, 0 => exact hs
  | .cons h hs, n + 1 => exact .cons h (Embs.eraseIdx hs n)
theorem Embs.dropLast {ds : List D} {vs : List V} (h : Embs C ρ H ds vs) : Embs C ρ H ds.dropLast vs.dropLast := by
  rw [List.dropLast_eq_take, List.dropLast_eq_take, h.length]
  exact h.take _
theorem ObOk.low (e : Low ρ ρ1 H H1) {a : Addr} {o : Ob} (h : ObOk C ρ H a o) (k : ∀ u, H a = some u → H1 a = some u) : ObOk C ρ1 H1 a o := by
  cases o with
  | lst ds =>
    obtain ⟨vs, h1, h2⟩ := h
    exact ⟨vs, k _ h1, h2.low e⟩
  | dk ds =>
    obtain ⟨vs, h1, h2⟩ := h
    exact ⟨vs, k _ h1, h2.low e⟩
  | dt ds =>
    obtain ⟨vs, h1, h2⟩ := h
    exact ⟨vs, k _ h1, h2.low e⟩
theorem ObOk.mono (e : Ext ρ ρ1 H H1) {a : Addr} {o : Ob} (h : ObOk C ρ H a o) (k : ∀ u, H a = some u → H1 a = some u) : ObOk C ρ1 H1 a o := h.low e.low k
theorem ObOk.there {a : Addr} {o : Ob} (h : ObOk C ρ H a o) : ∃ u, H a = some u ∧ Mut (some u) := by
  cases o with
  | lst ds =>
    obtain ⟨vs, h1, h2⟩ := h
    exact ⟨_, h1, True.intro⟩
  | dk ds =>
    obtain ⟨vs, h1, h2⟩ := h
    exact ⟨_, h1, True.intro⟩
  | dt ds =>
    obtain ⟨vs, h1, h2⟩ := h
    exact ⟨_, h1, True.intro⟩
variable {h : Hs}
theorem HeapOk.ex (ok : HeapOk C ρ h H) {i : Nat} {a : Addr} (e : ρ[i]? = some a) : ∃ o, h[i]? = some o ∧ ObOk C ρ H a o := by
  have hi : i < h.length := by
    rw [← ok.len]
    exact (List.getElem?_eq_some_iff.mp e).1
  exact ⟨h[i], List.getElem?_eq_getElem hi, ok.ob i a _ e (List.getElem?_eq_getElem hi)⟩
theorem HeapOk.mem (ok : HeapOk C ρ h H) {a : Addr} (m : a ∈ ρ) : ∃ u, H a = some u ∧ Mut (some u) := by
  obtain ⟨i, hi, e⟩ := List.getElem_of_mem m
  obtain ⟨o, _, h2⟩ := ok.ex (i := i) (a := a) (by rw [List.getElem?_eq_getElem hi, e])
  exact h2.there
theorem HeapOk.notin (ok : HeapOk C ρ h H) {a : Addr} (n : H a = none) : a ∉ ρ := fun m => by
  obtain ⟨u, e, _⟩ := ok.mem m
  rw [n] at e
  cases e
theorem HeapOk.nil : HeapOk C [] [] H := ⟨rfl, List.nodup_nil, fun i a o e => by simp at e⟩
/-- a new object that is not told of -/
theorem Ext.fresh {p : Addr} {o : HO} (n : H p = none) : Ext ρ ρ H (upd H p o) :=
  ⟨⟨[], by simp⟩, fun a u e _ => by rw [upd_ne (ne_of_none e n)]; exact e, fun _ h h' => absurd h h', fun a u e => by rw [upd_ne (ne_of_none e n)]; exact e, fun a u v e => by rw [upd_ne (ne_of_none e n)]; exact e⟩
theorem HeapOk.fresh (ok : HeapOk C ρ h H) {p : Addr} {o : HO} (n : H p = none) : HeapOk C ρ h (upd H p o) :=
  ⟨ok.len, ok.nd, fun i a b e1 e2 => (ok.ob i a b e1 e2).mono (Ext.fresh n) fun u e => by rw [upd_ne (ne_of_none e n)]; exact e⟩
/-- a new object that is told of -/
theorem Ext.laid {p : Addr} {o : HO} (n : H p = none) : Ext ρ (ρ ++ [p]) H (upd H p o) :=
  ⟨⟨[p], rfl⟩, fun a u e _ => by rw [upd_ne (ne_of_none e n)]; exact e, fun a m m' => by
    rcases List.mem_append.mp m with z | z
    · exact absurd z m'
    · rw [List.mem_singleton.mp z]; exact n, fun a u e => by rw [upd_ne (ne_of_none e n)]; exact e, fun a u v e => by rw [upd_ne (ne_of_none e n)]; exact e⟩
theorem HeapOk.laid (ok : HeapOk C ρ h H) {p : Addr} {o : HO} {b : Ob} (n : H p = none) (hb : ObOk C (ρ ++ [p]) (upd H p o) p b) : HeapOk C (ρ ++ [p]) (h ++ [b]) (upd H p o) := by
  refine ⟨by rw [List.length_append, List.length_append, ok.len]; rfl, ?_, fun i a u e1 e2 => ?_⟩
  · refine List.nodup_append.mpr ⟨ok.nd, by simp, fun a ha b hb z => ?_⟩
    rw [List.mem_singleton.mp hb] at z
    exact ok.notin n (z ▸ ha)
  · by_cases hi : i < ρ.length
    · rw [List.getElem?_append_left hi] at e1
      rw [List.getElem?_append_left (by rw [← ok.len]; exact hi)] at e2
      exact (ok.ob i a u e1 e2).mono (Ext.laid n) fun w e => by rw [upd_ne (ne_of_none e n)]; exact e
    · have hl : i = ρ.length := by
        have := (List.getElem?_eq_some_iff.mp e1).1
        rw [List.length_append] at this
        simp at this
        omega
      subst hl
      rw [List.getElem?_append_right (Nat.le_refl _)] at e1
      rw [List.getElem?_append_right (by rw [ok.len]; exact Nat.le_refl _), ok.len] at e2
      simp at e1 e2
      subst e1 e2
      exact hb
/-- an object that is told of is written -/
theorem Ext.write {i : Nat} {p : Addr} {o : HO} (ok : HeapOk C ρ h H) (e : ρ[i]? = some p) : Ext ρ ρ H (upd H p o) := by
  obtain ⟨u, hu, mu⟩ := ok.mem (List.mem_of_getElem? e)
  refine ⟨⟨[], by simp⟩, fun a v hv ha => ?_, fun _ m m' => absurd m m', fun a xs hx => ?_, fun a b v hx => ?_⟩
  · rw [upd_ne (fun z => ha (by rw [z]; exact List.mem_of_getElem? e))]; exact hv
  · rw [upd_ne (fun z => by subst z; rw [hx] at hu; cases hu; exact mu)]; exact hx
  · rw [upd_ne (fun z => by subst z; rw [hx] at hu; cases hu; exact mu)]; exact hx
theorem HeapOk.write {i : Nat} {p : Addr} {o : HO} {b : Ob} (ok : HeapOk C ρ h H) (e : ρ[i]? = some p) (hb : ObOk C ρ (upd H p o) p b) : HeapOk C ρ (h.set i b) (upd H p o) := by
  refine ⟨by rw [List.length_set]; exact ok.len, ok.nd, fun j a u e1 e2 => ?_⟩
  by_cases hj : i = j
  · subst hj
    have e3 : a = p := Option.some.inj (e1.symm.trans e)
    subst e3
    have hi : i < h.length := by rw [← ok.len]; exact (List.getElem?_eq_some_iff.mp e).1
    rw [List.getElem?_set_self hi] at e2
    cases e2
    exact hb
  · rw [List.getElem?_set_ne hj] at e2
    have hne : a ≠ p := fun z => by
      subst z
      have h1 := List.getElem?_eq_some_iff.mp e
      have h2 := List.getElem?_eq_some_iff.mp e1
      obtain ⟨l1, q1⟩ := h1
      obtain ⟨l2, q2⟩ := h2
      exact hj ((List.getElem_inj ok.nd).mp (q1.trans q2.symm))
    exact (ok.ob j a u e1 e2).mono (Ext.write ok e) fun w q => by rw [upd_ne hne]; exact q
end

/-! ### results -/
inductive Res (α : Type) where
  | ok (a : α) (h : Hs)
  | exc (c : Str) (h : Hs)
  | stuck
def Res.bind {α β : Type} (r : Res α) (k : α → Hs → Res β) : Res β := match r with
  | .ok a h => k a h
  | .exc c h => .exc c h
  | .stuck => .stuck
def Pst {α : Type} (C : Cc) (W : WX) (ρ : List Addr) (σ : L2.St) (H : Hp) (r : Res α) (G : α → Hs → List Addr → Hp → Prop) : Prop := match r with
  | .ok a h => ∀ ρ' H', Ext ρ ρ' H H' → HeapOk C ρ' h H' → G a h ρ' H'
  | .exc c h => ∀ ρ' H' a, Ext ρ ρ' H H' → HeapOk C ρ' h H' → C.mg c = some (.ref a) → W (.ref a) none σ H'
  | .stuck => False
section
variable {α β : Type} {C : Cc} {W : WX} {ρ ρ1 : List Addr} {σ : L2.St} {H H1 : Hp} {r : Res α} {k : α → Hs → Res β} {G : β → Hs → List Addr → Hp → Prop} {G1 : α → Hs → List Addr → Hp → Prop}
theorem Pst.mono (p : Pst C W ρ σ H r G1) (e : Ext ρ ρ1 H H1) : Pst C W ρ1 σ H1 r G1 := by
  cases r with
  | ok a h => exact fun ρ' H' e1 => p ρ' H' (e.trans e1)
  | exc c h => exact fun ρ' H' a e1 => p ρ' H' a (e.trans e1)
  | stuck => exact p
theorem Pst.bind (p : Pst C W ρ σ H (r.bind k) G) : Pst C W ρ σ H r (fun a h1 ρ1 H1 => Pst C W ρ1 σ H1 (k a h1) G) := by
  cases r with
  | ok a h => exact fun ρ' H' e1 _ => Pst.mono (r := k a h) p e1
  | exc c h => exact p
  | stuck => exact p
theorem Pst.imp {G2 : α → Hs → List Addr → Hp → Prop} (p : Pst C W ρ σ H r G1) (h : ∀ a h' ρ' H', Ext ρ ρ' H H' → HeapOk C ρ' h' H' → G1 a h' ρ' H' → G2 a h' ρ' H') : Pst C W ρ σ H r G2 := by
  cases r with
  | ok a h1 => exact fun ρ' H' e1 e2 => h _ _ _ _ e1 e2 (p ρ' H' e1 e2)
  | exc c h => exact p
  | stuck => exact p
end
def GV (C : Cc) (Q : VK) : D → Hs → List Addr → Hp → Prop := fun d _ ρ H => ∀ v, Emb C ρ H d v → Q v H
def GB (Q : Bool → Hp → Prop) : Bool → Hs → List Addr → Hp → Prop := fun b _ _ H => Q b H
def GA (C : Cc) (Q : List V → Hp → Prop) : List D → Hs → List Addr → Hp → Prop := fun ds _ ρ H => ∀ vs, Embs C ρ H ds vs → Q vs H
/-- a new list of such items -/
def GL (C : Cc) (Q : VK) : List D → Hs → List Addr → Hp → Prop := fun ds _ ρ H => ∀ p vs, H p = none → Embs C ρ H ds vs → Q (.ref p) (upd H p (.lst vs))

structure EnvOk (C : Cc) (ρ : List Addr) (H : Hp) (env : Sl) (σ : L2.St) : Prop where
  len : env.length = σ.length
  at_ : ∀ (i : Nat) (d : D), env[i]? = some (some d) → ∃ v, σ[i]? = some (some v) ∧ Emb C ρ H d v
theorem EnvOk.mono {C : Cc} {ρ ρ1 : List Addr} {H H1 : Hp} {env : Sl} {σ : L2.St} (h : EnvOk C ρ H env σ) (e : Ext ρ ρ1 H H1) : EnvOk C ρ1 H1 env σ :=
  ⟨h.len, fun i d q => let ⟨v, q1, q2⟩ := h.at_ i d q; ⟨v, q1, q2.mono e⟩⟩
theorem EnvOk.set {C : Cc} {ρ : List Addr} {H : Hp} {env : Sl} {σ : L2.St} (h : EnvOk C ρ H env σ) {d : D} {v : V} (hd : Emb C ρ H d v) (i : Nat) : EnvOk C ρ H (env.set i (some d)) (σ.set i (some v)) := by
  refine ⟨by rw [List.length_set, List.length_set]; exact h.len, fun j d' q => ?_⟩
  by_cases hj : i = j
  · subst hj
    have hi : i < env.length := by
      have := (List.getElem?_eq_some_iff.mp q).1
      rwa [List.length_set] at this
    rw [List.getElem?_set_self hi] at q
    cases q
    exact ⟨v, by rw [List.getElem?_set_self (by rw [← h.len]; exact hi)], hd⟩
  · rw [List.getElem?_set_ne hj] at q
    obtain ⟨v', q1, q2⟩ := h.at_ j d' q
    exact ⟨v', by rw [List.getElem?_set_ne hj]; exact q1, q2⟩

/-! ### sound readings -/
abbrev XE := Sl → Hs → Res D
abbrev XB := Sl → Hs → Res Bool
abbrev XA := Sl → Hs → Res (List D)
structure SoE (C : Cc) (W : WX) (te : TE) (f : XE) : Prop where
  go : ∀ {env h ρ σ H Q}, EnvOk C ρ H env σ → HeapOk C ρ h H → Pst C W ρ σ H (f env h) (GV C Q) → te σ H Q
structure SoB (C : Cc) (W : WX) (te : TT) (f : XB) : Prop where
  go : ∀ {env h ρ σ H Q}, EnvOk C ρ H env σ → HeapOk C ρ h H → Pst C W ρ σ H (f env h) (GB Q) → te σ H Q
structure SoA (C : Cc) (W : WX) (te : TA) (f : XA) : Prop where
  go : ∀ {env h ρ σ H Q}, EnvOk C ρ H env σ → HeapOk C ρ h H → Pst C W ρ σ H (f env h) (GA C Q) → te σ H Q
/-- a new list -/
structure SoL (C : Cc) (W : WX) (te : TE) (f : XA) : Prop where
  go : ∀ {env h ρ σ H Q}, EnvOk C ρ H env σ → HeapOk C ρ h H → Pst C W ρ σ H (f env h) (GL C Q) → te σ H Q
structure FE (X : Cx) (W : WX) (e : Expr) (te : TE) (f : XE) : Prop where
  pe : PE X e te
  so : SoE ⟨X.K, X.mg⟩ W te f
structure FLs (X : Cx) (W : WX) (e : Expr) (te : TE) (f : XA) : Prop where
  pe : PE X e te
  so : SoL ⟨X.K, X.mg⟩ W te f
structure FT (X : Cx) (W : WX) (e : Expr) (te : TT) (f : XB) : Prop where
  pe : PT X e te
  so : SoB ⟨X.K, X.mg⟩ W te f
structure FW (X : Cx) (W : WX) (e : Expr) (te : TT) (f : XB) : Prop where
  pe : PW X e te
  so : SoB ⟨X.K, X.mg⟩ W te f
structure FAs (X : Cx) (W : WX) (es : List Expr) (te : TA) (f : XA) : Prop where
  pe : PA X es te
  so : SoA ⟨X.K, X.mg⟩ W te f
/-- a new list as a value -/
def xNew (f : XA) : XE := fun env h => (f env h).bind fun ds h1 => .ok (.ref h1.length) (h1 ++ [.lst ds])
theorem SoL.val {C : Cc} {W : WX} {te : TE} {f : XA} (s : SoL C W te f) : SoE C W te (xNew f) := ⟨fun {env h ρ σ H Q} he hh hp => by
  refine s.go he hh ((Pst.bind hp).imp fun ds h1 ρ1 H1 e1 ok1 p1 => ?_)
  intro p vs n hs
  have e2 : Ext ρ1 (ρ1 ++ [p]) H1 (upd H1 p (.lst vs)) := Ext.laid n
  refine p1 (ρ1 ++ [p]) _ e2 (ok1.laid n ⟨vs, upd_same, hs.mono e2⟩) _ (.ref ?_)
  rw [← ok1.len, List.getElem?_append_right (Nat.le_refl _)]
  simp⟩
theorem FLs.val {X : Cx} {W : WX} {e : Expr} {te : TE} {f : XA} (s : FLs X W e te f) : FE X W e te (xNew f) := ⟨s.pe, s.so.val⟩
end FL

/-! FB: expressions. -/
namespace FL
open PySem PySem.Spec PyProof.Rows L2

/-! ### values -/
def xVar (i : Nat) : XE := fun env h => match env[i]? with
  | some (some d) => .ok d h
  | _ => .stuck
def xC (d : D) : XE := fun _ h => .ok d h
def xOp (g : D → D → Hs → Res D) (fa fb : XE) : XE := fun env h => (fa env h).bind fun d1 h1 => (fb env h1).bind fun d2 h2 => g d1 d2 h2
def xUn (g : D → Hs → Res D) (fa : XE) : XE := fun env h => (fa env h).bind fun d1 h1 => g d1 h1
def xNil : XA := fun _ h => .ok [] h
def xCons (fa : XE) (fr : XA) : XA := fun env h => (fa env h).bind fun d h1 => (fr env h1).bind fun ds h2 => .ok (d :: ds) h2
def xTup (fa : XA) : XE := fun env h => (fa env h).bind fun ds h1 => if ds.length ≤ 100000 then .ok (.tup ds) h1 else .stuck
def xLst (fa : XA) : XA := fun env h => (fa env h).bind fun ds h1 => if ds.length ≤ 100000 then .ok ds h1 else .stuck
/-- a value that is a bool, as a test -/
def xTest (f : XE) : XB := fun env h => (f env h).bind fun d h1 => match d with
  | .bl b => .ok b h1
  | _ => .stuck
def xAndB (f g : XB) : XB := fun env h => (f env h).bind fun b h1 => if b then g env h1 else .ok false h1
def xOrB (f g : XB) : XB := fun env h => (f env h).bind fun b h1 => if b then .ok true h1 else g env h1
def xNotB (f : XB) : XB := fun env h => (f env h).bind fun b h1 => .ok (!b) h1
def xAnd (f g : XE) : XE := fun env h => (f env h).bind fun d h1 => match d with
  | .bl b => if b then g env h1 else .ok (.bl false) h1
  | _ => .stuck
def xOr (f g : XE) : XE := fun env h => (f env h).bind fun d h1 => match d with
  | .bl b => if b then .ok (.bl true) h1 else g env h1
  | _ => .stuck
def xNot (f : XE) : XE := fun env h => (f env h).bind fun d h1 => match d with
  | .bl b => .ok (.bl (!b)) h1
  | _ => .stuck
def xIf (c : XB) (f g : XE) : XE := fun env h => (c env h).bind fun b h1 => if b then f env h1 else g env h1

theorem sz_ok {n : Nat} (h : n ≤ 100000) : n ≤ sizeLine := Nat.le_trans h (by decide)
theorem sz_lt' {n : Nat} (h : n < 100000) : n < sizeLine := Nat.lt_of_lt_of_le h (by decide)

section
variable {C : Cc} {W : WX} {te ta tb : TE} {f g fa fb : XE} {tA tr : TA} {fA fr : XA} {tt tu : TT} {c d : XB}
structure SoO (C : Cc) (W : WX) (r : R2) (op : D → D → Hs → Res D) : Prop where
  go : ∀ {h ρ σ H Q d1 d2 x y}, HeapOk C ρ h H → Emb C ρ H d1 x → Emb C ρ H d2 y → Pst C W ρ σ H (op d1 d2 h) (GV C Q) → r x y H Q
structure SoU (C : Cc) (W : WX) (r : V → Hp → VK → Prop) (op : D → Hs → Res D) : Prop where
  go : ∀ {h ρ σ H Q d1 x}, HeapOk C ρ h H → Emb C ρ H d1 x → Pst C W ρ σ H (op d1 h) (GV C Q) → r x H Q
structure SoC (C : Cc) (W : WX) (r : List V → Hp → VK → Prop) (op : List D → Hs → Res D) : Prop where
  go : ∀ {h ρ σ H Q ds xs}, HeapOk C ρ h H → Embs C ρ H ds xs → Pst C W ρ σ H (op ds h) (GV C Q) → r xs H Q
theorem so_var {i : Nat} : SoE C W (tVar i) (xVar i) := ⟨fun {env h ρ σ H Q} he hh hp => by
  unfold xVar at hp
  split at hp
  · rename_i d e
    obtain ⟨v, e1, hv⟩ := he.at_ i d e
    exact ⟨v, e1, hp ρ H Ext.refl hh v hv⟩
  · exact hp.elim⟩
theorem so_c {d : D} {v : V} (hd : ∀ ρ H, Emb C ρ H d v) : SoE C W (tC v) (xC d) := ⟨fun {env h ρ σ H Q} he hh hp => hp ρ H Ext.refl hh v (hd ρ H)⟩
theorem so_op {r : R2} {op : D → D → Hs → Res D} (ho : SoO C W r op) (ha : SoE C W ta fa) (hb : SoE C W tb fb) : SoE C W (tOp r ta tb) (xOp op fa fb) := ⟨fun {env h ρ σ H Q} he hh hp =>
  ha.go he hh ((Pst.bind hp).imp fun d1 h1 ρ1 H1 e1 ok1 p1 x hx =>
    hb.go (he.mono e1) ok1 ((Pst.bind p1).imp fun d2 h2 ρ2 H2 e2 ok2 p2 y hy => ho.go ok2 (hx.mono e2) hy p2))⟩
theorem so_un {r : V → Hp → VK → Prop} {op : D → Hs → Res D} (ho : SoU C W r op) (ha : SoE C W ta fa) : SoE C W (tUn r ta) (xUn op fa) := ⟨fun {env h ρ σ H Q} he hh hp =>
  ha.go he hh ((Pst.bind hp).imp fun d1 h1 ρ1 H1 e1 ok1 p1 x hx => ho.go ok1 hx p1)⟩
theorem so_nil : SoA C W tNil xNil := ⟨fun {env h ρ σ H Q} he hh hp => hp ρ H Ext.refl hh [] .nil⟩
theorem so_cons (ha : SoE C W ta fa) (hr : SoA C W tr fr) : SoA C W (tCons ta tr) (xCons fa fr) := ⟨fun {env h ρ σ H Q} he hh hp =>
  ha.go he hh ((Pst.bind hp).imp fun d1 h1 ρ1 H1 e1 ok1 p1 x hx =>
    hr.go (he.mono e1) ok1 ((Pst.bind p1).imp fun ds h2 ρ2 H2 e2 ok2 p2 xs hxs => p2 ρ2 H2 Ext.refl ok2 (x :: xs) (.cons (hx.mono e2) hxs)))⟩
theorem so_tup (ha : SoA C W tA fA) : SoE C W (tTup tA) (xTup fA) := ⟨fun {env h ρ σ H Q} he hh hp =>
  ha.go he hh ((Pst.bind hp).imp fun ds h1 ρ1 H1 e1 ok1 p1 xs hx => by
    split at p1
    · rename_i hl
      refine ⟨sz_ok (by rw [← hx.length]; exact hl), fun p n => ?_⟩
      exact p1 ρ1 _ (Ext.fresh n) (ok1.fresh n) _ (.tup (SqT.of upd_same) (hx.mono (Ext.fresh n)))
    · exact p1.elim)⟩
theorem so_lst (ha : SoA C W tA fA) : SoL C W (tLst tA) (xLst fA) := ⟨fun {env h ρ σ H Q} he hh hp =>
  ha.go he hh ((Pst.bind hp).imp fun ds h1 ρ1 H1 e1 ok1 p1 xs hx => by
    split at p1
    · rename_i hl
      refine ⟨sz_ok (by rw [← hx.length]; exact hl), fun p n => ?_⟩
      exact p1 ρ1 H1 Ext.refl ok1 p xs n hx
    · exact p1.elim)⟩
theorem bool_of {ρ : List Addr} {H : Hp} {d : D} {b : Bool} {v : V} (h : Emb C ρ H d v) (e : d = .bl b) : v = .bl b := by
  subst e
  cases h
  rfl
theorem so_test (ha : SoE C W ta fa) : SoB C W (tB ta) (xTest fa) := ⟨fun {env h ρ σ H Q} he hh hp =>
  ha.go he hh ((Pst.bind hp).imp fun d1 h1 ρ1 H1 e1 ok1 p1 x hx => by
    split at p1
    · cases hx
      exact ⟨_, rfl, p1 ρ1 H1 Ext.refl ok1⟩
    · exact p1.elim)⟩
theorem so_testT (ha : SoE C W ta fa) : SoB C W (tTest ta) (xTest fa) := ⟨fun {env h ρ σ H Q} he hh hp => (so_test ha).go he hh hp⟩
theorem so_andB (ha : SoB C W tt c) (hb : SoB C W tu d) : SoB C W (tAnd tt tu) (xAndB c d) := ⟨fun {env h ρ σ H Q} he hh hp =>
  ha.go he hh ((Pst.bind hp).imp fun b h1 ρ1 H1 e1 ok1 p1 => by
    cases b with
    | true =>
      rw [if_pos rfl] at p1
      exact (if_pos rfl : (if (true = true) then tu σ H1 Q else Q false H1) = _).mpr (hb.go (he.mono e1) ok1 p1)
    | false =>
      rw [if_neg (by decide)] at p1
      exact (if_neg Bool.false_ne_true : (if (false = true) then tu σ H1 Q else Q false H1) = _).mpr (p1 ρ1 H1 Ext.refl ok1))⟩
theorem so_orB (ha : SoB C W tt c) (hb : SoB C W tu d) : SoB C W (tOr tt tu) (xOrB c d) := ⟨fun {env h ρ σ H Q} he hh hp =>
  ha.go he hh ((Pst.bind hp).imp fun b h1 ρ1 H1 e1 ok1 p1 => by
    cases b with
    | true =>
      rw [if_pos rfl] at p1
      exact (if_pos rfl : (if (true = true) then Q true H1 else tu σ H1 Q) = _).mpr (p1 ρ1 H1 Ext.refl ok1)
    | false =>
      rw [if_neg (by decide)] at p1
      exact (if_neg Bool.false_ne_true : (if (false = true) then Q true H1 else tu σ H1 Q) = _).mpr (hb.go (he.mono e1) ok1 p1))⟩
theorem so_notB (ha : SoB C W tt c) : SoB C W (tNot tt) (xNotB c) := ⟨fun {env h ρ σ H Q} he hh hp =>
  ha.go he hh ((Pst.bind hp).imp fun b h1 ρ1 H1 e1 ok1 p1 => p1 ρ1 H1 Ext.refl ok1)⟩
theorem so_and (ha : SoE C W ta fa) (hb : SoE C W tb fb) : SoE C W (tAndV ta tb) (xAnd fa fb) := ⟨fun {env h ρ σ H Q} he hh hp =>
  ha.go he hh ((Pst.bind hp).imp fun d1 h1 ρ1 H1 e1 ok1 p1 x hx => by
    split at p1
    · rename_i b
      cases hx
      refine ⟨b, rfl, ?_⟩
      cases b with
      | true =>
        rw [if_pos rfl] at p1 ⊢
        exact hb.go (he.mono e1) ok1 p1
      | false =>
        rw [if_neg (by decide)] at p1 ⊢
        exact p1 ρ1 H1 Ext.refl ok1 _ (.bl _)
    · exact p1.elim)⟩
theorem so_or (ha : SoE C W ta fa) (hb : SoE C W tb fb) : SoE C W (tOrV ta tb) (xOr fa fb) := ⟨fun {env h ρ σ H Q} he hh hp =>
  ha.go he hh ((Pst.bind hp).imp fun d1 h1 ρ1 H1 e1 ok1 p1 x hx => by
    split at p1
    · rename_i b
      cases hx
      refine ⟨b, rfl, ?_⟩
      cases b with
      | true =>
        rw [if_pos rfl] at p1 ⊢
        exact p1 ρ1 H1 Ext.refl ok1 _ (.bl _)
      | false =>
        rw [if_neg (by decide)] at p1 ⊢
        exact hb.go (he.mono e1) ok1 p1
    · exact p1.elim)⟩
theorem so_not (ha : SoE C W ta fa) : SoE C W (tNotV ta) (xNot fa) := ⟨fun {env h ρ σ H Q} he hh hp =>
  ha.go he hh ((Pst.bind hp).imp fun d1 h1 ρ1 H1 e1 ok1 p1 x hx => by
    split at p1
    · rename_i b
      cases hx
      exact ⟨b, rfl, p1 ρ1 H1 Ext.refl ok1 _ (.bl _)⟩
    · exact p1.elim)⟩
theorem so_if (hc : SoB C W tt c) (ha : SoE C W ta fa) (hb : SoE C W tb fb) : SoE C W (tIf tt ta tb) (xIf c fa fb) := ⟨fun {env h ρ σ H Q} he hh hp =>
  hc.go he hh ((Pst.bind hp).imp fun b h1 ρ1 H1 e1 ok1 p1 => by
    cases b with
    | true =>
      rw [if_pos rfl] at p1
      exact (if_pos rfl : (if (true = true) then ta σ H1 Q else tb σ H1 Q) = _).mpr (ha.go (he.mono e1) ok1 p1)
    | false =>
      rw [if_neg (by decide)] at p1
      exact (if_neg Bool.false_ne_true : (if (false = true) then ta σ H1 Q else tb σ H1 Q) = _).mpr (hb.go (he.mono e1) ok1 p1))⟩
end

section
variable {X : Cx} {W : WX} {a b e : Expr} {es rest : List Expr} {ta tb te : TE} {fa fb f : XE} {pos : Pos} {tA : TA} {fA : XA} {tt tu : TT} {c d : XB}
abbrev cc (X : Cx) : Cc := ⟨X.K, X.mg⟩
theorem fv (i : Nat) {x : Str} {pos : Pos} (hN : X.N[i]? = some x := by rfl) (hv : Vis X.env.scope x := by first | exact Or.inl rfl | exact Or.inr (Or.inl rfl) | exact Or.inr (Or.inr rfl))
    (hd : (x == ("__debug__" : Str)) = false := by decide +kernel) (hcd : (x == ("__classdict__" : Str)) = false := by decide +kernel) : FE X W (.Name x pos) (tVar i) (xVar i) := ⟨pe_var hN hv hd hcd, so_var⟩
theorem fint {i j pos} : FE X W (.Constant (.int i) j pos) (tC (.int i)) (xC (.int i)) := ⟨pe_int, so_c fun _ _ => .int i⟩
theorem fbl {i j pos} : FE X W (.Constant (.bool i) j pos) (tC (.bl i)) (xC (.bl i)) := ⟨pe_bl, so_c fun _ _ => .bl i⟩
theorem fnon {j pos} : FE X W (.Constant .none j pos) (tC .non) (xC .non) := ⟨pe_non, so_c fun _ _ => .non⟩
theorem fstr (cs : List Nat) {x : Str} {j pos} (h : x = ⟨cs.toArray⟩ := by decide +kernel) : FE X W (.Constant (.str x) j pos) (tC (.str ⟨cs.toArray⟩)) (xC (.str cs)) := by
  subst h
  exact ⟨pe_str, so_c fun _ _ => .str cs⟩
/-- a module's constant: an int, a text -/
theorem fgi {x : Str} {i : Int} {t : Tok} {pos : Pos} (hg : Gl X x) (hm : X.mg x = some (.int i t)) (hd : (x == ("__debug__" : Str)) = false := by decide +kernel) : FE X W (.Name x pos) (tC (.int i)) (xC (.int i)) :=
  ⟨pe_glob hg hm ⟨t, rfl⟩ hd, so_c fun _ _ => .int i⟩
theorem fgs (cs : List Nat) {x : Str} {t : Tok} {pos : Pos} (hg : Gl X x) (hm : X.mg x = some (.str ⟨cs.toArray⟩ t)) (hd : (x == ("__debug__" : Str)) = false := by decide +kernel) : FE X W (.Name x pos) (tC (.str ⟨cs.toArray⟩)) (xC (.str cs)) :=
  ⟨pe_glob hg hm ⟨t, rfl⟩ hd, so_c fun _ _ => .str cs⟩
/-- a def or a class of the module as a value -/
theorem fgo {x : Str} {a : Addr} {pos : Pos} (hg : Gl X x) (hm : X.mg x = some (.ref a)) (hd : (x == ("__debug__" : Str)) = false := by decide +kernel) : FE X W (.Name x pos) (tC (.ref a)) (xC (.gl x)) :=
  ⟨pe_glob hg hm rfl hd, so_c fun _ _ => .gl hm⟩
theorem fop {op : Operator} {r : R2} {o : D → D → Hs → Res D} (hr : OpR X (binaryOp op) r) (ho : SoO (cc X) W r o) (ha : FE X W a ta fa) (hb : FE X W b tb fb) : FE X W (.BinOp a op b pos) (tOp r ta tb) (xOp o fa fb) :=
  ⟨pe_op hr ha.pe hb.pe, so_op ho ha.so hb.so⟩
theorem fun1 {op : UnaryOp} {r : V → Hp → VK → Prop} {o : D → Hs → Res D} (hr : UnR X (unaryOp op) r) (ho : SoU (cc X) W r o) (ha : FE X W a ta fa) : FE X W (.UnaryOp op a pos) (tUn r ta) (xUn o fa) :=
  ⟨pe_un hr ha.pe, so_un ho ha.so⟩
theorem fcmp {op : CmpOp} {r : R2} {o : D → D → Hs → Res D} (hr : OpR X (compareOp op) r) (ho : SoO (cc X) W r o) (hm : behindInMarks op b = false) (ha : FE X W a ta fa) (hb : FE X W b tb fb) : FE X W (.Compare a [op] [b] pos) (tOp r ta tb) (xOp o fa fb) :=
  ⟨pe_cmpR hr ha.pe hb.pe hm, so_op ho ha.so hb.so⟩
theorem fcmpT {op : CmpOp} {r : R2} {o : D → D → Hs → Res D} (hr : OpR X (compareOp op) r) (ho : SoO (cc X) W r o) (hm : behindInMarks op b = false) (ha : FE X W a ta fa) (hb : FE X W b tb fb) : FT X W (.Compare a [op] [b] pos) (tTest (tOp r ta tb)) (xTest (xOp o fa fb)) :=
  ⟨pt_cmpR hr ha.pe hb.pe hm, so_testT (so_op ho ha.so hb.so)⟩
theorem fval (h : FE X W e te f) (he : ∀ whole, isTrue e X.env whole = (do let v ← whole; standAt e.pos; holding [v] (truthy v)) := by intro _; rfl) : FT X W e (tB te) (xTest f) := ⟨pt_val h.pe he, so_test h.so⟩
theorem fw_and1 (ha : FT X W a tt c) : FW X W (.BoolOp .And [a] pos) tt c := ⟨pw_and1 ha.pe, ha.so⟩
theorem fw_or1 (ha : FT X W a tt c) : FW X W (.BoolOp .Or [a] pos) tt c := ⟨pw_or1 ha.pe, ha.so⟩
theorem fw_and (ha : FT X W a tt c) (hb : FW X W (.BoolOp .And (b :: rest) pos) tu d) : FW X W (.BoolOp .And (a :: b :: rest) pos) (tAnd tt tu) (xAndB c d) := ⟨pw_and ha.pe hb.pe, so_andB ha.so hb.so⟩
theorem fw_or (ha : FT X W a tt c) (hb : FW X W (.BoolOp .Or (b :: rest) pos) tu d) : FW X W (.BoolOp .Or (a :: b :: rest) pos) (tOr tt tu) (xOrB c d) := ⟨pw_or ha.pe hb.pe, so_orB ha.so hb.so⟩
theorem fwt (h : FW X W e tt c) : FT X W e tt c := ⟨h.pe.pt, h.so⟩
theorem fnotT (ha : FT X W a tt c) : FT X W (.UnaryOp .Not a pos) (tNot tt) (xNotB c) := ⟨pt_not ha.pe, so_notB ha.so⟩
theorem fone {op} (h : FE X W a ta fa) : FE X W (.BoolOp op [a] pos) ta fa := ⟨pe_one h.pe, h.so⟩
theorem fand (ha : FE X W a ta fa) (hb : FE X W (.BoolOp .And (b :: rest) pos) tb fb) : FE X W (.BoolOp .And (a :: b :: rest) pos) (tAndV ta tb) (xAnd fa fb) := ⟨pe_and ha.pe hb.pe, so_and ha.so hb.so⟩
theorem for_ (ha : FE X W a ta fa) (hb : FE X W (.BoolOp .Or (b :: rest) pos) tb fb) : FE X W (.BoolOp .Or (a :: b :: rest) pos) (tOrV ta tb) (xOr fa fb) := ⟨pe_or ha.pe hb.pe, so_or ha.so hb.so⟩
theorem fnot (ha : FE X W a ta fa) : FE X W (.UnaryOp .Not a pos) (tNotV ta) (xNot fa) := ⟨pe_not ha.pe, so_not ha.so⟩
theorem fif {q : Expr} (hc : FT X W q tt c) (ha : FE X W a ta fa) (hb : FE X W b tb fb) : FE X W (.IfExp q a b pos) (tIf tt ta tb) (xIf c fa fb) := ⟨pe_ifExp hc.pe ha.pe hb.pe, so_if hc.so ha.so hb.so⟩
theorem fa_nil : FAs X W [] tNil xNil := ⟨pa_nil, so_nil⟩
theorem fa_cons (ha : FE X W e te f) (hr : FAs X W es tA fA) (hs : starEach (e :: es) X.env = (false, eval e X.env) :: starEach es X.env := by rfl) : FAs X W (e :: es) (tCons te tA) (xCons f fA) := ⟨pa_cons ha.pe hr.pe hs, so_cons ha.so hr.so⟩
theorem ftup {k} (h : FAs X W es tA fA) : FE X W (.Tuple es k pos) (tTup tA) (xTup fA) := ⟨pe_tup h.pe, so_tup h.so⟩
theorem flst (h : FAs X W es tA fA) : FLs X W (.List es pos) (tLst tA) (xLst fA) := ⟨pe_lst h.pe, so_lst h.so⟩
end

/-! ### int operations -/
section
variable {C : Cc} {W : WX}
theorem int2 {ρ : List Addr} {H : Hp} {i : Int} {v : V} (h : Emb C ρ H (.int i) v) : v = .int i := by
  cases h
  rfl
def dI (P : Int → Int → Bool) (g : Int → Int → D) : D → D → Hs → Res D := fun a b h => match a, b with
  | .int i, .int j => if P i j then .ok (g i j) h else .stuck
  | _, _ => .stuck
theorem so_I {P : Int → Int → Bool} {p : Int → Int → Prop} {g : Int → Int → V} {gd : Int → Int → D} (hg : ∀ i j ρ H, Emb C ρ H (gd i j) (g i j)) (hp : ∀ i j, P i j = true → p i j) : SoO C W (rI p g) (dI P gd) := ⟨fun {h ρ σ H Q d1 d2 x y} hh hx hy hq => by
  unfold dI at hq
  split at hq
  · split at hq
    · rename_i i j hP
      cases hx
      cases hy
      exact ⟨i, j, rfl, rfl, hp i j hP, hq ρ H Ext.refl hh _ (hg i j ρ H)⟩
    · exact hq.elim
  · exact hq.elim⟩
def dI0 (g : Int → Int → D) : D → D → Hs → Res D := fun a b h => match a, b with
  | .int i, .int j => .ok (g i j) h
  | _, _ => .stuck
theorem so_I0 {g : Int → Int → V} {gd : Int → Int → D} (hg : ∀ i j ρ H, Emb C ρ H (gd i j) (g i j)) : SoO C W (rI0 g) (dI0 gd) := ⟨fun {h ρ σ H Q d1 d2 x y} hh hx hy hq => by
  unfold dI0 at hq
  split at hq
  · rename_i i j
    cases hx
    cases hy
    exact ⟨i, j, rfl, rfl, hq ρ H Ext.refl hh _ (hg i j ρ H)⟩
  · exact hq.elim⟩
end
end FL

/-! FC: statements, targets, loops. -/
namespace FL
open PySem PySem.Spec PyProof.Rows L2

inductive SRes where
  | nx (env : Sl) (h : Hs)
  | rt (d : D) (h : Hs)
  | bk (env : Sl) (h : Hs)
  | ct (env : Sl) (h : Hs)
  | exc (c : Str) (env : Sl) (h : Hs)
  | stuck
abbrev XS := Sl → Hs → SRes
def Res.andS {α : Type} (r : Res α) (env : Sl) (k : α → Hs → SRes) : SRes := match r with
  | .ok a h => k a h
  | .exc c h => .exc c env h
  | .stuck => .stuck
def SRes.seq (r : SRes) (k : XS) : SRes := match r with
  | .nx env h => k env h
  | .rt d h => .rt d h
  | .bk env h => .bk env h
  | .ct env h => .ct env h
  | .exc c env h => .exc c env h
  | .stuck => .stuck
def PsS (C : Cc) (W : WX) (ρ : List Addr) (H : Hp) (D : Ends) : SRes → Prop
  | .nx env h => ∀ ρ' σ' H', Ext ρ ρ' H H' → HeapOk C ρ' h H' → EnvOk C ρ' H' env σ' → D.nx σ' H'
  | .rt d h => ∀ ρ' v H', Ext ρ ρ' H H' → HeapOk C ρ' h H' → Emb C ρ' H' d v → D.rt v H'
  | .bk env h => ∀ ρ' σ' H', Ext ρ ρ' H H' → HeapOk C ρ' h H' → EnvOk C ρ' H' env σ' → D.bk σ' H'
  | .ct env h => ∀ ρ' σ' H', Ext ρ ρ' H H' → HeapOk C ρ' h H' → EnvOk C ρ' H' env σ' → D.ct σ' H'
  | .exc c env h => ∀ ρ' σ' H' a, Ext ρ ρ' H H' → HeapOk C ρ' h H' → EnvOk C ρ' H' env σ' → C.mg c = some (.ref a) → W (.ref a) none σ' H'
  | .stuck => False
section
variable {C : Cc} {W : WX} {ρ ρ1 : List Addr} {σ : L2.St} {H H1 : Hp} {Dn : Ends} {r : SRes}
theorem PsS.mono (p : PsS C W ρ H Dn r) (e : Ext ρ ρ1 H H1) : PsS C W ρ1 H1 Dn r := by
  cases r with
  | nx env h => exact fun ρ' σ' H' e1 => p ρ' σ' H' (e.trans e1)
  | rt d h => exact fun ρ' σ' H' e1 => p ρ' σ' H' (e.trans e1)
  | bk env h => exact fun ρ' σ' H' e1 => p ρ' σ' H' (e.trans e1)
  | ct env h => exact fun ρ' σ' H' e1 => p ρ' σ' H' (e.trans e1)
  | exc c env h => exact fun ρ' σ' H' a e1 => p ρ' σ' H' a (e.trans e1)
  | stuck => exact p
theorem PsS.andS {α : Type} {q : Res α} {env : Sl} {k : α → Hs → SRes} (he : EnvOk C ρ H env σ) (p : PsS C W ρ H Dn (q.andS env k)) : Pst C W ρ σ H q (fun a h1 ρ1 H1 => PsS C W ρ1 H1 Dn (k a h1)) := by
  cases q with
  | ok a h => exact fun ρ' H' e1 _ => PsS.mono (r := k a h) p e1
  | exc c h => exact fun ρ' H' a e1 ok1 hm => p ρ' σ H' a e1 ok1 (he.mono e1) hm
  | stuck => exact p
end
structure SoS (C : Cc) (W : WX) (t : TS) (f : XS) : Prop where
  go : ∀ {env h ρ σ H Dn}, EnvOk C ρ H env σ → HeapOk C ρ h H → PsS C W ρ H Dn (f env h) → t Dn σ H
structure FS (X : Cx) (W : WX) (s : Stmt) (t : TS) (f : XS) : Prop where
  ps : PS X s t
  so : SoS (cc X) W t f
structure FSs (X : Cx) (W : WX) (s : List Stmt) (t : TS) (f : XS) : Prop where
  ps : PSs X s t
  so : SoS (cc X) W t f

/-! ### targets -/
structure SoG (C : Cc) (vs : List Nat) (g : TG) (G : D → Sl → Option Sl) : Prop where
  go : ∀ {ρ H env σ d v env' Q}, EnvOk C ρ H env σ → Emb C ρ H d v → G d env = some env' → (∀ σ', EnvOk C ρ H env' σ' → wipe σ' vs = wipe σ vs → Q σ' H) → g v σ H Q
structure SoGs (C : Cc) (vs : List Nat) (g : TGs) (G : List D → Sl → Option Sl) : Prop where
  go : ∀ {ρ H env σ ds xs env' Q}, EnvOk C ρ H env σ → Embs C ρ H ds xs → G ds env = some env' → (∀ σ', EnvOk C ρ H env' σ' → wipe σ' vs = wipe σ vs → Q σ' H) → g xs σ H Q
def gSet (i : Nat) : D → Sl → Option Sl := fun d env => some (env.set i (some d))
def gsNil : List D → Sl → Option Sl := fun ds env => match ds with
  | [] => some env
  | _ => none
def gsCons (G : D → Sl → Option Sl) (Gs : List D → Sl → Option Sl) : List D → Sl → Option Sl := fun ds env => match ds with
  | d :: r => match G d env with
    | some e => Gs r e
    | none => none
  | [] => none
def gTuple (n : Nat) (Gs : List D → Sl → Option Sl) : D → Sl → Option Sl := fun d env => match d with
  | .tup ds => if ds.length = n then Gs ds env else none
  | _ => none
theorem wipe_set {σ : L2.St} {i : Nat} {x : Option V} : ∀ {vs : List Nat}, i ∈ vs → wipe (σ.set i x) vs = wipe σ vs
  | [], h => by cases h
  | v :: vs, h => by
    unfold wipe
    by_cases hv : i ∈ vs
    · rw [wipe_set hv]
    · have e : i = v := by
        rcases List.mem_cons.mp h with e | e
        · exact e
        · exact absurd e hv
      subst e
      have q : ∀ (ws : List Nat), i ∉ ws → wipe (σ.set i x) ws = (wipe σ ws).set i x := by
        intro ws
        induction ws with
        | nil => intro _; rfl
        | cons w ws ih =>
          intro hw
          have h1 : i ≠ w := fun e => hw (by rw [e]; exact List.mem_cons_self)
          have h2 : i ∉ ws := fun e => hw (List.mem_cons_of_mem _ e)
          unfold wipe
          rw [ih h2, List.set_comm _ _ h1]
      rw [q vs hv, List.set_set]
section
variable {C : Cc} {vs : List Nat}
theorem so_gname {i : Nat} (hi : i ∈ vs) : SoG C vs (gName i) (gSet i) := ⟨fun {ρ H env σ d v env' Q} he hd hg q => by
  unfold gSet at hg
  cases hg
  exact q _ (he.set hd i) (wipe_set hi)⟩
theorem so_gnil : SoGs C vs gNil gsNil := ⟨fun {ρ H env σ ds xs env' Q} he hd hg q => by
  unfold gsNil at hg
  split at hg
  · cases hg
    cases hd
    exact ⟨rfl, q σ he rfl⟩
  · cases hg⟩
theorem so_gcons {g : TG} {G : D → Sl → Option Sl} {gs : TGs} {Gs : List D → Sl → Option Sl} (h1 : SoG C vs g G) (h2 : SoGs C vs gs Gs) : SoGs C vs (gCons g gs) (gsCons G Gs) := ⟨fun {ρ H env σ ds xs env' Q} he hd hg q => by
  unfold gsCons at hg
  split at hg
  · rename_i d r
    split at hg
    · rename_i e e1
      cases hd with
      | cons hd hr =>
        refine ⟨_, _, rfl, h1.go he hd e1 fun σ1 he1 w1 => ?_⟩
        exact h2.go he1 hr hg fun σ2 he2 w2 => q σ2 he2 (w2.trans w1)
    · cases hg
  · cases hg⟩
theorem so_gtup {n : Nat} {gs : TGs} {Gs : List D → Sl → Option Sl} (h : SoGs C vs gs Gs) : SoG C vs (gTup C.K n gs) (gTuple n Gs) := ⟨fun {ρ H env σ d v env' Q} he hd hg q => by
  unfold gTuple at hg
  split at hg
  · split at hg
    · rename_i ds hl
      cases hd with
      | tup hs hx => exact ⟨_, _, rfl, hs, by rw [← hx.length]; exact hl, h.go he hx hg q⟩
    · cases hg
  · cases hg⟩
end

/-! ### plain statements -/
def sNext : XS := fun env h => .nx env h
def sStuck : XS := fun _ _ => .stuck
def sSeq (f g : XS) : XS := fun env h => (f env h).seq g
def sDrop (f : XE) : XS := fun env h => (f env h).andS env fun _ h1 => .nx env h1
def sRet (f : XE) : XS := fun env h => (f env h).andS env fun d h1 => .rt d h1
def sRetN : XS := fun _ h => .rt .non h
def sIf (c : XB) (f g : XS) : XS := fun env h => (c env h).andS env fun b h1 => if b then f env h1 else g env h1
def sAsg (f : XE) (G : D → Sl → Option Sl) : XS := fun env h => (f env h).andS env fun d h1 => match G d env with
  | some e => .nx e h1
  | none => .stuck
def sBreak : XS := fun env h => .bk env h
def sCont : XS := fun env h => .ct env h
section
variable {C : Cc} {W : WX} {t u : TS} {f g : XS} {te : TE} {x : XE} {tt : TT} {c : XB}
theorem so_next : SoS C W tNext sNext := ⟨fun {env h ρ σ H Dn} he hh hp => hp ρ σ H Ext.refl hh he⟩
theorem so_never : SoS C W tNever sStuck := ⟨fun {env h ρ σ H Dn} he hh hp => hp.elim⟩
theorem so_break : SoS C W tBreak sBreak := ⟨fun {env h ρ σ H Dn} he hh hp => hp ρ σ H Ext.refl hh he⟩
theorem so_cont : SoS C W tCont sCont := ⟨fun {env h ρ σ H Dn} he hh hp => hp ρ σ H Ext.refl hh he⟩
theorem so_seq (h1 : SoS C W t f) (h2 : SoS C W u g) : SoS C W (tSeq t u) (sSeq f g) := ⟨fun {env h ρ σ H Dn} he hh hp => by
  refine h1.go he hh ?_
  have hp' : PsS C W ρ H Dn ((f env h).seq g) := hp
  revert hp'
  cases f env h with
  | nx e h' => exact fun hp ρ' σ' H' e1 ok1 en1 => h2.go en1 ok1 (PsS.mono hp e1)
  | rt d h' => exact fun hp => hp
  | bk e h' => exact fun hp => hp
  | ct e h' => exact fun hp => hp
  | exc c e h' => exact fun hp => hp
  | stuck => exact fun hp => hp⟩
theorem so_drop (hx : SoE C W te x) : SoS C W (tDrop te) (sDrop x) := ⟨fun {env h ρ σ H Dn} he hh hp =>
  hx.go he hh ((PsS.andS he hp).imp fun d h1 ρ1 H1 e1 ok1 p1 v hv => p1 ρ1 σ H1 Ext.refl ok1 (he.mono e1))⟩
theorem so_ret (hx : SoE C W te x) : SoS C W (tRet te) (sRet x) := ⟨fun {env h ρ σ H Dn} he hh hp =>
  hx.go he hh ((PsS.andS he hp).imp fun d h1 ρ1 H1 e1 ok1 p1 v hv => p1 ρ1 v H1 Ext.refl ok1 hv)⟩
theorem so_retN : SoS C W tRetN sRetN := ⟨fun {env h ρ σ H Dn} he hh hp => hp ρ .non H Ext.refl hh .non⟩
theorem so_ifS (hc : SoB C W tt c) (h1 : SoS C W t f) (h2 : SoS C W u g) : SoS C W (tIfS tt t u) (sIf c f g) := ⟨fun {env h ρ σ H Dn} he hh hp =>
  hc.go he hh ((PsS.andS he hp).imp fun b h' ρ1 H1 e1 ok1 p1 => by
    cases b with
    | true => exact (if_pos rfl : (if (true = true) then t Dn σ H1 else u Dn σ H1) = _).mpr (h1.go (he.mono e1) ok1 p1)
    | false => exact (if_neg Bool.false_ne_true : (if (false = true) then t Dn σ H1 else u Dn σ H1) = _).mpr (h2.go (he.mono e1) ok1 p1))⟩
theorem so_asg {vs : List Nat} {gt : TG} {G : D → Sl → Option Sl} (hx : SoE C W te x) (hg : SoG C vs gt G) : SoS C W (tAsg te gt) (sAsg x G) := ⟨fun {env h ρ σ H Dn} he hh hp =>
  hx.go he hh ((PsS.andS he hp).imp fun d h1 ρ1 H1 e1 ok1 p1 v hv => by
    revert p1
    cases q : G d env with
    | none => exact fun p1 => p1.elim
    | some e => exact fun p1 => hg.go (he.mono e1) hv q fun σ' he' _ => p1 ρ1 σ' H1 Ext.refl ok1 he')⟩
end
section
variable {X : Cx} {W : WX} {s : Stmt} {rest : List Stmt} {t u : TS} {f g : XS} {e : Expr} {te : TE} {x : XE} {tt : TT} {c : XB} {pos : Pos}
theorem fs_nil : FSs X W [] tNext sNext := ⟨pss_nil, so_next⟩
theorem fs_cons (h1 : FS X W s t f) (h2 : FSs X W rest u g) : FSs X W (s :: rest) (tSeq t u) (sSeq f g) := ⟨pss_cons h1.ps h2.ps, so_seq h1.so h2.so⟩
theorem fs_one (h1 : FS X W s t f) : FSs X W [s] t f := ⟨pss_one h1.ps, h1.so⟩
theorem fs_pass : FS X W (.Pass pos) tNext sNext := ⟨ps_pass, so_next⟩
theorem fs_break : FS X W (.Break pos) tBreak sBreak := ⟨ps_break, so_break⟩
theorem fs_cont : FS X W (.Continue pos) tCont sCont := ⟨ps_continue, so_cont⟩
theorem fs_never : FS X W s tNever sStuck := ⟨ps_never, so_never⟩
theorem fs_expr (h : FE X W e te x) (hs : swapsWith e none pos.line X.env = pure false := by rfl) : FS X W (.Expr e pos) (tDrop te) (sDrop x) := ⟨ps_expr h.pe hs, so_drop h.so⟩
theorem fs_ret (h : FE X W e te x) : FS X W (.Return (some e) pos) (tRet te) (sRet x) := ⟨ps_ret h.pe, so_ret h.so⟩
theorem fs_retN : FS X W (.Return none pos) tRetN sRetN := ⟨ps_retN, so_retN⟩
theorem fs_if {q : Expr} {a b : List Stmt} (hc : FT X W q tt c) (h1 : FSs X W a t f) (h2 : FSs X W b u g) : FS X W (.If q a b pos) (tIfS tt t u) (sIf c f g) := ⟨ps_if hc.pe h1.ps h2.ps, so_ifS hc.so h1.so h2.so⟩
theorem fs_set {i : Nat} {y : Str} {pos' : Pos} (hN : X.N.Nodup) (h : FE X W e te x) (hi : X.N[i]? = some y := by rfl) (hx : Loc X.env.scope y := by first | exact Or.inl rfl | exact Or.inr rfl)
    (hs : swapsWith e (some (.Name y pos')) pos.line X.env = pure false := by rfl) (hf : X.fn y = true ∨ X.env.scope.names.lookup y = some .local := by first | exact .inl rfl | exact .inr rfl) : FS X W (.Assign [.Name y pos'] e pos) (tAsg te (gName i)) (sAsg x (gSet i)) :=
  ⟨ps_set hN hi hx h.pe hs hf, so_asg (vs := [i]) h.so (so_gname (by simp))⟩
/-- a target -/
structure FG (X : Cx) (vs : List Nat) (e : Expr) (g : TG) (G : D → Sl → Option Sl) : Prop where
  pg : PG X e g
  so : SoG (cc X) vs g G
structure FGs (X : Cx) (vs : List Nat) (e : List Expr) (g : TGs) (G : List D → Sl → Option Sl) : Prop where
  pg : PGs X e g
  so : SoGs (cc X) vs g G
theorem fg_name {vs : List Nat} (i : Nat) {y : Str} (hN : X.N.Nodup) (hv : i ∈ vs := by decide) (hi : X.N[i]? = some y := by rfl) (hx : Loc X.env.scope y := by first | exact Or.inl rfl | exact Or.inr rfl)
    (hf : X.fn y = true ∨ X.env.scope.names.lookup y = some .local := by first | exact .inl rfl | exact .inr rfl) : FG X vs (.Name y pos) (gName i) (gSet i) := ⟨pg_name hN hi hx hf, so_gname hv⟩
theorem fg_nil {vs : List Nat} : FGs X vs [] gNil gsNil := ⟨pgs_nil, so_gnil⟩
theorem fg_cons {vs : List Nat} {e : Expr} {es : List Expr} {g : TG} {G : D → Sl → Option Sl} {gs : TGs} {Gs : List D → Sl → Option Sl} (h1 : FG X vs e g G) (h2 : FGs X vs es gs Gs)
    (hs : (assignEach (e :: es) X.env).map (·.2) = assign e X.env :: (assignEach es X.env).map (·.2) := by rfl) : FGs X vs (e :: es) (gCons g gs) (gsCons G Gs) := ⟨pgs_cons h1.pg h2.pg hs, so_gcons h1.so h2.so⟩
theorem fg_tup {vs : List Nat} {es : List Expr} {k n : Nat} {gs : TGs} {Gs : List D → Sl → Option Sl} (hc : X.calm = true) (h : FGs X vs es gs Gs) (hn : (assignEach es X.env).length = n := by rfl)
    (hst : (assignEach es X.env).findIdx? (·.1) = none := by rfl) : FG X vs (.Tuple es k pos) (gTup X.K n gs) (gTuple n Gs) := ⟨pg_tup hc h.pg hn hst, so_gtup h.so⟩
theorem fs_asg {vs : List Nat} {tg : Expr} {gt : TG} {G : D → Sl → Option Sl} (h : FE X W e te x) (hg : FG X vs tg gt G) (hs : swapsWithSole [tg] e pos.line X.env = pure false := by rfl) (hw : swappedStores [tg] e X.env = pure none := by rfl)
    (h1 : (assignEach [tg] X.env).map (·.2) = [assign tg X.env] := by rfl) : FS X W (.Assign [tg] e pos) (tAsg te gt) (sAsg x G) := ⟨ps_asg h.pe hg.pg hs hw h1, so_asg h.so hg.so⟩
end

/-! ### two, three names at once -/
def sPar (i j : Nat) (f : XA) : XS := fun env h => (f env h).andS env fun ds h1 => match ds with
  | [a, b] => .nx ((env.set i (some a)).set j (some b)) h1
  | _ => .stuck
theorem so_par {C : Cc} {W : WX} {i j : Nat} {ta : TA} {f : XA} (ha : SoA C W ta f) : SoS C W (tPar i j ta) (sPar i j f) := ⟨fun {env h ρ σ H Dn} he hh hp =>
  ha.go he hh ((PsS.andS he hp).imp fun ds h1 ρ1 H1 e1 ok1 p1 xs hx => by
    split at p1
    · cases hx with
      | cons a r =>
        cases r with
        | cons b r =>
          cases r
          exact ⟨_, _, rfl, p1 ρ1 _ H1 Ext.refl ok1 (((he.mono e1).set a i).set b j)⟩
    · exact p1.elim)⟩
theorem fs_par {X : Cx} {W : WX} (i j : Nat) {x y : Str} {a b : Expr} {ta : TA} {f : XA} {px py pt pos : Pos} {kt k2 pt2} (hc : X.calm = true) (hN : X.N.Nodup) (ha : FAs X W [a, b] ta f) (hi : X.N[i]? = some x := by rfl) (hj : X.N[j]? = some y := by rfl) (hij : i ≠ j := by decide)
    (hx : X.env.scope.names.lookup x = some .local := by rfl) (hy : X.env.scope.names.lookup y = some .local := by rfl)
    (hw : swappedStores [.Tuple [.Name x px, .Name y py] kt pt] (.Tuple [a, b] k2 pt2) X.env = pure (some [x, y]) := by rfl)
    (hs : swapsWithSole [.Tuple [.Name x px, .Name y py] kt pt] (.Tuple [a, b] k2 pt2) pos.line X.env = pure false := by rfl) :
    FS X W (.Assign [.Tuple [.Name x px, .Name y py] kt pt] (.Tuple [a, b] k2 pt2) pos) (tPar i j ta) (sPar i j f) := ⟨ps_par hc hN hi hj hij hx hy ha.pe hw hs, so_par ha.so⟩

/-! ### name op= e -/
structure SoI (C : Cc) (W : WX) (r : TIp) (op : D → D → Hs → Res D) : Prop where
  go : ∀ {h ρ σ H Q d1 d2 x y}, HeapOk C ρ h H → Emb C ρ H d1 x → Emb C ρ H d2 y → Pst C W ρ σ H (op d1 d2 h) (GV C Q) → r x y H Q
def sAug (i : Nat) (op : D → D → Hs → Res D) (f : XE) : XS := fun env h => match env[i]? with
  | some (some d) => ((f env h).bind fun e h1 => op d e h1).andS env fun z h2 => .nx (env.set i (some z)) h2
  | _ => .stuck
theorem so_aug {C : Cc} {W : WX} {i : Nat} {te : TE} {ti : TIp} {op : D → D → Hs → Res D} {f : XE} (hf : SoE C W te f) (ho : SoI C W ti op) : SoS C W (tAug i te ti) (sAug i op f) := ⟨fun {env h ρ σ H Dn} he hh hp => by
  unfold sAug at hp
  split at hp
  · rename_i d e
    obtain ⟨v, e1, hv⟩ := he.at_ i d e
    refine ⟨v, e1, hf.go he hh ((Pst.bind (PsS.andS he hp)).imp fun d2 h1 ρ1 H1 e1 ok1 p1 y hy => ?_)⟩
    exact ho.go ok1 (hv.mono e1) hy (p1.imp fun z h2 ρ2 H2 e2 ok2 p2 w hw => p2 ρ2 _ H2 Ext.refl ok2 (((he.mono e1).mono e2).set hw i))
  · exact hp.elim⟩
theorem fs_aug {X : Cx} {W : WX} (i : Nat) {y : Str} {e : Expr} {te : TE} {op : Operator} {ti : TIp} {pos' pos : Pos} {o : D → D → Hs → Res D} {f : XE} (hN : X.N.Nodup) (ho : PIp X op ti) (so : SoI (cc X) W ti o) (h : FE X W e te f) (hi : X.N[i]? = some y := by rfl) (hx : Loc X.env.scope y := by first | exact Or.inl rfl | exact Or.inr rfl)
    (hf : X.fn y = true ∨ X.env.scope.names.lookup y = some .local := by first | exact .inl rfl | exact .inr rfl) : FS X W (.AugAssign (.Name y pos') op e pos) (tAug i te ti) (sAug i o f) := ⟨ps_aug hN hi hx h.pe ho hf, so_aug h.so so⟩
theorem so_ipI {C : Cc} {W : WX} {g : Int → Int → Int} : SoI C W (ipI g) (dI0 fun i j => .int (g i j)) := ⟨fun {h ρ σ H Q d1 d2 x y} hh hx hy hq => by
  unfold dI0 at hq
  split at hq
  · cases hx
    cases hy
    exact ⟨_, _, rfl, rfl, hq ρ H Ext.refl hh _ (.int _)⟩
  · exact hq.elim⟩

/-! ### while -/
def whileF (c : XB) (b : XS) : Nat → XS
  | 0, _, _ => .stuck
  | n + 1, env, h => (c env h).andS env fun k h1 => if k then (match b env h1 with
      | .nx e h2 => whileF c b n e h2
      | .ct e h2 => whileF c b n e h2
      | .bk e h2 => .nx e h2
      | .rt d h2 => .rt d h2
      | .exc x e h2 => .exc x e h2
      | .stuck => .stuck) else .nx env h1
def sWhile (n : Nat) (c : XB) (b : XS) : XS := whileF c b n
theorem so_while {C : Cc} {W : WX} (n : Nat) {tt : TT} {c : XB} {tb : TS} {b : XS} (hc : SoB C W tt c) (hb : SoS C W tb b) : SoS C W (tWhile tt tb) (sWhile n c b) := ⟨fun {env h ρ σ H Dn} he hh hp => by
  refine ⟨fun m σ' H' => ∃ ρ' env' h', Ext ρ ρ' H H' ∧ EnvOk C ρ' H' env' σ' ∧ HeapOk C ρ' h' H' ∧ PsS C W ρ' H' Dn (whileF c b m env' h'), ⟨n, ρ, env, h, Ext.refl, he, hh, hp⟩, ?_⟩
  rintro m σ1 H1 ⟨ρ1, env1, h1, e1, en1, ok1, p1⟩
  cases m with
  | zero => exact p1.elim
  | succ m =>
    unfold whileF at p1
    refine hc.go en1 ok1 ((PsS.andS en1 p1).imp fun k h2 ρ2 H2 e2 ok2 p2 => ?_)
    cases k with
    | true =>
      rw [if_pos rfl] at p2
      unfold GB
      simp only [↓reduceIte]
      refine ⟨fun σ' H' => ∃ ρ' env' h', Ext ρ ρ' H H' ∧ EnvOk C ρ' H' env' σ' ∧ HeapOk C ρ' h' H' ∧ PsS C W ρ' H' Dn (whileF c b m env' h'), fun σ' H' q => ⟨m, Nat.lt_succ_self m, q⟩, ?_⟩
      refine hb.go (en1.mono e2) ok2 ?_
      revert p2
      cases b env1 h2 with
      | nx e h3 => exact fun p ρ' σ' H' e3 ok3 en3 => ⟨ρ', e, h3, e1.trans (e2.trans e3), en3, ok3, PsS.mono p e3⟩
      | ct e h3 => exact fun p ρ' σ' H' e3 ok3 en3 => ⟨ρ', e, h3, e1.trans (e2.trans e3), en3, ok3, PsS.mono p e3⟩
      | bk e h3 => exact fun p => p
      | rt d h3 => exact fun p => p
      | exc x e h3 => exact fun p => p
      | stuck => exact fun p => p
    | false =>
      rw [if_neg (by decide)] at p2
      unfold GB
      simp only [Bool.false_eq_true, ↓reduceIte]
      exact p2 ρ2 σ1 H2 Ext.refl ok2 (en1.mono e2)⟩
theorem fs_while {X : Cx} {W : WX} (n : Nat) {q : Expr} {body : List Stmt} {tt : TT} {c : XB} {tb : TS} {b : XS} {pos : Pos} (hp : PassesOwn (model X.prog X.w) X.A X.env X.xe) (hc : FT X W q tt c) (hb : FSs X W body tb b) : FS X W (.While q body [] pos) (tWhile tt tb) (sWhile n c b) :=
  ⟨ps_while hp hc.pe hb.ps, so_while n hc.so hb.so⟩

/-! ### what is walked -/
inductive View where
  | con (ds : List D)
  | live (i : Nat)
def View.at (v : View) (h : Hs) : Option (List D) := match v with
  | .con ds => some ds
  | .live i => match h[i]? with
    | some (.lst ds) => some ds
    | _ => none
inductive Src where
  | one (v : View)
  | zip (v w : View)
  | enum (v : View)
def Src.nxt (s : Src) (i : Nat) (h : Hs) : Option (Option D) := match s with
  | .one v => (v.at h).map fun ds => ds[i]?
  | .zip v w => match v.at h, w.at h with
    | some ds, some es => some (match ds[i]?, es[i]? with
      | some d, some e => some (.tup [d, e])
      | _, _ => none)
    | _, _ => none
  | .enum v => (v.at h).map fun ds => (ds[i]?).map fun d => .tup [.int i, d]
/-- the items that are known beforehand -/
def Src.known (s : Src) : Option (List D) := match s with
  | .one (.con ds) => some ds
  | _ => none
def Src.size (s : Src) (h : Hs) : Nat := match s with
  | .one v => ((v.at h).getD []).length
  | .zip v _ => ((v.at h).getD []).length
  | .enum v => ((v.at h).getD []).length
end FL

/-! FD: what is walked, for, comprehensions. -/
namespace FL
open PySem PySem.Spec PyProof.Rows L2

structure ItOk (C : Cc) (ρ0 : List Addr) (H0 : Hp) (fr : List Addr) (J : It) (nxt : Nat → Hs → Option (Option D)) : Prop where
  item : ∀ {ρ H h i d}, Low ρ0 ρ H0 H → (∀ p, p ∈ fr → ∀ o, H0 p = some o → H p = some o) → HeapOk C ρ h H → nxt i h = some (some d) → J.go i H ∧ ∀ x H', J.yld i H x H' → Ext ρ ρ H H' ∧ HeapOk C ρ h H' ∧ Emb C ρ H' d x
  stop : ∀ {ρ H h i}, Low ρ0 ρ H0 H → (∀ p, p ∈ fr → ∀ o, H0 p = some o → H p = some o) → HeapOk C ρ h H → nxt i h = some none → J.stop i H
abbrev XI := Sl → Hs → Res Src
def GI (C : Cc) (H0 : Hp) (R : It → Hp → Prop) : Src → Hs → List Addr → Hp → Prop := fun s h1 ρ1 H1 =>
  ∀ fr H2 J, (∀ p, p ∈ fr → H0 p = none ∧ p ∉ ρ1) → Ext ρ1 ρ1 H1 H2 → HeapOk C ρ1 h1 H2 → ItOk C ρ1 H2 fr J s.nxt → R J H2
structure SoIt (C : Cc) (W : WX) (wi : TI) (f : XI) : Prop where
  go : ∀ {env h ρ σ H R}, EnvOk C ρ H env σ → HeapOk C ρ h H → Pst C W ρ σ H (f env h) (GI C H R) → wi σ H R
structure FI (X : Cx) (W : WX) (tg e : Expr) (wi : TI) (f : XI) : Prop where
  pi : PI X tg e wi
  so : SoIt (cc X) W wi f

/-! ### for -/
def afterB (r : SRes) (k : XS) : SRes := match r with
  | .nx e h => k e h
  | .ct e h => k e h
  | .bk e h => .nx e h
  | .rt d h => .rt d h
  | .exc c e h => .exc c e h
  | .stuck => .stuck
def forL (s : Src) (G : D → Sl → Option Sl) (b : XS) : Nat → Nat → XS
  | 0, _, _, _ => .stuck
  | m + 1, i, env, h => match s.nxt i h with
    | none => .stuck
    | some none => .nx env h
    | some (some d) => match G d env with
      | none => .stuck
      | some e => afterB (b e h) (forL s G b m (i + 1))
def forD (G : D → Sl → Option Sl) (b : XS) : List D → XS
  | [], env, h => .nx env h
  | d :: r, env, h => match G d env with
    | none => .stuck
    | some e => afterB (b e h) (forD G b r)
def forS (s : Src) (G : D → Sl → Option Sl) (b : XS) : XS := fun env h => match s.known with
  | some ds => forD G b ds env h
  | none => forL s G b (s.size h + 1) 0 env h
def sFor (src : XI) (G : D → Sl → Option Sl) (b : XS) : XS := fun env h => (src env h).andS env fun s h1 => forS s G b env h1
theorem forL_D {ds : List D} {G : D → Sl → Option Sl} {b : XS} : ∀ (k i m : Nat) (env : Sl) (h : Hs), i + k = ds.length → m = k + 1 → forL (.one (.con ds)) G b m i env h = forD G b (ds.drop i) env h := by
  intro k
  induction k with
  | zero =>
    intro i m env h hi hm
    subst hm
    rw [List.drop_of_length_le (by omega)]
    unfold forL forD
    have e : (Src.one (.con ds)).nxt i h = some none := by
      show some (ds[i]?) = some none
      rw [List.getElem?_eq_none (by omega)]
    rw [e]
  | succ k ih =>
    intro i m env h hi hm
    subst hm
    have hlt : i < ds.length := by omega
    rw [List.drop_eq_getElem_cons hlt]
    unfold forL forD
    have e : (Src.one (.con ds)).nxt i h = some (some ds[i]) := by
      show some (ds[i]?) = _
      rw [List.getElem?_eq_getElem hlt]
    rw [e]
    dsimp only
    cases G ds[i] env with
    | none => rfl
    | some e1 =>
      dsimp only
      have q : forL (.one (.con ds)) G b (k + 1) (i + 1) = forD G b (ds.drop (i + 1)) := by
        funext env' h'
        exact ih (i + 1) (k + 1) env' h' (by omega) rfl
      rw [q]
theorem known_eq {s : Src} {ds : List D} (e : s.known = some ds) : s = .one (.con ds) := by
  unfold Src.known at e
  split at e
  · cases e
    rfl
  · cases e
theorem forS_L {s : Src} {G : D → Sl → Option Sl} {b : XS} {env : Sl} {h : Hs} : ∃ m, forS s G b env h = forL s G b m 0 env h := by
  unfold forS
  cases e : s.known with
  | none => exact ⟨_, rfl⟩
  | some ds =>
    have e' := known_eq e
    subst e'
    exact ⟨ds.length + 1, (forL_D ds.length 0 _ env h (by omega) rfl).symm⟩
theorem Ext.fr {ρ0 ρ : List Addr} {H0 H : Hp} (e : Ext ρ0 ρ H0 H) {fr : List Addr} (hf : ∀ p, p ∈ fr → p ∉ ρ0) : ∀ p, p ∈ fr → ∀ o, H0 p = some o → H p = some o := fun p hp o ho => e.keep p o ho (hf p hp)
theorem so_for {C : Cc} {W : WX} {vs : List Nat} {wi : TI} {src : XI} {g : TG} {G : D → Sl → Option Sl} {tb : TS} {b : XS} (hi : SoIt C W wi src) (hg : SoG C vs g G) (hb : SoS C W tb b) : SoS C W (tFor wi g tb) (sFor src G b) := ⟨fun {env h ρ σ H Dn} he hh hp => by
  refine hi.go he hh ((PsS.andS he hp).imp fun s h1 ρ1 H1 e1 ok1 p1 => ?_)
  intro fr H2 J hfr e2 ok2 hJ
  obtain ⟨m0, q0⟩ := forS_L (s := s) (G := G) (b := b) (env := env) (h := h1)
  rw [q0] at p1
  refine ⟨fun i m σ' H' => ∃ ρ' env' h', Ext ρ1 ρ' H2 H' ∧ EnvOk C ρ' H' env' σ' ∧ HeapOk C ρ' h' H' ∧ PsS C W ρ' H' Dn (forL s G b m i env' h'), ⟨m0, ρ1, env, h1, Ext.refl, (he.mono e1).mono e2, ok2, PsS.mono p1 e2⟩, ?_⟩
  rintro i m σ3 H3 ⟨ρ3, env3, h3, e3, en3, ok3, p3⟩
  cases m with
  | zero => exact p3.elim
  | succ m =>
    unfold forL at p3
    have keep := e3.fr fun p hp => (hfr p hp).2
    revert p3
    cases q : s.nxt i h3 with
    | none => exact fun p3 => p3.elim
    | some o =>
      cases o with
      | none => exact fun p3 => .inl ⟨hJ.stop e3.low keep ok3 q, p3 ρ3 σ3 H3 Ext.refl ok3 en3⟩
      | some d =>
        obtain ⟨hgo, hy⟩ := hJ.item e3.low keep ok3 q
        dsimp only
        cases qg : G d env3 with
        | none => exact fun p3 => p3.elim
        | some e4 =>
          intro p3
          refine .inr ⟨hgo, fun σ' H' => ∃ ρ' env' h', Ext ρ1 ρ' H2 H' ∧ EnvOk C ρ' H' env' σ' ∧ HeapOk C ρ' h' H' ∧ PsS C W ρ' H' Dn (forL s G b m (i + 1) env' h'), fun σ' H' z => ⟨m, Nat.lt_succ_self m, z⟩, fun x H4 hx => ?_⟩
          obtain ⟨e5, ok5, hd⟩ := hy x H4 hx
          refine hg.go (en3.mono e5) hd qg fun σ6 en6 _ => ?_
          refine hb.go en6 ok5 ?_
          have p5 : PsS C W ρ3 H4 Dn (afterB (b e4 h3) (forL s G b m (i + 1))) := PsS.mono p3 e5
          have e35 := e3.trans e5
          revert p5
          cases b e4 h3 with
          | nx e h' => exact fun p ρ' σ' H' e7 ok7 en7 => ⟨ρ', e, h', e35.trans e7, en7, ok7, PsS.mono p e7⟩
          | ct e h' => exact fun p ρ' σ' H' e7 ok7 en7 => ⟨ρ', e, h', e35.trans e7, en7, ok7, PsS.mono p e7⟩
          | bk e h' => exact fun p => p
          | rt d h' => exact fun p => p
          | exc c e h' => exact fun p => p
          | stuck => exact fun p => p⟩
theorem fs_for {X : Cx} {W : WX} {vs : List Nat} {tg iter : Expr} {body : List Stmt} {wi : TI} {src : XI} {g : TG} {G : D → Sl → Option Sl} {tb : TS} {b : XS} {pos : Pos} (hp : PassesOwn (model X.prog X.w) X.A X.env X.xe) (hc : X.calm = true) (hi : FI X W tg iter wi src) (hg : FG X vs tg g G) (hb : FSs X W body tb b)
    (hs : ∀ x, foldedSetIterable iter X.env x = pure x := by intro _; rfl) : FS X W (.For tg iter body [] pos) (tFor wi g tb) (sFor src G b) := ⟨ps_for hp hc hi.pi hg.pg hb.ps hs, so_for hi.so hg.so hb.so⟩

/-! ### comprehensions -/
def wipeD (env : Sl) : List Nat → Sl
  | [] => env
  | v :: vs => (wipeD env vs).set v none
theorem EnvOk.wipe {C : Cc} {ρ : List Addr} {H : Hp} {env : Sl} {σ : L2.St} (he : EnvOk C ρ H env σ) : ∀ vs : List Nat, EnvOk C ρ H (wipeD env vs) (wipe σ vs)
  | [] => he
  | v :: vs => by
    have ih := EnvOk.wipe he vs
    refine ⟨by unfold wipeD L2.wipe; rw [List.length_set, List.length_set]; exact ih.len, fun i d e => ?_⟩
    unfold wipeD at e
    by_cases hv : v = i
    · subst hv
      have hlt : v < (wipeD env vs).length := by
        have := (List.getElem?_eq_some_iff.mp e).1
        rwa [List.length_set] at this
      rw [List.getElem?_set_self hlt] at e
      cases e
    · rw [List.getElem?_set_ne hv] at e
      obtain ⟨x, e1, hx⟩ := ih.at_ i d e
      exact ⟨x, by unfold L2.wipe; rw [List.getElem?_set_ne hv]; exact e1, hx⟩
theorem wipe_idem (σ : L2.St) (vs : List Nat) : wipe (wipe σ vs) vs = wipe σ vs := by
  have q : ∀ (ws : List Nat), (∀ w, w ∈ ws → w ∈ vs) → wipe (wipe σ vs) ws = wipe σ vs := by
    intro ws
    induction ws with
    | nil => intro _; rfl
    | cons w ws ih =>
      intro hw
      show (wipe (wipe σ vs) ws).set w none = wipe σ vs
      rw [ih fun x hx => hw x (List.mem_cons_of_mem _ hx)]
      have hm := hw w List.mem_cons_self
      apply List.ext_getElem?
      intro j
      by_cases hj : w = j
      · subst hj
        by_cases hl : w < (wipe σ vs).length
        · rw [List.getElem?_set_self hl]
          cases e : (wipe σ vs)[w]? with
          | none => exact absurd (List.getElem?_eq_none_iff.mp e) (by omega)
          | some o =>
            cases o with
            | none => rfl
            | some x => exact absurd hm (wipe_some e).2
        · rw [List.getElem?_eq_none (by rw [List.length_set]; omega), List.getElem?_eq_none (by omega)]
      · rw [List.getElem?_set_ne hj]
  exact q vs fun _ h => h
def Res.bindN {α β : Type} (r : Res α) (k : α → Hs → Res β) : Res β := match r with
  | .ok a h => k a h
  | _ => .stuck
abbrev XEl := Sl → Nat → Hs → Res (List D)
def lcL (s : Src) (G : D → Sl → Option Sl) (t : XB) (el : XEl) (env : Sl) : Nat → Nat → Nat → Hs → Res (List D)
  | 0, _, _, _ => .stuck
  | m + 1, i, n, h => match s.nxt i h with
    | none => .stuck
    | some none => .ok [] h
    | some (some d) => match G d env with
      | none => .stuck
      | some e => (t e h).bindN fun b h1 => if b then (el e n h1).bindN fun ys h2 => (lcL s G t el env m (i + 1) (n + ys.length) h2).bindN fun zs h3 => .ok (ys ++ zs) h3
        else lcL s G t el env m (i + 1) n h1
def lcD (G : D → Sl → Option Sl) (t : XB) (el : XEl) (env : Sl) : List D → Nat → Hs → Res (List D)
  | [], _, h => .ok [] h
  | d :: r, n, h => match G d env with
      | none => .stuck
      | some e => (t e h).bindN fun b h1 => if b then (el e n h1).bindN fun ys h2 => (lcD G t el env r (n + ys.length) h2).bindN fun zs h3 => .ok (ys ++ zs) h3
        else lcD G t el env r n h1
def lcS (s : Src) (G : D → Sl → Option Sl) (t : XB) (el : XEl) (env : Sl) (n : Nat) (h : Hs) : Res (List D) := match s.known with
  | some ds => lcD G t el env ds n h
  | none => lcL s G t el env (s.size h + 1) 0 n h
def elOne (f : XE) : XEl := fun e n h => if n < 100000 then (f e h).bindN fun y h2 => .ok [y] h2 else .stuck
def tYesF : XB := fun _ h => .ok true h
def xLc (src : XI) (vs : List Nat) (G : D → Sl → Option Sl) (t : XB) (f : XE) : XA := fun env h => (src env h).bind fun s h1 => (lcS s G t (elOne f) (wipeD env vs) 0 h1).bindN fun zs h2 => .ok zs h2
def elIn (src : XI) (vs1 : List Nat) (G : D → Sl → Option Sl) (t : XB) (f : XE) : XEl := fun e n h => (src e h).bindN fun s h1 => lcS s G t (elOne f) (wipeD e vs1) n h1
def xLc2 (src : XI) (vs vs1 : List Nat) (G : D → Sl → Option Sl) (t : XB) (src1 : XI) (G1 : D → Sl → Option Sl) (t1 : XB) (f : XE) : XA := fun env h => (src env h).bind fun s h1 => (lcS s G t (elIn src1 vs1 G1 t1 f) (wipeD env vs) 0 h1).bindN fun zs h2 => .ok zs h2
theorem lcL_D {ds : List D} {G : D → Sl → Option Sl} {t : XB} {el : XEl} {env : Sl} : ∀ (k i m n : Nat) (h : Hs), i + k = ds.length → m = k + 1 → lcL (.one (.con ds)) G t el env m i n h = lcD G t el env (ds.drop i) n h := by
  intro k
  induction k with
  | zero =>
    intro i m n h hi hm
    subst hm
    rw [List.drop_of_length_le (by omega)]
    unfold lcL lcD
    have e : (Src.one (.con ds)).nxt i h = some none := by
      show some (ds[i]?) = some none
      rw [List.getElem?_eq_none (by omega)]
    rw [e]
  | succ k ih =>
    intro i m n h hi hm
    subst hm
    have hlt : i < ds.length := by omega
    rw [List.drop_eq_getElem_cons hlt]
    unfold lcL lcD
    have e : (Src.one (.con ds)).nxt i h = some (some ds[i]) := by
      show some (ds[i]?) = _
      rw [List.getElem?_eq_getElem hlt]
    rw [e]
    dsimp only
    cases G ds[i] env with
    | none => rfl
    | some e1 =>
      dsimp only
      congr 1
      funext b h1
      split
      · congr 1
        funext ys h2
        rw [ih (i + 1) (k + 1) _ h2 (by omega) rfl]
      · exact ih (i + 1) (k + 1) _ h1 (by omega) rfl
theorem lcS_L {s : Src} {G : D → Sl → Option Sl} {t : XB} {el : XEl} {env : Sl} {n : Nat} {h : Hs} : ∃ m, lcS s G t el env n h = lcL s G t el env m 0 n h := by
  unfold lcS
  cases e : s.known with
  | none => exact ⟨_, rfl⟩
  | some ds =>
    have e' := known_eq e
    subst e'
    exact ⟨ds.length + 1, (lcL_D ds.length 0 _ n h (by omega) rfl).symm⟩
abbrev W0 : WX := fun _ _ _ _ => False
theorem Pst.bindN {α β : Type} {C : Cc} {W : WX} {ρ : List Addr} {σ τ : L2.St} {H : Hp} {r : Res α} {k : α → Hs → Res β} {G : β → Hs → List Addr → Hp → Prop} (p : Pst C W ρ σ H (r.bindN k) G) : Pst C W0 ρ τ H r (fun a h1 ρ1 H1 => Pst C W ρ1 σ H1 (k a h1) G) := by
  cases r with
  | ok a h => exact fun ρ' H' e1 _ => Pst.mono (r := k a h) p e1
  | exc c h => exact p.elim
  | stuck => exact p
/-- the new list at D holds acc; Hm: the rest of the heap -/
structure StD (C : Cc) (ρ1 : List Addr) (H1 : Hp) (D' : Addr) (ρ : List Addr) (h : Hs) (acc : List D) (H Hm : Hp) (av : List V) : Prop where
  eq : H = upd Hm D' (.lst av)
  no : Hm D' = none
  ext : Ext ρ1 ρ H1 Hm
  ok : HeapOk C ρ h Hm
  ac : Embs C ρ Hm acc av
section
variable {C : Cc} {ρ1 ρ ρ4 : List Addr} {H1 H Hm H4 : Hp} {D' : Addr} {h h4 : Hs} {acc : List D} {av : List V}
theorem StD.heap (s : StD C ρ1 H1 D' ρ h acc H Hm av) : HeapOk C ρ h H := by
  rw [s.eq]
  exact s.ok.fresh s.no
theorem StD.ext' (s : StD C ρ1 H1 D' ρ h acc H Hm av) : Ext ρ ρ Hm H := by
  rw [s.eq]
  exact Ext.fresh s.no
theorem StD.at (s : StD C ρ1 H1 D' ρ h acc H Hm av) : H D' = some (.lst av) := by
  rw [s.eq]
  exact upd_same
def less (H : Hp) (p : Addr) : Hp := fun b => if b = p then none else H b
theorem less_same {p : Addr} : less H p p = none := if_pos rfl
theorem less_ne {p a : Addr} (n : a ≠ p) : less H p a = H a := if_neg n
theorem upd_less {p : Addr} {o o' : HO} (e : H p = some o) : upd (less H p) p o' = upd H p o' := by
  funext b
  by_cases q : b = p
  · rw [q, upd_same, upd_same]
  · rw [upd_ne q, upd_ne q, less_ne q]
theorem upd_less_self {p : Addr} {o : HO} (e : H p = some o) : upd (less H p) p o = H := by
  funext b
  by_cases q : b = p
  · rw [q, upd_same, e]
  · rw [upd_ne q, less_ne q]
/-- behind a part that leaves the new list alone -/
theorem StD.on (s : StD C ρ1 H1 D' ρ h acc H Hm av) (e : Ext ρ ρ4 H H4) (ok : HeapOk C ρ4 h4 H4) : StD C ρ1 H1 D' ρ4 h4 acc H4 (less H4 D') av ∧ Ext ρ ρ4 Hm (less H4 D') ∧ Low ρ4 ρ4 H4 (less H4 D') := by
  have nD : D' ∉ ρ := s.ok.notin s.no
  have h4D : H4 D' = some (.lst av) := e.keep _ _ s.at nD
  have nD4 : D' ∉ ρ4 := fun m => by
    have := e.new D' m nD
    rw [s.at] at this
    cases this
  have low : Low ρ4 ρ4 H4 (less H4 D') := ⟨⟨[], by simp⟩, fun a xs q => by rw [less_ne (fun z => by subst z; rw [h4D] at q; cases q)]; exact q, fun a o u q => by rw [less_ne (fun z => by subst z; rw [h4D] at q; cases q)]; exact q⟩
  have ex : Ext ρ ρ4 Hm (less H4 D') := by
    refine ⟨e.pre, fun a o q na => ?_, fun a m na => ?_, fun a xs q => ?_, fun a o u q => ?_⟩
    · have ne : a ≠ D' := ne_of_none q s.no
      rw [less_ne ne]
      exact e.keep a o (by rw [s.eq, upd_ne ne]; exact q) na
    · have q := e.new a m na
      have ne : a ≠ D' := fun z => by
        subst z
        rw [s.at] at q
        cases q
      rwa [s.eq, upd_ne ne] at q
    · have ne : a ≠ D' := ne_of_none q s.no
      rw [less_ne ne]
      exact e.tup a xs (by rw [s.eq, upd_ne ne]; exact q)
    · have ne : a ≠ D' := ne_of_none q s.no
      rw [less_ne ne]
      exact e.frz a o u (by rw [s.eq, upd_ne ne]; exact q)
  refine ⟨⟨(upd_less_self h4D).symm, less_same, s.ext.trans ex, ⟨ok.len, ok.nd, fun i a o q1 q2 => ?_⟩, s.ac.mono ex⟩, ex, low⟩
  exact (ok.ob i a o q1 q2).low low fun u q => by
    rw [less_ne (fun z => nD4 (by rw [← z]; exact List.mem_of_getElem? q1))]
    exact q
/-- one more item -/
theorem StD.add (s : StD C ρ1 H1 D' ρ h acc H Hm av) {d : D} {v : V} (hd : Emb C ρ Hm d v) : StD C ρ1 H1 D' ρ h (acc ++ [d]) (upd H D' (.lst (av ++ [v]))) Hm (av ++ [v]) :=
  ⟨by rw [s.eq, upd_upd], s.no, s.ext, s.ok, s.ac.append (.one hd)⟩
end

theorem EnvOk.low {C : Cc} {ρ ρ1 : List Addr} {H H1 : Hp} {env : Sl} {σ : L2.St} (h : EnvOk C ρ H env σ) (e : Low ρ ρ1 H H1) : EnvOk C ρ1 H1 env σ :=
  ⟨h.len, fun i d q => let ⟨v, q1, q2⟩ := h.at_ i d q; ⟨v, q1, q2.low e⟩⟩
theorem Low.trans {ρ ρ1 ρ2 : List Addr} {H H1 H2 : Hp} (a : Low ρ ρ1 H H1) (b : Low ρ1 ρ2 H1 H2) : Low ρ ρ2 H H2 := by
  obtain ⟨l, e1⟩ := a.pre
  obtain ⟨m, e2⟩ := b.pre
  exact ⟨⟨l ++ m, by rw [e2, e1, List.append_assoc]⟩, fun c xs q => b.tup _ _ (a.tup _ _ q), fun c o u q => b.frz _ _ _ (a.frz _ _ _ q)⟩
theorem Pst.under {α β : Type} {C : Cc} {W : WX} {ρ1 ρ : List Addr} {σ τ : L2.St} {H1 H Hm : Hp} {D' : Addr} {h : Hs} {acc : List D} {av : List V} {r : Res α} {k : α → Hs → Res β} {Gq : β → Hs → List Addr → Hp → Prop} (s : StD C ρ1 H1 D' ρ h acc H Hm av) (p : Pst C W ρ τ Hm (r.bindN k) Gq) :
    Pst C W0 ρ σ H r (fun a h3 ρ3 H3 => StD C ρ1 H1 D' ρ3 h3 acc H3 (less H3 D') av ∧ Low ρ3 ρ3 H3 (less H3 D') ∧ Pst C W ρ3 τ (less H3 D') (k a h3) Gq) := by
  cases r with
  | ok a h' =>
    intro ρ' H' e1 ok1
    obtain ⟨s1, e2, l2⟩ := s.on e1 ok1
    exact ⟨s1, l2, Pst.mono (r := k a h') p e2⟩
  | exc c h => exact p.elim
  | stuck => exact p.elim
theorem bindN_bindN {α β γ : Type} (r : Res α) (k : α → Hs → Res β) (l : β → Hs → Res γ) : (r.bindN k).bindN l = r.bindN fun a h => (k a h).bindN l := by
  cases r <;> rfl
/-- the turns of a clause: K what is reckoned behind it, of all made so far -/
theorem lc_turns {β : Type} {C : Cc} {W : WX} {ρb ρs : List Addr} {Hb Hz : Hp} {D' : Addr} {σ τ : L2.St} {envw : Sl} {fr : List Addr} {J : It} {s : Src} {vs : List Nat} {g : TG} {G : D → Sl → Option Sl} {tt : TT} {t : XB} {el : XEl} {Gq : β → Hs → List Addr → Hp → Prop}
    {K : List D → Hs → Res β} {TB : L2.St → Hp → (Hp → Prop) → Prop} {End : Hp → Prop} {ρ0 : List Addr} {h0 : Hs} {acc0 : List D} {H0 Hm0 : Hp} {av0 : List V}
    (hJ : ItOk C ρb Hb fr J s.nxt)
    (hR : ∀ {ρ h acc H Hm av}, StD C ρs Hz D' ρ h acc H Hm av → Low ρb ρ Hb H ∧ ∀ p, p ∈ fr → ∀ o, Hb p = some o → H p = some o)
    (hg : SoG C vs g G) (ht : SoB C W0 tt t) (en : EnvOk C ρs Hz envw (wipe σ vs))
    (hbody : ∀ {ρ h acc H Hm av e σ2} {K' : List D → Hs → Res β} {Nx : Hp → Prop}, StD C ρs Hz D' ρ h acc H Hm av → EnvOk C ρ H e σ2 → Pst C W ρ τ Hm ((el e acc.length h).bindN fun ys h2 => K' (acc ++ ys) h2) Gq →
      (∀ {ρ' h' acc' H' Hm' av'}, StD C ρs Hz D' ρ' h' acc' H' Hm' av' → Pst C W ρ' τ Hm' (K' acc' h') Gq → Nx H') → TB σ2 H Nx)
    (hend : ∀ {ρ h acc H Hm av}, StD C ρs Hz D' ρ h acc H Hm av → Pst C W ρ τ Hm (K acc h) Gq → End H)
    (st : StD C ρs Hz D' ρ0 h0 acc0 H0 Hm0 av0) (p : Pst C W ρ0 τ Hm0 ((lcS s G t el envw acc0.length h0).bindN fun zs h3 => K (acc0 ++ zs) h3) Gq) :
    ∃ Wi : Nat → Nat → Hp → Prop, (∃ m, Wi 0 m H0) ∧ ∀ i m H, Wi i m H → (J.stop i H ∧ End H) ∨ (J.go i H ∧ ∃ Nx : Hp → Prop, (∀ H', Nx H' → ∃ m', m' < m ∧ Wi (i + 1) m' H') ∧
      ∀ x H', J.yld i H x H' → g x (wipe σ vs) H' fun σ2 H2 => wipe σ2 vs = wipe σ vs ∧ tt σ2 H2 fun b H3 => if b = true then TB σ2 H3 Nx else Nx H3) := by
  obtain ⟨m0, q0⟩ := lcS_L (s := s) (G := G) (t := t) (el := el) (env := envw) (n := acc0.length) (h := h0)
  rw [q0] at p
  refine ⟨fun i m H => ∃ ρ h acc Hm av, StD C ρs Hz D' ρ h acc H Hm av ∧ Pst C W ρ τ Hm ((lcL s G t el envw m i acc.length h).bindN fun zs h3 => K (acc ++ zs) h3) Gq, ⟨m0, _, _, _, _, _, st, p⟩, ?_⟩
  rintro i m H ⟨ρ, h, acc, Hm, av, s1, p1⟩
  obtain ⟨low, keep⟩ := hR s1
  cases m with
  | zero => exact p1.elim
  | succ m =>
    unfold lcL at p1
    revert p1
    cases q : s.nxt i h with
    | none => exact fun p1 => p1.elim
    | some o =>
      cases o with
      | none =>
        intro p1
        refine .inl ⟨hJ.stop low keep s1.heap q, hend s1 ?_⟩
        have p2 : Pst C W ρ τ Hm (K (acc ++ []) h) Gq := p1
        rwa [List.append_nil] at p2
      | some d =>
        obtain ⟨hgo, hy⟩ := hJ.item low keep s1.heap q
        dsimp only
        cases qg : G d envw with
        | none => exact fun p1 => p1.elim
        | some e4 =>
          intro p1
          refine .inr ⟨hgo, fun H' => ∃ ρ h acc Hm av, StD C ρs Hz D' ρ h acc H' Hm av ∧ Pst C W ρ τ Hm ((lcL s G t el envw m (i + 1) acc.length h).bindN fun zs h3 => K (acc ++ zs) h3) Gq, fun H' z => ⟨m, Nat.lt_succ_self m, z⟩, fun x H4 hx => ?_⟩
          obtain ⟨e5, ok5, hd⟩ := hy x H4 hx
          obtain ⟨s4, e4', l4⟩ := s1.on e5 ok5
          have enw : EnvOk C ρ H4 envw (wipe σ vs) := en.low (s1.ext.low.trans (s1.ext'.low.trans e5.low))
          refine hg.go enw hd qg fun σ6 en6 w6 => ⟨w6.trans (wipe_idem σ vs), ?_⟩
          have p4 : Pst C W ρ τ (less H4 D') ((t e4 h).bindN fun b h1 => (if b then (el e4 acc.length h1).bindN fun ys h2 => (lcL s G t el envw m (i + 1) (acc.length + ys.length) h2).bindN fun zs h3 => .ok (ys ++ zs) h3
              else lcL s G t el envw m (i + 1) acc.length h1).bindN fun zs h3 => K (acc ++ zs) h3) Gq := by
            rw [← bindN_bindN]
            exact Pst.mono p1 e4'
          refine ht.go en6 ok5 ((Pst.under s4 p4).imp fun b h5 ρ5 H5 e6 ok6 ⟨s5, l5, p5⟩ => ?_)
          unfold GB
          cases b with
          | false =>
            simp only [Bool.false_eq_true, ↓reduceIte] at p5 ⊢
            exact ⟨ρ5, h5, acc, _, av, s5, p5⟩
          | true =>
            simp only [↓reduceIte] at p5 ⊢
            refine hbody (K' := fun a2 h2 => (lcL s G t el envw m (i + 1) a2.length h2).bindN fun zs h3 => K (a2 ++ zs) h3) s5 (en6.mono e6) ?_ fun {ρ' h' acc' H' Hm' av'} s' p' => ⟨ρ', h', acc', Hm', av', s', p'⟩
            rw [bindN_bindN] at p5
            have e : (fun (ys : List D) (h2 : Hs) => ((lcL s G t el envw m (i + 1) (acc.length + ys.length) h2).bindN fun zs h3 => Res.ok (ys ++ zs) h3).bindN fun zs h3 => K (acc ++ zs) h3) =
                fun ys h2 => (lcL s G t el envw m (i + 1) (acc ++ ys).length h2).bindN fun zs h3 => K ((acc ++ ys) ++ zs) h3 := by
              funext ys h2
              rw [bindN_bindN, List.length_append]
              congr 1
              funext zs h3
              rw [List.append_assoc]
              rfl
            rw [e] at p5
            exact p5
/-- the body: one item is made -/
theorem lc_one {β : Type} {C : Cc} {W : WX} {ρs : List Addr} {Hz : Hp} {D' : Addr} {τ : L2.St} {te : TE} {f : XE} {Gq : β → Hs → List Addr → Hp → Prop} (hf : SoE C W0 te f) {ρ h acc H Hm av e σ2} {K' : List D → Hs → Res β} {Nx : Hp → Prop} (s : StD C ρs Hz D' ρ h acc H Hm av) (en : EnvOk C ρ H e σ2)
    (p : Pst C W ρ τ Hm ((elOne f e acc.length h).bindN fun ys h2 => K' (acc ++ ys) h2) Gq) (q : ∀ {ρ' h' acc' H' Hm' av'}, StD C ρs Hz D' ρ' h' acc' H' Hm' av' → Pst C W ρ' τ Hm' (K' acc' h') Gq → Nx H') :
    te σ2 H fun y H4 => ∃ acc, H4 D' = some (.lst acc) ∧ acc.length < sizeLine ∧ Nx (upd H4 D' (.lst (acc ++ [y]))) := by
  unfold elOne at p
  split at p
  · rename_i hl
    rw [bindN_bindN] at p
    refine hf.go en s.heap ((Pst.under s p).imp fun d h4 ρ4 H4 e4 ok4 ⟨s4, l4, p4⟩ v hv => ⟨av, s4.at, sz_lt' (by rw [← s.ac.length]; exact hl), ?_⟩)
    have s5 := s4.add (hv.low l4)
    exact q s5 p4
  · exact p.elim
theorem so_lc {C : Cc} {W : WX} {wi : TI} {src : XI} {vs : List Nat} {g : TG} {G : D → Sl → Option Sl} {tt : TT} {t : XB} {te : TE} {f : XE} (hi : SoIt C W wi src) (hg : SoG C vs g G) (ht : SoB C W0 tt t) (hf : SoE C W0 te f) : SoL C W (tLc wi g tt te vs) (xLc src vs G t f) := ⟨fun {env h ρ σ H Q} he hh hp => by
  refine hi.go he hh ((Pst.bind hp).imp fun s h1 ρ1 H1 e1 ok1 p1 => ?_)
  intro fr H2 J hfr e2 ok2 hJ D' hD
  have p2 := Pst.mono p1 e2
  have nfr : D' ∉ fr ∨ True := .inr trivial
  refine lc_turns (K := fun acc h => .ok acc h) (Gq := GL C Q) (τ := σ) (W := W) (TB := fun σ2 H3 Nx => te σ2 H3 fun y H4 => ∃ acc, H4 D' = some (.lst acc) ∧ acc.length < sizeLine ∧ Nx (upd H4 D' (.lst (acc ++ [y])))) hJ (fun {ρ h acc H Hm av} s1 => ⟨s1.ext.low.trans s1.ext'.low, fun p hp o ho => ?_⟩) hg ht
    (((he.mono e1).mono e2).wipe vs) (fun s en p q => lc_one hf s en p q) (fun {ρ h acc H Hm av} s1 p => ?_) ⟨rfl, hD, Ext.refl, ok2, .nil⟩ p2
  · rw [s1.eq, upd_ne (ne_of_none (s1.ext.keep p o ho (hfr p hp).2) s1.no)]
    exact s1.ext.keep p o ho (hfr p hp).2
  · have := p ρ Hm Ext.refl s1.ok D' av s1.no s1.ac
    rw [s1.eq]
    exact this⟩
theorem so_lc2 {C : Cc} {W : WX} {wi wi1 : TI} {src src1 : XI} {vs vs1 : List Nat} {g g1 : TG} {G G1 : D → Sl → Option Sl} {tt tt1 : TT} {t t1 : XB} {te : TE} {f : XE} (hi : SoIt C W wi src) (hg : SoG C vs g G) (ht : SoB C W0 tt t) (hi1 : SoIt C W0 wi1 src1) (hg1 : SoG C vs1 g1 G1) (ht1 : SoB C W0 tt1 t1) (hf : SoE C W0 te f) :
    SoL C W (tLc2 wi g tt wi1 g1 tt1 te vs vs1) (xLc2 src vs vs1 G t src1 G1 t1 f) := ⟨fun {env h ρ σ H Q} he hh hp => by
  refine hi.go he hh ((Pst.bind hp).imp fun s h1 ρ1 H1 e1 ok1 p1 => ?_)
  intro fr H2 J hfr e2 ok2 hJ D' hD
  have p2 := Pst.mono p1 e2
  refine lc_turns (K := fun acc h => .ok acc h) (Gq := GL C Q) (τ := σ) (W := W) (TB := fun σ2 H3 Nx => wi1 σ2 H3 fun J1 H4 => ∃ W1 : Nat → Nat → Hp → Prop, (∃ m, W1 0 m H4) ∧ ∀ j k H, W1 j k H →
      (J1.stop j H ∧ Nx H) ∨ (J1.go j H ∧ ∃ Nx1 : Hp → Prop, (∀ H', Nx1 H' → ∃ k', k' < k ∧ W1 (j + 1) k' H') ∧ ∀ x H', J1.yld j H x H' → g1 x (wipe σ2 vs1) H' fun σ3 H5 => wipe σ3 vs1 = wipe σ2 vs1 ∧ tt1 σ3 H5 fun b H6 =>
        if b = true then te σ3 H6 fun y H7 => ∃ acc, H7 D' = some (.lst acc) ∧ acc.length < sizeLine ∧ Nx1 (upd H7 D' (.lst (acc ++ [y]))) else Nx1 H6)) hJ (fun {ρ h acc H Hm av} s1 => ⟨s1.ext.low.trans s1.ext'.low, fun p hp o ho => ?_⟩) hg ht
    (((he.mono e1).mono e2).wipe vs) ?_ (fun {ρ h acc H Hm av} s1 p => ?_) ⟨rfl, hD, Ext.refl, ok2, .nil⟩ p2
  · rw [s1.eq, upd_ne (ne_of_none (s1.ext.keep p o ho (hfr p hp).2) s1.no)]
    exact s1.ext.keep p o ho (hfr p hp).2
  · intro ρ h acc H3 Hm av e σ2 K' Nx s3 en3 p3 q3
    unfold elIn at p3
    rw [bindN_bindN] at p3
    refine hi1.go en3 s3.heap ((Pst.under s3 p3).imp fun s1 h4 ρ4 H4 e4 ok4 ⟨s4, l4, p4⟩ => ?_)
    intro fr1 H5 J1 hfr1 e5 ok5 hJ1
    obtain ⟨s5, e5', l5⟩ := s4.on e5 ok5
    have p5 := Pst.mono p4 e5'
    refine lc_turns (K := K') (Gq := GL C Q) (τ := σ) (W := W) (ρs := ρ4) (Hz := less H5 D') (End := Nx) (TB := fun σ3 H6 Nx1 => te σ3 H6 fun y H7 => ∃ acc, H7 D' = some (.lst acc) ∧ acc.length < sizeLine ∧ Nx1 (upd H7 D' (.lst (acc ++ [y])))) hJ1
      (fun {ρ h acc H Hm av} s6 => ⟨l5.trans (s6.ext.low.trans s6.ext'.low), fun p hp o ho => ?_⟩) hg1 ht1 ((((en3.mono e4).mono e5).wipe vs1).low l5) (fun s en p q => lc_one hf s en p q) (fun {ρ h acc H Hm av} s6 p => ?_) ⟨s5.eq, s5.no, Ext.refl, s5.ok, s5.ac⟩ p5
    · have ne : p ≠ D' := fun z => by
        have z1 := (hfr1 p hp).1
        rw [z, s3.at] at z1
        cases z1
      have k1 : less H5 D' p = some o := by rw [less_ne ne]; exact ho
      rw [s6.eq, upd_ne ne]
      exact s6.ext.keep p o k1 (hfr1 p hp).2
    · exact q3 ⟨s6.eq, s6.no, s5.ext.trans s6.ext, s6.ok, s6.ac⟩ p
  · have := p ρ Hm Ext.refl s1.ok D' av s1.no s1.ac
    rw [s1.eq]
    exact this⟩
theorem so_yes {C : Cc} {W : WX} : SoB C W tYes tYesF := ⟨fun {env h ρ σ H Q} he hh hp => hp ρ H Ext.refl hh⟩
structure FTs (X : Cx) (W : WX) (es : List Expr) (te : TT) (f : XB) : Prop where
  pt : PTs X es te
  so : SoB (cc X) W te f
theorem ft_nil {X : Cx} {W : WX} : FTs X W [] tYes tYesF := ⟨pts_nil, so_yes⟩
theorem ft_one {X : Cx} {W : WX} {e : Expr} {te : TT} {f : XB} (h : FT X W e te f) : FTs X W [e] te f := ⟨pts_one h.pe, h.so⟩
abbrev Blk (X : Cx) (scope : Scope) (s : Shared) (H : Hp) (C : Addr) (cl : List (Str × Addr)) (fp : List Addr) : Cx := X.blk s H scope (compEnvC scope cl C X.env) fp
theorem flc {X : Cx} {W : WX} {elt tg iter : Expr} {ifs : List Expr} {scope : Scope} {own : List (Str × Nat)} {pos : Pos} {wi : TI} {g : TG} {tt : TT} {te : TE} {src : XI} {G : D → Sl → Option Sl} {t : XB} {f : XE} (hc : X.calm = true) (hN : X.N.Nodup) (hi : FI X W tg iter wi src) (ok : BlkOk X.N X.env.scope scope own)
    (hg : ∀ s H C cl fp, FG (Blk X scope s H C cl fp) (own.map (·.2)) tg g G) (ht : ∀ s H C cl fp, FTs (Blk X scope s H C cl fp) W0 ifs tt t) (he : ∀ s H C cl fp, FE (Blk X scope s H C cl fp) W0 elt te f) (hs : ∀ x, foldedSetIterable iter X.env x = pure x := by intro _; rfl) :
    FLs X W (.ListComp elt [⟨tg, iter, ifs, 0⟩] scope pos) (tLc wi g tt te (own.map (·.2))) (xLc src (own.map (·.2)) G t f) :=
  ⟨pe_lc hc hN hi.pi ok (fun s H C cl fp => (hg s H C cl fp).pg) (fun s H C cl fp => (ht s H C cl fp).pt) (fun s H C cl fp => (he s H C cl fp).pe) hs,
    so_lc hi.so (hg ⟨X.s_0.heap, X.s_0.gens, X.s_0.drawn, X.s_0.toks, X.s_0.os⟩ X.H_0 0 [] []).so (ht X.s_0 X.H_0 0 [] []).so (he X.s_0 X.H_0 0 [] []).so⟩
end FL

/-! FF: defs, their calls, the law's own end. -/
namespace FL
open PySem PySem.Spec PyProof.Rows L2

abbrev Fn := List D → Hs → Res D
/-- a wish about exceptions that does not ask of slots -/
abbrev wE (E : XK) : WX := fun c d _ H => E c d H
/-- the def at f computes g -/
structure FnS (P : Program) (w : World) (K : PySem.W.Frag) (mg : Str → Option Value) (base : Heap) (k : Nat) (f : Addr) (fd : FuncData) (ps : List Str) (g : Fn) : Prop where
  run : ∀ (A : Around) (outer : List Env) (s : Shared) (H : Hp) (args : Args) (us : List Value) (vs : List V) (ρ : List Addr) (ds : List D) (h : Hs) (Q : VK) (E : XK), Room k A → A.guards = some [] → Env0 P w K mg base A outer s H →
    us.length = ps.length → BindsTo s fd args (ps.zip us) → Vals vs us → Embs ⟨K, mg⟩ ρ H ds vs → HeapOk ⟨K, mg⟩ ρ h H → Pst ⟨K, mg⟩ (wE E) ρ [] H (g ds h) (GV ⟨K, mg⟩ Q) →
    codeAny (model P w) A (.call (.ref f) args) (CR (L2.CX P w) outer P w H s Q E) s
  len : ∀ ds h, ds.length ≠ ps.length → g ds h = .stuck
def retOf (r : SRes) : Res D := match r with
  | .rt d h => .ok d h
  | .nx _ h => .ok .non h
  | .exc c _ h => .exc c h
  | _ => .stuck
def fnSem (np nl : Nat) (b : XS) : Fn := fun ds h => if ds.length = np then retOf (b (ds.map some ++ List.replicate nl none) h) else .stuck

theorem embs_start {C : Cc} {ρ : List Addr} {H : Hp} {ds : List D} {vs : List V} (h : Embs C ρ H ds vs) (n : Nat) : EnvOk C ρ H (ds.map some ++ List.replicate n none) (vs.map some ++ List.replicate n none) := by
  refine ⟨by simp [h.length], fun i d e => ?_⟩
  by_cases hi : i < ds.length
  · rw [List.getElem?_append_left (by simpa using hi), List.getElem?_map] at e
    cases q : ds[i]? with
    | none => rw [q] at e; cases e
    | some d' =>
      rw [q] at e
      cases e
      obtain ⟨v, e1, hv⟩ := h.get q
      refine ⟨v, ?_, hv⟩
      rw [List.getElem?_append_left (by rw [List.length_map, ← h.length]; exact hi), List.getElem?_map, e1]
      rfl
  · rw [List.getElem?_append_right (by simpa using hi)] at e
    have : (List.replicate n (none : Option D))[i - (ds.map some).length]? = some (some d) := e
    rw [List.getElem?_replicate] at this
    split at this <;> cases this

section
variable {P : Program} {w : World} {K : PySem.W.Frag} {mg : Str → Option Value} {base : Heap}
/-- a def by its body -/
theorem fn_body {x qual : Str} {st : Stmt} {f : Addr} {fd : FuncData} {N ps : List Str} {k np nl : Nat} {b : XS} (F : Fun K x qual st f fd) (S : FnScope N ps (defScope st)) (hp : ps.length = np) (hl : N.length - np = nl)
    (body : ∀ (cdv : Value) (A : Around) (outer : List Env) (s : Shared) (H : Hp) (E : XK), Room k (A.deeper (envOfC qual (defScope st) s.heap.objs.size f cdv)) → A.guards = some [] →
      ∃ t, FSs (cxOf (L2.CX P w) P w K mg base N qual (defScope st) f cdv A outer s H E) (wE E) (defBody st) t b) :
    FnS P w K mg base (k + 1) f fd ps (fnSem np nl b) := by
  obtain ⟨oc, od, kV, doc, pm, an, cdv, ct, osl, rfl, lk, hcd⟩ := F.ex
  refine ⟨fun A outer s H args us vs ρ ds h Q E hr hgd e0 hlen hb rv hd hh hq => ?_, fun ds h hne => ?_⟩
  · have lvs : vs.length = ps.length := rv.length.trans hlen
    let sp : Sp := fun vs' H' Q' E' => vs' = vs ∧ H' = H ∧ Q' = Q ∧ E' = E
    have G : FnOk P w K mg base (L2.CX P w) (k + 1) f (PySem.W.fnOf x qual (defArgs st) (defBody st) (defScope st) .none kV doc pm an cdv ct) ps (fun vs' H' Q' E' => vs'.length = ps.length ∧ False) :=
      ⟨fun _ _ _ _ z => z.1, fun _ _ _ _ _ _ _ _ _ _ _ _ _ z => z.2.elim⟩
    have KX : K.In s.heap := e0.mod.kin.keeps fun b o e => (e0.bs b o e).1
    have lim : s.heap.NoLimit := e0.mod.nolimit.keeps fun b o e => (e0.bs b o e).1
    have kinds : ∀ y ∈ ps.zip us, (defScope st).names.lookup y.1 = some .local ∨ ((defScope st).names.lookup y.1 = some .cell ∧ ((cellsFrom (s.heap.objs.size + 1) (defScope st).names []).lookup y.1).isSome = true) := by
      rintro ⟨n, v⟩ hy
      have hn := (List.of_mem_zip hy).1
      cases S.par n hn with
      | inl q => exact .inl q
      | inr q => exact .inr ⟨q, PySem.W.cellsFrom_some _ _ _ (.inl q)⟩
    apply codeAny_call_function hr.depth (KX _ _ lk) rfl S.co S.gen rfl (PySem.W.codeRec_of KX hcd)
    apply hb
    apply wpAny_newFunctionEnv_cells S.kind kinds
    intro env henv s1 hin
    subst henv
    refine ⟨lim.keeps hin.toInCall.keep, codeAny_func ?_⟩
    obtain ⟨t, ht⟩ := body cdv A outer s H E (hr.deeper _) hgd
    have J : Inv (cxOf (L2.CX P w) P w K mg base N qual (defScope st) f cdv A outer s H E) [] (L2.start N vs) H s1 := inv_start S hr.hd e0 lvs rv hin
    have en := embs_start hd nl
    have e1 : L2.start N vs = vs.map some ++ List.replicate nl none := by
      unfold L2.start
      rw [lvs, hp, hl]
    have hds : ds.length = np := by rw [hd.length, lvs, hp]
    have go : t { nx := fun _ H' => Q .non H', rt := Q } (L2.start N vs) H := by
      rw [e1]
      refine ht.so.go en hh ?_
      have hq' : Pst ⟨K, mg⟩ (wE E) ρ [] H (fnSem np nl b ds h) (GV ⟨K, mg⟩ Q) := hq
      unfold fnSem at hq'
      rw [if_pos hds] at hq'
      revert hq'
      cases b (ds.map some ++ List.replicate nl none) h with
      | nx e h' => exact fun q ρ' σ' H' x1 x2 x3 => q ρ' H' x1 x2 .non .non
      | rt d h' => exact fun q ρ' v H' x1 x2 x3 => q ρ' H' x1 x2 v x3
      | exc c e h' => exact fun q ρ' σ' H' a x1 x2 x3 x4 => q ρ' H' a x1 x2 x4
      | bk e h' => exact fun q => q.elim
      | ct e h' => exact fun q => q.elim
      | stuck => exact fun q => q
    refine wpAny_mono (ht.ps.run [] s1 (L2.start N vs) H _ J go) (fun fl s' hs => ?_) fun e s' hs => hs
    cases fl with
    | next =>
      obtain ⟨σ', H', J', q⟩ := hs
      exact ⟨.non, H', J'.os, J'.bare, J'.base, J'.hok, rfl, q⟩
    | ret u =>
      obtain ⟨v, σ', H', J', r, q⟩ := hs
      exact ⟨v, H', J'.os, J'.bare, J'.base, J'.hok, r, q⟩
    | brk => obtain ⟨_, _, _, q⟩ := hs; exact q.elim
    | cont => obtain ⟨_, _, _, q⟩ := hs; exact q.elim
  · unfold fnSem
    rw [if_neg (by rw [← hp]; exact hne)]
theorem FnS.mono {j k : Nat} {f : Addr} {fd : FuncData} {ps : List Str} {g : Fn} (F : FnS P w K mg base j f fd ps g) (h : j ≤ k) : FnS P w K mg base k f fd ps g :=
  ⟨fun A outer s H args us vs ρ ds hh Q E hr => F.run A outer s H args us vs ρ ds hh Q E (hr.mono h), F.len⟩
/-- another name for what is computed -/
theorem FnS.as {k : Nat} {f : Addr} {fd : FuncData} {ps : List Str} {g g' : Fn} (F : FnS P w K mg base k f fd ps g) (e : g = g') : FnS P w K mg base k f fd ps g' := e ▸ F
end

/-! ### a call -/
mutual
def D.pure : D → Bool
  | .non => true
  | .bl _ => true
  | .int _ => true
  | .str _ => true
  | .ty _ => true
  | .gl _ => true
  | .tup ds => D.pures ds
  | .rol ds => D.pures ds
  | .ref _ => false
def D.pures : List D → Bool
  | [] => true
  | d :: ds => D.pure d && D.pures ds
end
mutual
theorem Emb.pure {C : Cc} {ρ ρ1 : List Addr} {H : Hp} {d : D} {v : V} (h : Emb C ρ H d v) (p : d.pure = true) : Emb C ρ1 H d v := by
  match h with
  | .non => exact .non
  | .bl b => exact .bl b
  | .int i => exact .int i
  | .str cs => exact .str cs
  | .ty n => exact .ty n
  | .gl h => exact .gl h
  | .tup h hs => exact .tup h (Embs.pure hs p)
  | .rol h hs => exact .rol h (Embs.pure hs p)
  | .ref h => cases p
theorem Embs.pure {C : Cc} {ρ ρ1 : List Addr} {H : Hp} {ds : List D} {vs : List V} (h : Embs C ρ H ds vs) (p : D.pures ds = true) : Embs C ρ1 H ds vs := by
  match h with
  | .nil => exact .nil
  | .cons h hs =>
    unfold D.pures at p
    rw [Bool.and_eq_true] at p
    exact .cons (Emb.pure h p.1) (Embs.pure hs p.2)
end
/-- what comes back of a call over an empty heap -/
def settle (r : Res D) (h1 : Hs) : Res D := match r with
  | .ok d h' => if d.pure then .ok d h1 else match d with
    | .ref i => match h'[i]? with
      | some (.lst xs) => if D.pures xs then .ok (.ref h1.length) (h1 ++ [.lst xs]) else .stuck
      | _ => .stuck
    | _ => .stuck
  | .exc c _ => .exc c h1
  | .stuck => .stuck
def callG (g : Fn) : Fn := fun ds h1 => if D.pures ds then settle (g ds []) h1 else g ds h1
theorem ext_nil {C : Cc} {ρ ρ' : List Addr} {h1 : Hs} {H H' : Hp} (e : Ext [] ρ' H H') : Ext ρ ρ H H' :=
  ⟨⟨[], by simp⟩, fun a o q _ => e.keep a o q (by simp), fun a m m' => absurd m m', e.tup, e.frz⟩
theorem heap_nil {C : Cc} {ρ ρ' : List Addr} {h1 : Hs} {H H' : Hp} (e : Ext [] ρ' H H') (ok : HeapOk C ρ h1 H) : HeapOk C ρ h1 H' :=
  ⟨ok.len, ok.nd, fun i a o q1 q2 => (ok.ob i a o q1 q2).low ⟨⟨[], by simp⟩, e.tup, e.frz⟩ fun u q => e.keep a u q (by simp)⟩
theorem callG_ok {C : Cc} {W : WX} {ρ : List Addr} {σ : L2.St} {H : Hp} {g : Fn} {ds : List D} {h1 : Hs} {vs : List V} {Q : VK} (hd : Embs C ρ H ds vs) (ok : HeapOk C ρ h1 H) (p : Pst C W ρ σ H (callG g ds h1) (GV C Q)) :
    ∃ ρ0 h0, Embs C ρ0 H ds vs ∧ HeapOk C ρ0 h0 H ∧ Pst C (wE fun c d H => W c d σ H) ρ0 [] H (g ds h0) (GV C Q) := by
  unfold callG at p
  split at p
  · rename_i hp
    refine ⟨[], [], hd.pure hp, HeapOk.nil, ?_⟩
    revert p
    cases g ds [] with
    | ok d h' =>
      intro p ρ' H' e1 ok1 v hv
      unfold settle at p
      dsimp only at p
      split at p
      · rename_i hpure
        exact p ρ H' (ext_nil (C := C) (h1 := h1) e1) (heap_nil e1 ok) v (hv.pure hpure)
      · split at p
        · rename_i _ i
          split at p
          · rename_i xs hi
            split at p
            · rename_i hx
              cases hv with
              | @ref _ a ha =>
                obtain ⟨ws, q1, q2⟩ := ok1.ob _ a _ ha hi
                have na : H a = none := e1.new a (List.mem_of_getElem? ha) (by simp)
                have nm := ok.notin na
                have ok2 : HeapOk C (ρ ++ [a]) (h1 ++ [.lst xs]) H' := by
                  have okb := heap_nil e1 ok
                  refine ⟨by rw [List.length_append, List.length_append, okb.len]; rfl, List.nodup_append.mpr ⟨okb.nd, by simp, fun x hx y hy z => nm (by rw [List.mem_singleton.mp hy] at z; rw [← z]; exact hx)⟩, fun j b o z1 z2 => ?_⟩
                  have lowA : Low ρ (ρ ++ [a]) H' H' := ⟨⟨[a], rfl⟩, fun _ _ q => q, fun _ _ _ q => q⟩
                  by_cases hj : j < ρ.length
                  · rw [List.getElem?_append_left hj] at z1
                    rw [List.getElem?_append_left (by rw [← okb.len]; exact hj)] at z2
                    exact (okb.ob j b o z1 z2).low lowA fun u q => q
                  · have hl : j = ρ.length := by
                      have := (List.getElem?_eq_some_iff.mp z1).1
                      rw [List.length_append] at this
                      simp at this
                      omega
                    subst hl
                    rw [List.getElem?_append_right (Nat.le_refl _)] at z1
                    rw [List.getElem?_append_right (by rw [okb.len]; exact Nat.le_refl _), okb.len] at z2
                    simp at z1 z2
                    subst z1 z2
                    exact ⟨ws, q1, q2.pure hx⟩
                refine p (ρ ++ [a]) H' ⟨⟨[a], rfl⟩, fun b o q _ => e1.keep b o q (by simp), fun b m m' => ?_, e1.tup, e1.frz⟩ ok2 _ (.ref ?_)
                · rcases List.mem_append.mp m with z | z
                  · exact absurd z m'
                  · rw [List.mem_singleton.mp z]; exact na
                · rw [← ok.len, List.getElem?_append_right (Nat.le_refl _)]
                  simp
            · exact p.elim
          · exact p.elim
        · exact p.elim
    | exc c h' => exact fun p ρ' H' a e1 ok1 hm => p ρ H' a (ext_nil (C := C) (h1 := h1) e1) (heap_nil e1 ok) hm
    | stuck => exact fun p => p
  · refine ⟨ρ, h1, hd, ok, ?_⟩
    revert p
    cases g ds h1 with
    | ok d h' => exact fun p => p
    | exc c h' => exact fun p => p
    | stuck => exact fun p => p
def xCall (g : Fn) (fA : XA) : XE := fun env h => (fA env h).bind fun ds h1 => callG g ds h1
/-- over the heap as it stands, whatever is handed in -/
def xCallH (g : Fn) (fA : XA) : XE := fun env h => (fA env h).bind fun ds h1 => g ds h1
def tCallF (C : Cc) (W : WX) (g : Fn) (t : TA) : TE := fun σ H Q => t σ H fun vs H1 => ∃ ρ ds h, Embs C ρ H1 ds vs ∧ HeapOk C ρ h H1 ∧ Pst C (wE fun c d H => W c d σ H) ρ [] H1 (g ds h) (GV C Q)
theorem so_call {C : Cc} {W : WX} {g : Fn} {t : TA} {fA : XA} (ha : SoA C W t fA) : SoE C W (tCallF C W g t) (xCall g fA) := ⟨fun {env h ρ σ H Q} he hh hp =>
  ha.go he hh ((Pst.bind hp).imp fun ds h1 ρ1 H1 e1 ok1 p1 vs hv =>
    let ⟨ρ0, h0, a1, a2, a3⟩ := callG_ok hv ok1 p1
    ⟨ρ0, ds, h0, a1, a2, a3⟩)⟩
theorem so_callH {C : Cc} {W : WX} {g : Fn} {t : TA} {fA : XA} (ha : SoA C W t fA) : SoE C W (tCallF C W g t) (xCallH g fA) := ⟨fun {env h ρ σ H Q} he hh hp =>
  ha.go he hh ((Pst.bind hp).imp fun ds h1 ρ1 H1 e1 ok1 p1 vs hv => ⟨ρ1, ds, h1, hv, ok1, by
    revert p1
    cases g ds h1 with
    | ok d h' => exact fun p => p
    | exc c h' => exact fun p => p
    | stuck => exact fun p => p⟩)⟩
section
variable {X : Cx} {W : WX} {k : Nat} {f : Addr} {fd : FuncData} {ps : List Str} {g : Fn} {x : Str} {p pos : Pos} {e : Expr} {es : List Expr} {t : TA} {fA : XA}
theorem run_def {pins : List (Addr × Obj)} {σ : L2.St} {H : Hp} {s : Shared} {Q : VK} {us : List Value} {vs : List V} (F : FnS X.prog X.w X.K X.mg X.base k f fd ps g) (hr : Room k X.A) (hgd : X.A.guards = some []) (hb : Binds X.K fd ps []) (tk : Takes X W)
    (I : Inv X pins σ H s) (r : Vals vs us) (h : ∃ ρ ds h, Embs (cc X) ρ H ds vs ∧ HeapOk (cc X) ρ h H ∧ Pst (cc X) (wE fun c d H => W c d σ H) ρ [] H (g ds h) (GV (cc X) Q)) : wpAny (model X.prog X.w) X.A (call (.ref f) us) (EP X pins σ Q) X.xe s := by
  obtain ⟨ρ, ds, h0, hd, ok, hq⟩ := h
  have hl : us.length = ps.length := by
    by_cases z : ds.length = ps.length
    · rw [← r.length, ← hd.length]; exact z
    · rw [F.len ds h0 z] at hq
      exact hq.elim
  have b := hb s us I.kIn (by rw [List.append_nil]; exact hl)
  rw [List.append_nil] at b
  apply wpAny_call
  refine codeAny_mono (F.run X.A X.stack s H ⟨us, []⟩ us vs ρ ds h0 Q (fun c d H => W c d σ H) hr hgd I.env0 hl b r hd ok hq) ?_
  intro res s' hres
  match res, hres with
  | .error e, hres => exact passAt tk σ pins H s e s' I hres
  | .ok (.ret u), hres => exact I.after hres
theorem pe_def (F : FnS X.prog X.w X.K X.mg X.base k f fd ps g) (hr : Room k X.A) (hgd : X.A.guards = some []) (hg : Gl X x) (hm : X.mg x = some (.ref f)) (hk : PySem.W.keepIn X.K (.ref f) = true) (hb : Binds X.K fd ps []) (tk : Takes X W) (ha : PA X (e :: es) t)
    (hdb : (x == ("__debug__" : Str)) = false) (he : starEach (e :: es) X.env = (false, eval e X.env) :: starEach es X.env) (hpl : (backTo pos (starEach es X.env)).any (·.1) = false) :
    PE X (.Call (.Name x p) (e :: es) [] pos) (tCallF (cc X) W g t) := by
  constructor
  intro pins s σ H Q I h
  apply wpAny_Call_Name_kw
  apply ld_glob I hg hm _ hdb
  apply PySem.W.callWith_K (h₀ := X.base) I.ok.mod.kin hk _ he hpl
  refine thn (ha.run pos pins s σ H _ I h) ?_
  rintro us s1 ⟨vs, H1, I1, r, q⟩
  exact ⟨I1.kIn, run_def F hr hgd hb tk I1 r q⟩
theorem pe_def0 (F : FnS X.prog X.w X.K X.mg X.base k f fd ps g) (hr : Room k X.A) (hgd : X.A.guards = some []) (hg : Gl X x) (hm : X.mg x = some (.ref f)) (hk : PySem.W.keepIn X.K (.ref f) = true) (hb : Binds X.K fd ps []) (tk : Takes X W)
    (hdb : (x == ("__debug__" : Str)) = false) : PE X (.Call (.Name x p) [] [] pos) (tCallF (cc X) W g tNil) := by
  constructor
  intro pins s σ H Q I h
  apply wpAny_Call_Name_kw
  apply ld_glob I hg hm _ hdb
  exact PySem.W.callWith_K0 I.kIn hk (run_def (us := []) F hr hgd hb tk I .nil h)
theorem fcall (F : FnS X.prog X.w X.K X.mg X.base k f fd ps g) (hr : Room k X.A) (hgd : X.A.guards = some []) (hm : X.mg x = some (.ref f)) (hk : PySem.W.keepIn X.K (.ref f) = true) (hb : Binds X.K fd ps []) (tk : Takes X W) (ha : FAs X W (e :: es) t fA)
    (hg : Gl X x := by rfl) (hdb : (x == ("__debug__" : Str)) = false := by decide +kernel) (he : starEach (e :: es) X.env = (false, eval e X.env) :: starEach es X.env := by rfl) (hpl : (backTo pos (starEach es X.env)).any (·.1) = false := by rfl) :
    FE X W (.Call (.Name x p) (e :: es) [] pos) (tCallF (cc X) W g t) (xCall g fA) := ⟨pe_def F hr hgd hg hm hk hb tk ha.pe hdb he hpl, so_call ha.so⟩
theorem fcallH (F : FnS X.prog X.w X.K X.mg X.base k f fd ps g) (hr : Room k X.A) (hgd : X.A.guards = some []) (hm : X.mg x = some (.ref f)) (hk : PySem.W.keepIn X.K (.ref f) = true) (hb : Binds X.K fd ps []) (tk : Takes X W) (ha : FAs X W (e :: es) t fA)
    (hg : Gl X x := by rfl) (hdb : (x == ("__debug__" : Str)) = false := by decide +kernel) (he : starEach (e :: es) X.env = (false, eval e X.env) :: starEach es X.env := by rfl) (hpl : (backTo pos (starEach es X.env)).any (·.1) = false := by rfl) :
    FE X W (.Call (.Name x p) (e :: es) [] pos) (tCallF (cc X) W g t) (xCallH g fA) := ⟨pe_def F hr hgd hg hm hk hb tk ha.pe hdb he hpl, so_callH ha.so⟩
theorem fcall0 (F : FnS X.prog X.w X.K X.mg X.base k f fd ps g) (hr : Room k X.A) (hgd : X.A.guards = some []) (hm : X.mg x = some (.ref f)) (hk : PySem.W.keepIn X.K (.ref f) = true) (hb : Binds X.K fd ps []) (tk : Takes X W)
    (hg : Gl X x := by rfl) (hdb : (x == ("__debug__" : Str)) = false := by decide +kernel) : FE X W (.Call (.Name x p) [] [] pos) (tCallF (cc X) W g tNil) (xCall g xNil) := ⟨pe_def0 F hr hgd hg hm hk hb tk hdb, so_call so_nil⟩
end
end FL

/-! FW: the law's own end. -/
namespace FL
open PySem PySem.Spec PyProof.Rows L2

/-- the script's list alone is known -/
def scriptH (K : PySem.W.Frag) (a : Addr) (o : Obj) (xs : List V) : Hp := fun b => if b = a ∧ K.lookup a = none then some (.frz o (.lst xs)) else none
theorem scriptH_some {K : PySem.W.Frag} {a b : Addr} {o : Obj} {xs : List V} {u : HO} (h : scriptH K a o xs b = some u) : b = a ∧ K.lookup a = none ∧ u = .frz o (.lst xs) := by
  unfold scriptH at h
  split at h
  · rename_i c
    cases h
    exact ⟨c.1, c.2, rfl⟩
  · cases h
theorem embs_ints {C : Cc} {ρ : List Addr} {H : Hp} : ∀ ns : List Int, Embs C ρ H (ns.map .int) (ns.map V.int)
  | [] => .nil
  | n :: r => .cons (.int n) (embs_ints r)
theorem end_call {P : Program} {w : World} {K : PySem.W.Frag} {mg mb : Str → Option Value} {k : Nat} {fa a : Addr} {fd : FuncData} {x : Str} {g : Fn} {s₁ : Shared} {vs : List Value} {ns : List Int}
    (KX : K.In s₁.heap) (hns : s₁.heap.Ns mainGlobals mg) (hb : s₁.heap.Ns builtinsNs mb) (hbb : ∀ x : Str, x ≠ "__name__" → mb x = bootBuiltins x) (hlim : s₁.heap.NoLimit) (hgen : s₁.gens = #[])
    (ha : s₁.heap.get? a = some { cls := .type "list", data := .seq vs.toArray }) (hi : IntsAre vs ns) (hl : ns.length ≤ sizeLine) (hr : Room k callerA)
    (F : ∀ base : Heap, K.In base → base.Ns mainGlobals mg → FnS P w K mg base k fa fd [x] g) (hbind : ∀ (s : Shared) (u : Value), BindsTo s fd ⟨[u], []⟩ [(x, u)])
    (hg : ∃ h', g [.rol (ns.map .int)] [] = .ok (.bl true) h') :
    codeAny (model P w) callerA (.call (.ref fa) ⟨[.ref a], []⟩) (fun r s' => r = .ok (.ret (.bool true)) ∧ OldK s₁.heap s'.heap ∧ s'.os = s₁.os ∧ AllBare s'.gens) s₁ := by
  have rv := vals_ints hi
  have hlen := hi.length
  let o : Obj := { cls := .type "list", data := .seq vs.toArray }
  let H : Hp := scriptH K a o (ns.map V.int)
  have hsome : ∀ {b : Addr} {u : HO}, H b = some u → b = a ∧ K.lookup a = none ∧ u = .frz o (.lst (ns.map V.int)) := fun q => scriptH_some q
  have hro : RoL K H a (ns.map V.int) := by
    cases q : K.lookup a with
    | none => exact .inl ⟨o, if_pos ⟨rfl, q⟩⟩
    | some o' =>
      have z := KX a o' q
      rw [ha] at z
      cases z
      exact .inr ⟨_, vs.toArray, _, q, rfl, rfl, rfl, by rw [List.size_toArray, hlen]; exact hl, by simpa using rv⟩
  have hok : HOk P w H s₁.heap := fun b u q => by
    obtain ⟨rfl, _, rfl⟩ := hsome q
    exact ⟨ha, by rw [List.length_map]; exact hl, vs, _, rv, ha⟩
  have old : ∀ {b : Addr} {ob : Obj}, s₁.heap.get? b = some ob → H b = none → (hidT s₁.heap H).get? b = some ob := fun q n => hidT_get q n
  have dictNone : ∀ {b : Addr} {ob : Obj} {es : Array DictEntry} {ep : Nat}, s₁.heap.get? b = some ob → ob.data = .dict es ep → H b = none := fun {b ob es ep} q d => by
    cases z : H b with
    | none => rfl
    | some u =>
      obtain ⟨rfl, _⟩ := hsome z
      rw [ha] at q
      cases q
      cases d
  have nsOld : ∀ {b : Addr} {m : Str → Option Value}, s₁.heap.Ns b m → (hidT s₁.heap H).Ns b m := fun {b m} q => by
    obtain ⟨ob, es, ep, q1, q2, q3⟩ := q
    exact ⟨ob, es, ep, old q1 (dictNone q1 q2), q2, q3⟩
  have KB : K.In (hidT s₁.heap H) := fun b ob q => old (KX b ob q) (by
    cases z : H b with
    | none => rfl
    | some u =>
      obtain ⟨rfl, q2, _⟩ := hsome z
      rw [q] at q2
      cases q2)
  obtain ⟨mc, l1, l2⟩ := hlim
  have M : Mod K mg (hidT s₁.heap H) := ⟨KB, nsOld hns, ⟨mb, nsOld hb, hbb⟩, mc, nsOld l1, l2⟩
  have e0 : Env0 P w K mg (hidT s₁.heap H) callerA [] s₁ H := ⟨rfl, M, fun b ob q => of_hidT q, Nat.le_of_eq (hidT_size _ _), trivial, fun b m => absurd (show b ∈ ([] : List Addr) from m) (by simp), hok, .of_eq hgen⟩
  obtain ⟨h', hg⟩ := hg
  refine codeAny_mono ((F _ KB (nsOld hns)).run callerA [] s₁ H ⟨[.ref a], []⟩ [.ref a] [.ref a] [] [.rol (ns.map .int)] [] (fun v _ => v = .bl true) (fun _ _ _ => False) hr rfl e0 rfl (hbind s₁ (.ref a)) (.cons rfl .nil) (.cons (.rol hro (embs_ints ns)) .nil) HeapOk.nil ?_) ?_
  · rw [hg]
    intro ρ' H' _ _ v hv
    cases hv
    rfl
  · intro r s' hres
    match r, hres with
    | .error e, hres =>
      obtain ⟨_, _, _, _, _, _, _, _, _, _, _, _, z⟩ := hres
      exact z.elim
    | .ok (.ret u), hres =>
      obtain ⟨v, H', os, bare, un, hok', rel, q⟩ := hres
      have q' : v = .bl true := q
      subst q'
      have eu : u = Value.bool true := rel
      subst eu
      refine ⟨rfl, OldK.of_keep fun b ob q => ?_, os, bare⟩
      cases z : H b with
      | none => exact un.keep b ob q z (fun m => absurd (show b ∈ ([] : List Addr) from m) (by simp)) (by simp)
      | some u =>
        obtain ⟨eb, _, eu⟩ := hsome z
        rw [eu] at z
        have z2 := un.frzs b o _ z
        obtain ⟨y1, _⟩ := hok b _ z
        obtain ⟨y2, _⟩ := hok' b _ z2
        rw [q] at y1
        cases y1
        exact y2
/-- the goal that k_head leaves -/
theorem end_walk {l : PySem.W.OpenLaw} {n k : Nat} {q : Program} {loose : List Str} {XP : (Str → Option Value) → Heap → Prop} {YP : World → Heap → Prop} {d : DefRec} {K : Params → PySem.W.Frag} {x : Str} {g : Fn}
    (hn : l.most = some n) (hn2 : n ≤ sizeLine) (hdf : d.params.defaults = []) (hr : Room k callerA) (hY : ∀ (w : World) (h : Heap), YP w h → (K w.params).In h)
    (F : ∀ (w : World) (mg : Str → Option Value) (fa : Addr) (h : Heap), (K w.params).In h → h.Ns mainGlobals mg → mg d.name = some (.ref fa) →
      ∃ fd : FuncData, (∀ (s : Shared) (u : Value), BindsTo s fd ⟨[u], []⟩ [(x, u)]) ∧ ∀ base : Heap, (K w.params).In base → base.Ns mainGlobals mg → FnS l.prog w (K w.params) mg base k fa fd [x] g)
    (hg : ∀ ns : List Int, ns.length ≤ n → (∀ z ∈ ns, Builtin.Int.intBits z ≤ 1048576) → ∃ h', g [.rol (ns.map .int)] [] = .ok (.bl true) h') :
    PySem.W.WalkO q loose XP YP l.row.toRowW d [] (fun f vs => PySem.call f vs) := by
  refine Att.attach_callB hn hdf ?_
  intro w s₀ s₁ mg mb fa ob pm cd doc a vs ns G Y ho hd hcd hmg hobj hints hlen hbits hgen
  obtain ⟨fd, b, f⟩ := F w mg fa _ (hY w _ Y) G.T.g hmg
  exact end_call (hY w _ Y) G.T.g G.T.b G.T.builtins G.T.nolimit hgen hobj hints (Nat.le_trans hlen hn2) hr f b (hg ns hlen hbits)
end FL

/-! FG: built-ins, subscripts, comparisons. -/
namespace FL
open PySem PySem.Spec PyProof.Rows L2

/-! ### sequences -/
/-- the items of a list or tuple as it stands -/
def D.seq (h : Hs) : D → Option (List D)
  | .tup ds => some ds
  | .rol ds => some ds
  | .ref i => match h[i]? with
    | some (.lst ds) => some ds
    | _ => none
  | _ => none
section
variable {C : Cc} {W : WX} {ρ : List Addr} {σ : L2.St} {H : Hp} {h : Hs}
theorem seq_of {d : D} {ds : List D} {v : V} (ok : HeapOk C ρ h H) (hv : Emb C ρ H d v) (e : d.seq h = some ds) : ∃ a vs, v = .ref a ∧ Embs C ρ H ds vs ∧ (SqL C.K H a vs ∨ SqT C.K H a vs) := by
  unfold D.seq at e
  split at e
  · cases e
    cases hv with
    | tup hs hx => exact ⟨_, _, rfl, hx, .inr hs⟩
  · cases e
    cases hv with
    | rol hs hx => exact ⟨_, _, rfl, hx, .inl hs.seq⟩
  · split at e
    · rename_i i ds' q
      cases e
      cases hv with
      | ref ha =>
        obtain ⟨vs, q1, q2⟩ := ok.ob _ _ _ ha q
        exact ⟨_, vs, rfl, q2, .inl (SqL.of q1)⟩
    · cases e
  · cases e
/-- a list -/
def D.lstI (h : Hs) : D → Option (List D)
  | .rol ds => some ds
  | .ref i => match h[i]? with
    | some (.lst ds) => some ds
    | _ => none
  | _ => none
theorem lst_of {d : D} {ds : List D} {v : V} (ok : HeapOk C ρ h H) (hv : Emb C ρ H d v) (e : d.lstI h = some ds) : ∃ a vs, v = .ref a ∧ Embs C ρ H ds vs ∧ SqL C.K H a vs := by
  unfold D.lstI at e
  split at e
  · cases e
    cases hv with
    | rol hs hx => exact ⟨_, _, rfl, hx, hs.seq⟩
  · split at e
    · rename_i i ds' q
      cases e
      cases hv with
      | ref ha =>
        obtain ⟨vs, q1, q2⟩ := ok.ob _ _ _ ha q
        exact ⟨_, vs, rfl, q2, SqL.of q1⟩
    · cases e
  · cases e
theorem Embs.atI {ds : List D} {vs : List V} (hs : Embs C ρ H ds vs) {i : Int} {d : D} (e : atI ds i = some d) : ∃ v, L2.atI vs i = some v ∧ Emb C ρ H d v := by
  unfold L2.atI at e ⊢
  rw [hs.length] at e
  cases q : ixN vs.length i with
  | none => rw [q] at e; cases e
  | some j =>
    rw [q] at e
    exact hs.get (i := j) e
theorem strs_atI {cs : List Nat} {i : Int} {c : Nat} (e : atI cs i = some c) : L2.atI (⟨cs.toArray⟩ : Str).cps.toList i = some c := e
/-- a list that was just made, handed on: p is not told of -/
structure SoF (C : Cc) (W : WX) (r : List V → Hp → VK → Prop) (op : List D → Hs → Res D) : Prop where
  go : ∀ {h ρ σ H Q ds p vs}, HeapOk C ρ h H → SqL C.K H p vs → Embs C ρ H ds vs → Pst C W ρ σ H (op ds h) (GV C Q) → r [.ref p] H Q
/-- the same read off a value -/
def onL (op : List D → Hs → Res D) : List D → Hs → Res D := fun args h => match args with
  | [d] => match d.lstI h with
    | some ds => op ds h
    | none => .stuck
  | _ => .stuck
theorem SoF.val {r : List V → Hp → VK → Prop} {op : List D → Hs → Res D} (s : SoF C W r op) : SoC C W r (onL op) := ⟨fun {h ρ σ H Q ds xs} ok hd hp => by
  unfold onL at hp
  split at hp
  · split at hp
    · rename_i d ds' e
      cases hd with
      | cons hd hr =>
        cases hr
        obtain ⟨a, vs, rfl, q1, q2⟩ := lst_of ok hd e
        exact s.go ok q2 q1 hp
    · exact hp.elim
  · exact hp.elim⟩
/-- a built-in called on a list made for it -/
def xOnNew (op : List D → Hs → Res D) (f : XA) : XE := fun env h => (f env h).bind fun ds h1 => op ds h1
theorem so_onNew {r : List V → Hp → VK → Prop} {op : List D → Hs → Res D} {te : TE} {f : XA} (s : SoF C W r op) (hf : SoL C W te f) : SoE C W (tCB r (tCons te tNil)) (xOnNew op f) := ⟨fun {env h ρ σ H Q} he hh hp =>
  hf.go he hh ((Pst.bind hp).imp fun ds h1 ρ1 H1 e1 ok1 p1 p vs n hs =>
    s.go (ok1.fresh n) (SqL.of upd_same) (hs.mono (Ext.fresh n)) (Pst.mono p1 (Ext.fresh n)))⟩
/-- the same, the answer a new list -/
structure SoFL (C : Cc) (W : WX) (r : List V → Hp → VK → Prop) (op : List D → Hs → Res (List D)) : Prop where
  go : ∀ {h ρ σ H Q ds p vs}, HeapOk C ρ h H → SqL C.K H p vs → Embs C ρ H ds vs → Pst C W ρ σ H (op ds h) (GL C Q) → r [.ref p] H Q
def xOnNewL (op : List D → Hs → Res (List D)) (f : XA) : XA := fun env h => (f env h).bind fun ds h1 => op ds h1
theorem so_onNewL {r : List V → Hp → VK → Prop} {op : List D → Hs → Res (List D)} {te : TE} {f : XA} (s : SoFL C W r op) (hf : SoL C W te f) : SoL C W (tCB r (tCons te tNil)) (xOnNewL op f) := ⟨fun {env h ρ σ H Q} he hh hp =>
  hf.go he hh ((Pst.bind hp).imp fun ds h1 ρ1 H1 e1 ok1 p1 p vs n hs =>
    s.go (ok1.fresh n) (SqL.of upd_same) (hs.mono (Ext.fresh n)) (Pst.mono p1 (Ext.fresh n)))⟩
/-- .. of a value -/
def xOnValL (op : List D → Hs → Res (List D)) (f : XE) : XA := fun env h => (f env h).bind fun d h1 => match d.lstI h1 with
  | some ds => op ds h1
  | none => .stuck
theorem so_onValL {r : List V → Hp → VK → Prop} {op : List D → Hs → Res (List D)} {te : TE} {f : XE} (s : SoFL C W r op) (hf : SoE C W te f) : SoL C W (tCB r (tCons te tNil)) (xOnValL op f) := ⟨fun {env h ρ σ H Q} he hh hp =>
  hf.go he hh ((Pst.bind hp).imp fun d h1 ρ1 H1 e1 ok1 p1 v hv => by
    split at p1
    · rename_i ds e
      obtain ⟨a, vs, rfl, q1, q2⟩ := lst_of ok1 hv e
      exact s.go ok1 q2 q1 p1
    · exact p1.elim)⟩
end
section
variable {X : Cx} {W : WX} {x : Str} {p pos : Pos} {e : Expr} {es : List Expr} {te : TE} {t : TA} {id T : String} {r : List V → Hp → VK → Prop} {op : List D → Hs → Res D} {opL : List D → Hs → Res (List D)} {f : XE} {fA : XA}
/-- a built-in by its rule, of values -/
def xB (op : List D → Hs → Res D) (fA : XA) : XE := fun env h => (fA env h).bind fun ds h1 => op ds h1
theorem so_B {C : Cc} (s : SoC C W r op) (ha : SoA C W t fA) : SoE C W (tCB r t) (xB op fA) := ⟨fun {env h ρ σ H Q} he hh hp =>
  ha.go he hh ((Pst.bind hp).imp fun ds h1 ρ1 H1 e1 ok1 p1 vs hv => s.go ok1 hv p1)⟩
theorem fb (hc : CallR X (.builtin id) r) (s : SoC (cc X) W r op) (hm : X.mg x = none) (ha : FAs X W (e :: es) t fA) (hv : bootBuiltins x = some (.builtin id) := by decide +kernel) (hg : Gl X x := by rfl) (hn : x ≠ "__name__" := by decide +kernel) (hdb : (x == ("__debug__" : Str)) = false := by decide +kernel)
    (he : starEach (e :: es) X.env = (false, eval e X.env) :: starEach es X.env := by rfl) (hpl : (backTo pos (starEach es X.env)).any (·.1) = false := by rfl) : FE X W (.Call (.Name x p) (e :: es) [] pos) (tCB r t) (xB op fA) := ⟨pe_callB hc hg hm hv ha.pe hn hdb he hpl, so_B s ha.so⟩
theorem fty (hc : CallR X (.type T) r) (s : SoC (cc X) W r op) (hm : X.mg x = none) (ha : FAs X W (e :: es) t fA) (hv : bootBuiltins x = some (.type T) := by decide +kernel) (hg : Gl X x := by rfl) (hn : x ≠ "__name__" := by decide +kernel) (hdb : (x == ("__debug__" : Str)) = false := by decide +kernel)
    (he : starEach (e :: es) X.env = (false, eval e X.env) :: starEach es X.env := by rfl) (hpl : (backTo pos (starEach es X.env)).any (·.1) = false := by rfl) : FE X W (.Call (.Name x p) (e :: es) [] pos) (tCB r t) (xB op fA) := ⟨pe_callTy hc hg hm hv ha.pe hn hdb he hpl, so_B s ha.so⟩
/-- of a list that is made for it -/
theorem fbN (hc : CallR X (.builtin id) r) (s : SoF (cc X) W r op) (hm : X.mg x = none) (ha : FLs X W e te fA) (hv : bootBuiltins x = some (.builtin id) := by decide +kernel) (hg : Gl X x := by rfl) (hn : x ≠ "__name__" := by decide +kernel) (hdb : (x == ("__debug__" : Str)) = false := by decide +kernel)
    (hs : starEach [e] X.env = (false, eval e X.env) :: starEach [] X.env := by rfl) (he : starEach [e] X.env = (false, eval e X.env) :: starEach [] X.env := by rfl) (hpl : (backTo pos (starEach [] X.env)).any (·.1) = false := by rfl) :
    FE X W (.Call (.Name x p) [e] [] pos) (tCB r (tCons te tNil)) (xOnNew op fA) := ⟨pe_callB hc hg hm hv (pa_cons ha.pe pa_nil hs) hn hdb he hpl, so_onNew s ha.so⟩
theorem ftyN (hc : CallR X (.type T) r) (s : SoF (cc X) W r op) (hm : X.mg x = none) (ha : FLs X W e te fA) (hv : bootBuiltins x = some (.type T) := by decide +kernel) (hg : Gl X x := by rfl) (hn : x ≠ "__name__" := by decide +kernel) (hdb : (x == ("__debug__" : Str)) = false := by decide +kernel)
    (hs : starEach [e] X.env = (false, eval e X.env) :: starEach [] X.env := by rfl) (he : starEach [e] X.env = (false, eval e X.env) :: starEach [] X.env := by rfl) (hpl : (backTo pos (starEach [] X.env)).any (·.1) = false := by rfl) :
    FE X W (.Call (.Name x p) [e] [] pos) (tCB r (tCons te tNil)) (xOnNew op fA) := ⟨pe_callTy hc hg hm hv (pa_cons ha.pe pa_nil hs) hn hdb he hpl, so_onNew s ha.so⟩
theorem fbNL (hc : CallR X (.builtin id) r) (s : SoFL (cc X) W r opL) (hm : X.mg x = none) (ha : FLs X W e te fA) (hv : bootBuiltins x = some (.builtin id) := by decide +kernel) (hg : Gl X x := by rfl) (hn : x ≠ "__name__" := by decide +kernel) (hdb : (x == ("__debug__" : Str)) = false := by decide +kernel)
    (hs : starEach [e] X.env = (false, eval e X.env) :: starEach [] X.env := by rfl) (he : starEach [e] X.env = (false, eval e X.env) :: starEach [] X.env := by rfl) (hpl : (backTo pos (starEach [] X.env)).any (·.1) = false := by rfl) :
    FLs X W (.Call (.Name x p) [e] [] pos) (tCB r (tCons te tNil)) (xOnNewL opL fA) := ⟨pe_callB hc hg hm hv (pa_cons ha.pe pa_nil hs) hn hdb he hpl, so_onNewL s ha.so⟩
theorem fbVL (hc : CallR X (.builtin id) r) (s : SoFL (cc X) W r opL) (hm : X.mg x = none) (ha : FE X W e te f) (hv : bootBuiltins x = some (.builtin id) := by decide +kernel) (hg : Gl X x := by rfl) (hn : x ≠ "__name__" := by decide +kernel) (hdb : (x == ("__debug__" : Str)) = false := by decide +kernel)
    (hs : starEach [e] X.env = (false, eval e X.env) :: starEach [] X.env := by rfl) (he : starEach [e] X.env = (false, eval e X.env) :: starEach [] X.env := by rfl) (hpl : (backTo pos (starEach [] X.env)).any (·.1) = false := by rfl) :
    FLs X W (.Call (.Name x p) [e] [] pos) (tCB r (tCons te tNil)) (xOnValL opL f) := ⟨pe_callB hc hg hm hv (pa_cons ha.pe pa_nil hs) hn hdb he hpl, so_onValL s ha.so⟩
theorem ftyVL (hc : CallR X (.type T) r) (s : SoFL (cc X) W r opL) (hm : X.mg x = none) (ha : FE X W e te f) (hv : bootBuiltins x = some (.type T) := by decide +kernel) (hg : Gl X x := by rfl) (hn : x ≠ "__name__" := by decide +kernel) (hdb : (x == ("__debug__" : Str)) = false := by decide +kernel)
    (hs : starEach [e] X.env = (false, eval e X.env) :: starEach [] X.env := by rfl) (he : starEach [e] X.env = (false, eval e X.env) :: starEach [] X.env := by rfl) (hpl : (backTo pos (starEach [] X.env)).any (·.1) = false := by rfl) :
    FLs X W (.Call (.Name x p) [e] [] pos) (tCB r (tCons te tNil)) (xOnValL opL f) := ⟨pe_callTy hc hg hm hv (pa_cons ha.pe pa_nil hs) hn hdb he hpl, so_onValL s ha.so⟩
/-- a built-in class as a value -/
theorem fcls {n : String} {x : Str} {pos : Pos} (hm : X.mg x = none) (hv : bootBuiltins x = some (.type n) := by decide +kernel) (hg : Gl X x := by rfl) (hn : x ≠ "__name__" := by decide +kernel) (hd : (x == ("__debug__" : Str)) = false := by decide +kernel) : FE X W (.Name x pos) (tC (.ty n)) (xC (.ty n)) :=
  ⟨pe_bltn hg hm hv rfl hn hd, so_c fun _ _ => .ty n⟩
end

/-! ### the built-ins -/
section
variable {C : Cc} {W : WX}
theorem one_arg {ρ : List Addr} {H : Hp} {d : D} {xs : List V} (h : Embs C ρ H [d] xs) : ∃ v, xs = [v] ∧ Emb C ρ H d v := by
  cases h with
  | cons a r =>
    cases r
    exact ⟨_, rfl, a⟩
theorem two_args {ρ : List Addr} {H : Hp} {d e : D} {xs : List V} (h : Embs C ρ H [d, e] xs) : ∃ v u, xs = [v, u] ∧ Emb C ρ H d v ∧ Emb C ρ H e u := by
  cases h with
  | cons a r =>
    cases r with
    | cons b r =>
      cases r
      exact ⟨_, _, rfl, a, b⟩
/-- len -/
def gLen : List D → Hs → Res D := fun args h => match args with
  | [.str cs] => if cs.length ≤ 100000 then .ok (.int cs.length) h else .stuck
  | [d] => match d.seq h with
    | some ds => .ok (.int ds.length) h
    | none => .stuck
  | _ => .stuck
def rLenA (K : PySem.W.Frag) : List V → Hp → VK → Prop := fun xs H Q => (∃ p ys, xs = [.ref p] ∧ (SqL K H p ys ∨ SqT K H p ys) ∧ Q (.int ys.length) H) ∨ (∃ z, xs = [.str z] ∧ z.length ≤ sizeLine ∧ Q (.int z.length) H)
theorem cr_len {X : Cx} : CallR X (.builtin "len") (rLenA X.K) := CallR.or call_len_seq call_len_str
theorem so_len : SoC C W (rLenA C.K) gLen := ⟨fun {h ρ σ H Q ds xs} ok hd hp => by
  unfold gLen at hp
  split at hp
  · split at hp
    · rename_i cs hl
      obtain ⟨v, rfl, hv⟩ := one_arg hd
      cases hv
      exact .inr ⟨_, rfl, by show cs.toArray.size ≤ _; simpa using sz_ok hl, hp ρ H Ext.refl ok _ (by show Emb C ρ H _ (V.int (((⟨cs.toArray⟩ : Str).cps.size : Nat) : Int)); rw [show (⟨cs.toArray⟩ : Str).cps.size = cs.length by simp]; exact .int _)⟩
    · exact hp.elim
  · split at hp
    · rename_i d _ es e
      obtain ⟨v, rfl, hv⟩ := one_arg hd
      obtain ⟨a, vs, rfl, q1, q2⟩ := seq_of ok hv e
      exact .inl ⟨a, vs, rfl, q2, hp ρ H Ext.refl ok _ (by rw [q1.length]; exact .int _)⟩
    · exact hp.elim
  · exact hp.elim⟩
theorem so_lenF : SoF C W (rLenA C.K) (fun ds h => .ok (.int ds.length) h) := ⟨fun {h ρ σ H Q ds p vs} ok hl hd hp => .inl ⟨p, vs, rfl, .inl hl, hp ρ H Ext.refl ok _ (by rw [hd.length]; exact .int _)⟩⟩
/-- int, abs -/
def gInt : List D → Hs → Res D := fun args h => match args with
  | [.int i] => .ok (.int i) h
  | [.bl b] => .ok (.int (if b then 1 else 0)) h
  | _ => .stuck
theorem so_int : SoC C W (fun xs H Q => (∃ i, xs = [.int i] ∧ Q (.int i) H) ∨ ∃ k, xs = [.bl k] ∧ Q (.int (if k then 1 else 0)) H) gInt := ⟨fun {h ρ σ H Q ds xs} ok hd hp => by
  unfold gInt at hp
  split at hp
  · obtain ⟨v, rfl, hv⟩ := one_arg hd
    cases hv
    exact .inl ⟨_, rfl, hp ρ H Ext.refl ok _ (.int _)⟩
  · obtain ⟨v, rfl, hv⟩ := one_arg hd
    cases hv
    exact .inr ⟨_, rfl, hp ρ H Ext.refl ok _ (.int _)⟩
  · exact hp.elim⟩
def gAbs : List D → Hs → Res D := fun args h => match args with
  | [.int i] => .ok (.int (if i < 0 then -i else i)) h
  | _ => .stuck
theorem so_abs : SoC C W (fun xs H Q => ∃ i, xs = [.int i] ∧ Q (.int (if i < 0 then -i else i)) H) gAbs := ⟨fun {h ρ σ H Q ds xs} ok hd hp => by
  unfold gAbs at hp
  split at hp
  · obtain ⟨v, rfl, hv⟩ := one_arg hd
    cases hv
    exact ⟨_, rfl, hp ρ H Ext.refl ok _ (.int _)⟩
  · exact hp.elim⟩
/-- all ints, all bools -/
def D.ints : List D → Option (List Int)
  | [] => some []
  | .int i :: r => (D.ints r).map (i :: ·)
  | _ => none
def D.bls : List D → Option (List Bool)
  | [] => some []
  | .bl i :: r => (D.bls r).map (i :: ·)
  | _ => none
theorem ints_of {ρ : List Addr} {H : Hp} : ∀ {ds : List D} {ns : List Int} {vs : List V}, D.ints ds = some ns → Embs C ρ H ds vs → vs = ns.map V.int ∧ ds = ns.map .int
  | [], ns, vs, e, h => by
    cases e
    cases h
    exact ⟨rfl, rfl⟩
  | .int i :: r, ns, vs, e, h => by
    unfold D.ints at e
    cases q : D.ints r with
    | none => rw [q] at e; cases e
    | some ms =>
      rw [q] at e
      cases e
      cases h with
      | cons a b =>
        cases a
        obtain ⟨h1, h2⟩ := ints_of q b
        exact ⟨by rw [h1]; rfl, by rw [h2]; rfl⟩
  | .non :: _, _, _, e, _ => by cases e
  | .bl _ :: _, _, _, e, _ => by cases e
  | .str _ :: _, _, _, e, _ => by cases e
  | .ty _ :: _, _, _, e, _ => by cases e
  | .gl _ :: _, _, _, e, _ => by cases e
  | .tup _ :: _, _, _, e, _ => by cases e
  | .rol _ :: _, _, _, e, _ => by cases e
  | .ref _ :: _, _, _, e, _ => by cases e
theorem bls_of {ρ : List Addr} {H : Hp} : ∀ {ds : List D} {ns : List Bool} {vs : List V}, D.bls ds = some ns → Embs C ρ H ds vs → vs = ns.map V.bl
  | [], ns, vs, e, h => by
    cases e
    cases h
    rfl
  | .bl i :: r, ns, vs, e, h => by
    unfold D.bls at e
    cases q : D.bls r with
    | none => rw [q] at e; cases e
    | some ms =>
      rw [q] at e
      cases e
      cases h with
      | cons a b =>
        cases a
        rw [bls_of q b]
        rfl
  | .non :: _, _, _, e, _ => by cases e
  | .int _ :: _, _, _, e, _ => by cases e
  | .str _ :: _, _, _, e, _ => by cases e
  | .ty _ :: _, _, _, e, _ => by cases e
  | .gl _ :: _, _, _, e, _ => by cases e
  | .tup _ :: _, _, _, e, _ => by cases e
  | .rol _ :: _, _, _, e, _ => by cases e
  | .ref _ :: _, _, _, e, _ => by cases e
def gSum : List D → Hs → Res D := fun ds h => match D.ints ds with
  | some ns => .ok (.int ns.sum) h
  | none => .stuck
theorem so_sum : SoF C W (rSum C.K) gSum := ⟨fun {h ρ σ H Q ds p vs} ok hl hd hp => by
  unfold gSum at hp
  split at hp
  · rename_i ns e
    obtain ⟨rfl, _⟩ := ints_of e hd
    exact ⟨p, ns, rfl, hl, hp ρ H Ext.refl ok _ (.int _)⟩
  · exact hp.elim⟩
def gAll : List D → Hs → Res D := fun ds h => match D.bls ds with
  | some ns => .ok (.bl (ns.all id)) h
  | none => .stuck
theorem so_all : SoF C W (rAll C.K) gAll := ⟨fun {h ρ σ H Q ds p vs} ok hl hd hp => by
  unfold gAll at hp
  split at hp
  · rename_i ns e
    have e2 := bls_of e hd
    subst e2
    exact ⟨p, ns, rfl, hl, hp ρ H Ext.refl ok _ (.bl _)⟩
  · exact hp.elim⟩
def gAny : List D → Hs → Res D := fun ds h => match D.bls ds with
  | some ns => .ok (.bl (ns.any id)) h
  | none => .stuck
theorem so_any : SoF C W (rAny C.K) gAny := ⟨fun {h ρ σ H Q ds p vs} ok hl hd hp => by
  unfold gAny at hp
  split at hp
  · rename_i ns e
    have e2 := bls_of e hd
    subst e2
    exact ⟨p, ns, rfl, hl, hp ρ H Ext.refl ok _ (.bl _)⟩
  · exact hp.elim⟩
/-- tuple(xs) -/
def rTupO (K : PySem.W.Frag) : List V → Hp → VK → Prop := fun xs H Q => ∃ p ys, xs = [.ref p] ∧ ((SqL K H p ys ∧ ∀ l, H l = none → Q (.ref l) (upd H l (.tup ys))) ∨ (SqT K H p ys ∧ Q (.ref p) H))
theorem so_tupF : SoF C W (rTupO C.K) (fun ds h => .ok (.tup ds) h) := ⟨fun {h ρ σ H Q ds p vs} ok hl hd hp =>
  ⟨p, vs, rfl, .inl ⟨hl, fun l n => hp ρ _ (Ext.fresh n) (ok.fresh n) _ (.tup (SqT.of upd_same) (hd.mono (Ext.fresh n)))⟩⟩⟩
def gTup : List D → Hs → Res D := fun args h => match args with
  | [.tup ds] => .ok (.tup ds) h
  | [d] => match d.lstI h with
    | some ds => .ok (.tup ds) h
    | none => .stuck
  | _ => .stuck
theorem so_tupC : SoC C W (rTupO C.K) gTup := ⟨fun {h ρ σ H Q ds xs} ok hd hp => by
  unfold gTup at hp
  split at hp
  · obtain ⟨v, rfl, hv⟩ := one_arg hd
    cases hv with
    | tup hs hx => exact ⟨_, _, rfl, .inr ⟨hs, hp ρ H Ext.refl ok _ (.tup hs hx)⟩⟩
  · split at hp
    · rename_i d _ es e
      obtain ⟨v, rfl, hv⟩ := one_arg hd
      obtain ⟨a, vs, rfl, q1, q2⟩ := lst_of ok hv e
      exact so_tupF.go ok q2 q1 hp
    · exact hp.elim
  · exact hp.elim⟩
/-- list(xs) -/
def rLstO (K : PySem.W.Frag) : List V → Hp → VK → Prop := fun xs H Q => ∃ p ys, xs = [.ref p] ∧ (SqL K H p ys ∨ SqT K H p ys) ∧ ∀ l, H l = none → Q (.ref l) (upd H l (.lst ys))
def xLstOf (f : XE) : XA := fun env h => (f env h).bind fun d h1 => match d.seq h1 with
  | some ds => .ok ds h1
  | none => .stuck
theorem so_lstOf {te : TE} {f : XE} (hf : SoE C W te f) : SoL C W (tCB (rLstO C.K) (tCons te tNil)) (xLstOf f) := ⟨fun {env h ρ σ H Q} he hh hp =>
  hf.go he hh ((Pst.bind hp).imp fun d h1 ρ1 H1 e1 ok1 p1 v hv => by
    split at p1
    · rename_i ds e
      obtain ⟨a, vs, rfl, q1, q2⟩ := seq_of ok1 hv e
      exact ⟨a, vs, rfl, q2, fun l n => p1 ρ1 H1 Ext.refl ok1 l vs n q1⟩
    · exact p1.elim)⟩
theorem flist {X : Cx} {e : Expr} {te : TE} {f : XE} {p pos : Pos} (hm : X.mg "list" = none) (ha : FE X W e te f) (hg : Gl X "list" := by rfl)
    (hs : starEach [e] X.env = (false, eval e X.env) :: starEach [] X.env := by rfl) (he : starEach [e] X.env = (false, eval e X.env) :: starEach [] X.env := by rfl) (hpl : (backTo pos (starEach [] X.env)).any (·.1) = false := by rfl) :
    FLs X W (.Call (.Name "list" p) [e] [] pos) (tCB (rLstO X.K) (tCons te tNil)) (xLstOf f) := ⟨pe_callTy call_list_of hg hm (by decide +kernel) (pa_cons ha.pe pa_nil hs) (by decide +kernel) (by decide +kernel) he hpl, so_lstOf ha.so⟩
/-- isinstance(x, a built-in class) -/
def D.ty? (h : Hs) : D → Option String
  | .non => some "NoneType"
  | .bl _ => some "bool"
  | .int _ => some "int"
  | .str _ => some "str"
  | .tup _ => some "tuple"
  | .rol _ => some "list"
  | .ref i => match h[i]? with
    | some (.lst _) => some "list"
    | some (.dk _) => some "dict"
    | some (.dt _) => some "dict"
    | none => none
  | _ => none
def isT (a b : String) : Option Bool :=
  if a == b then some true else if a == "bool" && b == "int" then some true
  else if ["NoneType", "bool", "int", "str", "tuple", "list", "dict"].contains a && ["bool", "int", "str", "tuple", "list", "dict"].contains b then some false else none
theorem isT_ok : ∀ a ∈ ["NoneType", "bool", "int", "str", "tuple", "list", "dict"], ∀ b ∈ ["bool", "int", "str", "tuple", "list", "dict"], L2.kitB a b = isT a b := by decide +kernel
def gIsi : List D → Hs → Res D := fun args h => match args with
  | [d, .ty b] => match d.ty? h with
    | some a => if ["bool", "int", "str", "tuple", "list", "dict"].contains b then (match isT a b with
      | some r => .ok (.bl r) h
      | none => .stuck) else .stuck
    | none => .stuck
  | _ => .stuck
theorem ty_of {ρ : List Addr} {H : Hp} {h : Hs} {d : D} {v : V} {a : String} (ok : HeapOk C ρ h H) (hv : Emb C ρ H d v) (e : d.ty? h = some a) : TyX C.K H v (.type a) ∧ a ∈ ["NoneType", "bool", "int", "str", "tuple", "list", "dict"] := by
  unfold D.ty? at e
  split at e
  · cases e; cases hv; exact ⟨.base .non, by decide +kernel⟩
  · cases e; cases hv; exact ⟨.base (.bl _), by decide +kernel⟩
  · cases e; cases hv; exact ⟨.base (.int _), by decide +kernel⟩
  · cases e; cases hv; exact ⟨.base (.str _), by decide +kernel⟩
  · cases e
    cases hv with
    | tup hs hx =>
      refine ⟨?_, by decide +kernel⟩
      rcases hs with (q | ⟨o, q⟩) | ⟨o, its, n, q1, q2, _⟩
      · exact .base (.tup q)
      · exact .fTuple q
      · exact .kTuple q1 q2
  · cases e
    cases hv with
    | rol hs hx =>
      refine ⟨?_, by decide +kernel⟩
      rcases hs with ⟨o, q⟩ | ⟨o, its, n, q1, q2, _⟩
      · exact .base (.frz q)
      · exact .kList q1 q2
  · split at e
    · rename_i i ds q
      cases e
      cases hv with
      | ref ha =>
        obtain ⟨vs, q1, q2⟩ := ok.ob _ _ _ ha q
        exact ⟨.base (.lst q1), by decide +kernel⟩
    · rename_i i ds q
      cases e
      cases hv with
      | ref ha =>
        obtain ⟨vs, q1, q2⟩ := ok.ob _ _ _ ha q
        exact ⟨.base (.dK q1), by decide +kernel⟩
    · rename_i i ds q
      cases e
      cases hv with
      | ref ha =>
        obtain ⟨vs, q1, q2⟩ := ok.ob _ _ _ ha q
        exact ⟨.base (.dT q1), by decide +kernel⟩
    · cases e
  · cases e
theorem so_isi : SoC C W (rIsi C.K) gIsi := ⟨fun {h ρ σ H Q ds xs} ok hd hp => by
  unfold gIsi at hp
  split at hp
  · rename_i d b
    split at hp
    · rename_i a ea
      split at hp
      · rename_i hb
        split at hp
        · rename_i r er
          obtain ⟨v, u, rfl, hv, hu⟩ := two_args hd
          cases hu
          obtain ⟨t1, t2⟩ := ty_of ok hv ea
          have hb' : b ∈ ["bool", "int", "str", "tuple", "list", "dict"] := List.contains_iff_mem.mp hb
          exact ⟨v, _, _, _, r, rfl, .ty b, t1, kit_ty ((isT_ok a t2 b hb').trans er), hp ρ H Ext.refl ok _ (.bl r)⟩
        · exact hp.elim
      · exact hp.elim
    · exact hp.elim
  · exact hp.elim⟩
end

/-! ### subscripts -/
def gIx : D → D → Hs → Res D := fun a b h => match a, b with
  | .str cs, .int i => if cs.length ≤ 100000 then (match atI cs i with
    | some c => .ok (.str [c]) h
    | none => .stuck) else .stuck
  | d, .int i => match d.seq h with
    | some ds => (match atI ds i with
      | some x => .ok x h
      | none => .stuck)
    | none => .stuck
  | _, _ => .stuck
theorem so_ix {C : Cc} {W : WX} : SoO C W (rIx C.K) gIx := ⟨fun {h ρ σ H Q d1 d2 x y} ok hx hy hp => by
  unfold gIx at hp
  split at hp
  · rename_i cs i
    split at hp
    · rename_i hl
      split at hp
      · rename_i c e
        cases hx
        cases hy
        exact .inr (.inr ⟨_, i, c, rfl, rfl, by show cs.toArray.size ≤ _; simpa using sz_ok hl, e, hp ρ H Ext.refl ok _ (.str [c])⟩)
      · exact hp.elim
    · exact hp.elim
  · rename_i i _
    split at hp
    · rename_i ds e
      split at hp
      · rename_i z e2
        cases hy
        obtain ⟨a, vs, rfl, q1, q2⟩ := seq_of ok hx e
        obtain ⟨v, e3, hv⟩ := q1.atI e2
        rcases q2 with q2 | q2
        · exact .inl ⟨a, vs, i, v, rfl, rfl, q2, e3, hp ρ H Ext.refl ok v hv⟩
        · exact .inr (.inl ⟨a, vs, i, v, rfl, rfl, q2, e3, hp ρ H Ext.refl ok v hv⟩)
      · exact hp.elim
    · exact hp.elim
  · exact hp.elim⟩
theorem fix {X : Cx} {W : WX} {a b : Expr} {ta tb : TE} {fa fb : XE} {pos : Pos} (ha : FE X W a ta fa) (hb : FE X W b tb fb) (hs : PlainIx b := by exact fun _ _ => rfl) : FE X W (.Subscript a b pos) (tOp (rIx X.K) ta tb) (xOp gIx fa fb) :=
  ⟨pe_ix ix_seq ha.pe hb.pe hs, so_op so_ix ha.so hb.so⟩
/-- an item of a list that was just made -/
def xIxN (f : XA) (fb : XE) : XE := fun env h => (f env h).bind fun ds h1 => (fb env h1).bind fun i h2 => match i with
  | .int i => (match atI ds i with
    | some x => .ok x h2
    | none => .stuck)
  | _ => .stuck
theorem fresh_kept {ρ1 ρ2 : List Addr} {H1 H2 : Hp} {C : Cc} {h1 : Hs} {p : Addr} {vs : List V} (ok1 : HeapOk C ρ1 h1 H1) (n : H1 p = none) (e2 : Ext ρ1 ρ2 (upd H1 p (.lst vs)) H2) : H2 p = some (.lst vs) := e2.keep p _ upd_same (ok1.notin n)
theorem so_ixN {C : Cc} {W : WX} {ta tb : TE} {f : XA} {fb : XE} (ha : SoL C W ta f) (hb : SoE C W tb fb) : SoE C W (tOp (rIx C.K) ta tb) (xIxN f fb) := ⟨fun {env h ρ σ H Q} he hh hp =>
  ha.go he hh ((Pst.bind hp).imp fun ds h1 ρ1 H1 e1 ok1 p1 p vs n hs =>
    hb.go ((he.mono e1).mono (Ext.fresh n)) (ok1.fresh n) ((Pst.bind (Pst.mono p1 (Ext.fresh n))).imp fun d2 h2 ρ2 H2 e2 ok2 p2 y hy => by
      split at p2
      · rename_i i
        split at p2
        · rename_i z e3
          cases hy
          obtain ⟨v, e4, hv⟩ := (hs.mono ((Ext.fresh (o := .lst vs) n).trans e2)).atI e3
          exact .inl ⟨p, vs, i, v, rfl, rfl, SqL.of (fresh_kept ok1 n e2), e4, p2 ρ2 H2 Ext.refl ok2 v hv⟩
        · exact p2.elim
      · exact p2.elim))⟩
theorem fixN {X : Cx} {W : WX} {a b : Expr} {ta tb : TE} {fa : XA} {fb : XE} {pos : Pos} (ha : FLs X W a ta fa) (hb : FE X W b tb fb) (hs : PlainIx b := by exact fun _ _ => rfl) : FE X W (.Subscript a b pos) (tOp (rIx X.K) ta tb) (xIxN fa fb) :=
  ⟨pe_ix ix_seq ha.pe hb.pe hs, so_ixN ha.so hb.so⟩

/-! ### slices -/
abbrev XO := Sl → Hs → Res (Option Int)
structure SoOp (C : Cc) (W : WX) (t : TO) (f : XO) : Prop where
  go : ∀ {env h ρ σ H Q}, EnvOk C ρ H env σ → HeapOk C ρ h H → Pst C W ρ σ H (f env h) (fun o _ _ H' => Q o H') → t σ H Q
structure FO (X : Cx) (W : WX) (e : Option Expr) (t : TO) (f : XO) : Prop where
  po : PO X e t
  so : SoOp (cc X) W t f
def xNoPart : XO := fun _ h => .ok none h
def xPart (f : XE) : XO := fun env h => (f env h).bind fun d h1 => match d with
  | .int i => .ok (some i) h1
  | _ => .stuck
theorem fo_none {X : Cx} {W : WX} : FO X W none tNoPart xNoPart := ⟨po_none, ⟨fun {env h ρ σ H Q} he hh hp => hp ρ H Ext.refl hh⟩⟩
theorem fo_some {X : Cx} {W : WX} {e : Expr} {te : TE} {f : XE} (hf : FE X W e te f) : FO X W (some e) (tPart te) (xPart f) := ⟨po_some hf.pe, ⟨fun {env h ρ σ H Q} he hh hp =>
  hf.so.go he hh ((Pst.bind hp).imp fun d h1 ρ1 H1 e1 ok1 p1 v hv => by
    split at p1
    · cases hv
      exact ⟨_, rfl, p1 ρ1 H1 Ext.refl ok1⟩
    · exact p1.elim)⟩⟩
def cutD {α : Type} (xs : List α) (lo hi : Option Int) : List α := (xs.drop (HT.sIx xs.length 0 lo)).take (HT.sIx xs.length xs.length hi - HT.sIx xs.length 0 lo)
theorem Embs.cut {C : Cc} {ρ : List Addr} {H : Hp} {ds : List D} {vs : List V} (h : Embs C ρ H ds vs) (lo hi : Option Int) : Embs C ρ H (cutD ds lo hi) (cutV vs lo hi) := by
  unfold cutD cutV
  rw [h.length]
  exact (h.drop _).take _
/-- a slice of a list (a new list) -/
def xSlL (f : XE) (lo hi : XO) : XA := fun env h => (f env h).bind fun d h1 => (lo env h1).bind fun l h2 => (hi env h2).bind fun u h3 => match d.lstI h3 with
  | some ds => .ok (cutD ds l u) h3
  | none => .stuck
theorem fslL {X : Cx} {W : WX} {e : Expr} {lo hi : Option Expr} {te : TE} {tl th : TO} {f : XE} {fl fh : XO} {p2 pos : Pos} (he : FE X W e te f) (hl : FO X W lo tl fl) (hh : FO X W hi th fh) : FLs X W (.Subscript e (.Slice lo hi none p2) pos) (tSl (rSlL X.K) te tl th) (xSlL f fl fh) :=
  ⟨pe_slice sl_list he.pe hl.po hh.po, ⟨fun {env h ρ σ H Q} en ok hp =>
    he.so.go en ok ((Pst.bind hp).imp fun d h1 ρ1 H1 e1 ok1 p1 v hv =>
      hl.so.go (en.mono e1) ok1 ((Pst.bind p1).imp fun l h2 ρ2 H2 e2 ok2 p2 =>
        hh.so.go ((en.mono e1).mono e2) ok2 ((Pst.bind p2).imp fun u h3 ρ3 H3 e3 ok3 p3 => by
          split at p3
          · rename_i ds e
            obtain ⟨a, vs, rfl, q1, q2⟩ := lst_of ok3 ((hv.mono e2).mono e3) e
            exact ⟨a, vs, rfl, q2, fun p n => p3 ρ3 H3 Ext.refl ok3 p _ n (q1.cut l u)⟩
          · exact p3.elim)))⟩⟩
/-- of a list that was just made -/
def xSlN (f : XA) (lo hi : XO) : XA := fun env h => (f env h).bind fun ds h1 => (lo env h1).bind fun l h2 => (hi env h2).bind fun u h3 => .ok (cutD ds l u) h3
theorem fslN {X : Cx} {W : WX} {e : Expr} {lo hi : Option Expr} {te : TE} {tl th : TO} {f : XA} {fl fh : XO} {p2 pos : Pos} (he : FLs X W e te f) (hl : FO X W lo tl fl) (hh : FO X W hi th fh) : FLs X W (.Subscript e (.Slice lo hi none p2) pos) (tSl (rSlL X.K) te tl th) (xSlN f fl fh) :=
  ⟨pe_slice sl_list he.pe hl.po hh.po, ⟨fun {env h ρ σ H Q} en ok hp =>
    he.so.go en ok ((Pst.bind hp).imp fun ds h1 ρ1 H1 e1 ok1 p1 p vs n hs =>
      hl.so.go ((en.mono e1).mono (Ext.fresh n)) (ok1.fresh n) ((Pst.bind (Pst.mono p1 (Ext.fresh n))).imp fun l h2 ρ2 H2 e2 ok2 p2 =>
        hh.so.go (((en.mono e1).mono (Ext.fresh n)).mono e2) ok2 ((Pst.bind p2).imp fun u h3 ρ3 H3 e3 ok3 p3 =>
          ⟨p, vs, rfl, SqL.of (fresh_kept ok1 n (e2.trans e3)), fun q m => p3 ρ3 H3 Ext.refl ok3 q _ m ((hs.mono ((Ext.fresh (o := .lst vs) n).trans (e2.trans e3))).cut l u)⟩)))⟩⟩
/-- xs[::-1] of a list -/
def xRevL (f : XE) : XA := fun env h => (f env h).bind fun d h1 => match d.lstI h1 with
  | some ds => .ok ds.reverse h1
  | none => .stuck
theorem frevL {X : Cx} {W : WX} {e : Expr} {te : TE} {f : XE} {k : Nat} {p1 p2 p3 pos : Pos} (he : FE X W e te f) : FLs X W (.Subscript e (.Slice none none (some (.UnaryOp .USub (.Constant (.int 1) k p1) p2)) p3) pos) (tRevL X.K te) (xRevL f) :=
  ⟨pe_revL he.pe, ⟨fun {env h ρ σ H Q} en ok hp => he.so.go en ok ((Pst.bind hp).imp fun d h1 ρ1 H1 e1 ok1 p1 v hv => by
    split at p1
    · rename_i ds e
      obtain ⟨a, vs, rfl, q1, q2⟩ := lst_of ok1 hv e
      exact ⟨a, vs, rfl, q2, fun p n => p1 ρ1 H1 Ext.refl ok1 p _ n q1.reverse⟩
    · exact p1.elim)⟩⟩
def xRevN (f : XA) : XA := fun env h => (f env h).bind fun ds h1 => .ok ds.reverse h1
theorem frevN {X : Cx} {W : WX} {e : Expr} {te : TE} {f : XA} {k : Nat} {p1 p2 p3 pos : Pos} (he : FLs X W e te f) : FLs X W (.Subscript e (.Slice none none (some (.UnaryOp .USub (.Constant (.int 1) k p1) p2)) p3) pos) (tRevL X.K te) (xRevN f) :=
  ⟨pe_revL he.pe, ⟨fun {env h ρ σ H Q} en ok hp => he.so.go en ok ((Pst.bind hp).imp fun ds h1 ρ1 H1 e1 ok1 p1 p vs n hs =>
    ⟨p, vs, rfl, SqL.of upd_same, fun q m => p1 ρ1 _ (Ext.fresh n) (ok1.fresh n) q _ m (hs.mono (Ext.fresh n)).reverse⟩)⟩⟩
end FL

/-! FH: operators, comparisons, methods, sources, dicts. -/
namespace FL
open PySem PySem.Spec PyProof.Rows L2

/-! ### operators -/
/-- ints whose product is of a size that is told -/
def mulFits (i j : Int) : Bool := (decide (i.natAbs < 18446744073709551616) && decide (j.natAbs < 18446744073709551616)) || decide (i.natAbs.log2 + j.natAbs.log2 < 100000000)
def CMulX (i j : Int) : Prop := i.natAbs.log2 + j.natAbs.log2 < 100000000
theorem CMulX.ok {i j : Int} (h : CMulX i j) : IntMulOk i j := by
  have b : ∀ x : Int, Builtin.Int.intBits x ≤ x.natAbs.log2 + 1 := fun x => by
    unfold Builtin.Int.intBits
    split <;> omega
  have h1 := b i
  have h2 := b j
  have h3 : i.natAbs.log2 + j.natAbs.log2 < 100000000 := h
  have e : bitsLine = 134217728 := by decide
  unfold IntMulOk
  intro z
  rw [Bool.and_eq_true] at z
  have z2 := z.2
  unfold Builtin.Int.intTooBig at z2
  have z3 := of_decide_eq_true z2
  rw [e] at z3
  omega
theorem mulFits_ok {i j : Int} (h : mulFits i j = true) : CMulX i j := by
  unfold mulFits at h
  rw [Bool.or_eq_true, Bool.and_eq_true] at h
  rcases h with ⟨h1, h2⟩ | h
  · have a := of_decide_eq_true h1
    have b := of_decide_eq_true h2
    have q : ∀ n : Nat, n < 18446744073709551616 → n.log2 < 64 := fun n hn => by
      by_cases z : n = 0
      · subst z; decide
      · exact (Nat.log2_lt z).mpr hn
    have := q _ a
    have := q _ b
    unfold CMulX
    omega
  · unfold CMulX
    exact of_decide_eq_true h
theorem op_mulX {X : Cx} : OpR X (binaryOp .Mult) (rI CMulX fun i j => .int (i * j)) := opI fun _ _ _ _ _ _ _ hc q => mul_int q hc.ok
theorem iop_mulX {X : Cx} : OpR X (inplaceOp .Mult) (rI CMulX fun i j => .int (i * j)) := opI fun _ _ _ _ _ _ _ hc q => imul_int q hc.ok
section
variable {C : Cc} {W : WX}
theorem SoO.or_l {r r' : R2} {op : D → D → Hs → Res D} (h : SoO C W r op) : SoO C W (fun x y H Q => r x y H Q ∨ r' x y H Q) op := ⟨fun a b c d => .inl (h.go a b c d)⟩
def dSub : D → D → Hs → Res D := dI0 fun i j => .int (i - j)
def dMulI : D → D → Hs → Res D := dI mulFits fun i j => .int (i * j)
def dMod : D → D → Hs → Res D := dI (fun _ j => decide (0 < j)) fun i j => .int (i % j)
def divFits (j : Int) : Bool := decide (0 < j) && (decide (j.natAbs < 18446744073709551616) || decide (j.natAbs.log2 < 9000))
def dDiv : D → D → Hs → Res D := dI (fun _ j => divFits j) fun i j => .int (i / j)
def powFits (i j : Int) : Bool := decide (0 ≤ j) && decide (j ≤ 1000) && decide (i.natAbs < 18446744073709551616)
def dPow : D → D → Hs → Res D := dI powFits fun i j => .int (i ^ j.toNat)
theorem divFits_ok {i j : Int} (h : divFits j = true) : CDivW i j := by
  unfold divFits at h
  rw [Bool.and_eq_true, Bool.or_eq_true] at h
  refine ⟨of_decide_eq_true h.1, ?_⟩
  rcases h.2 with h | h
  · have a := of_decide_eq_true h
    by_cases z : j.natAbs = 0
    · rw [z]; decide
    · exact Nat.lt_of_lt_of_le ((Nat.log2_lt z).mpr (show j.natAbs < 2 ^ 64 from a)) (by decide)
  · exact of_decide_eq_true h
theorem powFits_ok {i j : Int} (h : powFits i j = true) : CPow i j := by
  unfold powFits at h
  rw [Bool.and_eq_true, Bool.and_eq_true] at h
  have h1 := of_decide_eq_true h.1.1
  have h2 := of_decide_eq_true h.1.2
  have h3 := of_decide_eq_true h.2
  exact ⟨h1, by omega, h3⟩
theorem so_sub : SoO C W (rI0 fun i j => .int (i - j)) dSub := so_I0 fun _ _ _ _ => .int _
theorem so_mulI : SoO C W (rI CMulX fun i j => .int (i * j)) dMulI := so_I (fun _ _ _ _ => .int _) fun _ _ h => mulFits_ok h
theorem so_mod : SoO C W (rI (fun _ j => 0 < j) fun i j => .int (i % j)) dMod := so_I (fun _ _ _ _ => .int _) fun _ _ h => of_decide_eq_true h
theorem so_div : SoO C W (rI CDivW fun i j => .int (i / j)) dDiv := so_I (fun _ _ _ _ => .int _) fun _ _ h => divFits_ok h
theorem so_pow : SoO C W (rI CPow fun i j => .int (i ^ j.toNat)) dPow := so_I (fun _ _ _ _ => .int _) fun _ _ h => powFits_ok h
/-- +: ints, texts, tuples -/
def dAdd : D → D → Hs → Res D := fun a b h => match a, b with
  | .int i, .int j => .ok (.int (i + j)) h
  | .str x, .str y => if x.length + y.length ≤ 100000 then .ok (.str (x ++ y)) h else .stuck
  | .tup x, .tup y => if x.length + y.length ≤ 100000 then .ok (.tup (x ++ y)) h else .stuck
  | _, _ => .stuck
def rAddS : R2 := fun x y H Q => ∃ i j, x = .str i ∧ y = .str j ∧ i.length + j.length ≤ sizeLine ∧ Q (.str (i ++ j)) H
def rAddA (K : PySem.W.Frag) : R2 := fun x y H Q => rI0 (fun i j => .int (i + j)) x y H Q ∨ (rAddS x y H Q ∨ rCatA K x y H Q)
theorem op_addA {X : Cx} : OpR X (binaryOp .Add) (rAddA X.K) := op_add.or (op_add_str.or op_catA)
theorem strLen (cs : List Nat) : (⟨cs.toArray⟩ : Str).length = cs.length := by
  show cs.toArray.size = _
  simp
theorem strApp (a b : List Nat) : (⟨a.toArray⟩ : Str) ++ (⟨b.toArray⟩ : Str) = ⟨(a ++ b).toArray⟩ := by
  show (⟨a.toArray ++ b.toArray⟩ : Str) = _
  rw [List.append_toArray]
theorem so_add : SoO C W (rAddA C.K) dAdd := ⟨fun {h ρ σ H Q d1 d2 x y} ok hx hy hp => by
  unfold dAdd at hp
  split at hp
  · cases hx
    cases hy
    exact .inl ⟨_, _, rfl, rfl, hp ρ H Ext.refl ok _ (.int _)⟩
  · rename_i a b
    split at hp
    · rename_i hl
      cases hx
      cases hy
      refine .inr (.inl ⟨_, _, rfl, rfl, by rw [strLen, strLen]; exact sz_ok hl, ?_⟩)
      rw [strApp]
      exact hp ρ H Ext.refl ok _ (.str _)
    · exact hp.elim
  · rename_i a b
    split at hp
    · rename_i hl
      cases hx with
      | @tup _ vs p s1 h1 =>
        cases hy with
        | @tup _ ws q s2 h2 =>
          refine .inr (.inr ⟨_, _, vs, ws, rfl, rfl, s1, s2, by rw [← h1.length, ← h2.length]; exact sz_ok hl, fun z => ?_, fun _ z => ?_, fun _ _ r n => ?_⟩)
          · subst z
            cases h1
            exact hp ρ H Ext.refl ok _ (.tup s2 h2)
          · subst z
            cases h2
            exact hp ρ H Ext.refl ok _ (by rw [List.append_nil]; exact .tup s1 h1)
          · exact hp ρ _ (Ext.fresh n) (ok.fresh n) _ (.tup (SqT.of upd_same) ((h1.append h2).mono (Ext.fresh n)))
    · exact hp.elim
  · exact hp.elim⟩
/-- - before an int -/
def dNeg : D → Hs → Res D := fun a h => match a with
  | .int i => .ok (.int (-i)) h
  | _ => .stuck
theorem so_neg : SoU C W (rU fun i => .int (-i)) dNeg := ⟨fun {h ρ σ H Q d1 x} ok hx hp => by
  unfold dNeg at hp
  split at hp
  · cases hx
    exact ⟨_, rfl, hp ρ H Ext.refl ok _ (.int _)⟩
  · exact hp.elim⟩
/-- two lists -/
def xCatVN (fa : XE) (fb : XA) : XA := fun env h => (fa env h).bind fun d h1 => (fb env h1).bind fun es h2 => match d with
  | .ref i => (match h2[i]? with
    | some (.lst ds) => if ds.length + es.length ≤ 100000 then .ok (ds ++ es) h2 else .stuck
    | _ => .stuck)
  | _ => .stuck
theorem so_catVN {ta tb : TE} {fa : XE} {fb : XA} (ha : SoE C W ta fa) (hb : SoL C W tb fb) : SoL C W (tOp rCat ta tb) (xCatVN fa fb) := ⟨fun {env h ρ σ H Q} he hh hp =>
  ha.go he hh ((Pst.bind hp).imp fun d h1 ρ1 H1 e1 ok1 p1 v hv =>
    hb.go (he.mono e1) ok1 ((Pst.bind p1).imp fun es h2 ρ2 H2 e2 ok2 p2 p vs n hs => by
      split at p2
      · rename_i i
        split at p2
        · rename_i ds e
          split at p2
          · rename_i hl
            cases hv with
            | ref ha =>
              have ha2 := e2.at ha
              obtain ⟨ws, q1, q2⟩ := ok2.ob _ _ _ ha2 e
              have ne := ne_of_none q1 n
              refine ⟨_, p, ws, vs, rfl, rfl, by rw [upd_ne ne]; exact q1, upd_same, by rw [← q2.length, ← hs.length]; exact sz_ok hl, fun q m => ?_⟩
              exact p2 ρ2 _ (Ext.fresh n) (ok2.fresh n) q _ m ((q2.append hs).mono (Ext.fresh n))
          · exact p2.elim
        · exact p2.elim
      · exact p2.elim))⟩
def xCatNN (fa fb : XA) : XA := fun env h => (fa env h).bind fun ds h1 => (fb env h1).bind fun es h2 => if ds.length + es.length ≤ 100000 then .ok (ds ++ es) h2 else .stuck
theorem so_catNN {ta tb : TE} {fa fb : XA} (ha : SoL C W ta fa) (hb : SoL C W tb fb) : SoL C W (tOp rCat ta tb) (xCatNN fa fb) := ⟨fun {env h ρ σ H Q} he hh hp =>
  ha.go he hh ((Pst.bind hp).imp fun ds h1 ρ1 H1 e1 ok1 p1 p vs n hs =>
    hb.go ((he.mono e1).mono (Ext.fresh n)) (ok1.fresh n) ((Pst.bind (Pst.mono p1 (Ext.fresh n))).imp fun es h2 ρ2 H2 e2 ok2 p2 q ws m hs2 => by
      split at p2
      · rename_i hl
        have k := fresh_kept (vs := vs) ok1 n e2
        refine ⟨p, q, vs, ws, rfl, rfl, by rw [upd_ne (ne_of_none k m)]; exact k, upd_same, by rw [← hs.length, ← hs2.length]; exact sz_ok hl, fun r m2 => ?_⟩
        exact p2 ρ2 _ (Ext.fresh m) (ok2.fresh m) r _ m2 (((hs.mono ((Ext.fresh (o := .lst vs) n).trans e2)).append hs2).mono (Ext.fresh m))
      · exact p2.elim))⟩
def xCatVV (fa fb : XE) : XA := fun env h => (fa env h).bind fun d h1 => (fb env h1).bind fun e h2 => match d, e with
  | .ref i, .ref j => (match h2[i]?, h2[j]? with
    | some (.lst ds), some (.lst es) => if ds.length + es.length ≤ 100000 then .ok (ds ++ es) h2 else .stuck
    | _, _ => .stuck)
  | _, _ => .stuck
theorem so_catVV {ta tb : TE} {fa fb : XE} (ha : SoE C W ta fa) (hb : SoE C W tb fb) : SoL C W (tOp rCat ta tb) (xCatVV fa fb) := ⟨fun {env h ρ σ H Q} he hh hp =>
  ha.go he hh ((Pst.bind hp).imp fun d h1 ρ1 H1 e1 ok1 p1 v hv =>
    hb.go (he.mono e1) ok1 ((Pst.bind p1).imp fun e h2 ρ2 H2 e2 ok2 p2 u hu => by
      split at p2
      · rename_i i j
        split at p2
        · rename_i ds es q r
          split at p2
          · rename_i hl
            cases hv with
            | ref ha =>
              cases hu with
              | ref hb =>
                obtain ⟨ws, q1, q2⟩ := ok2.ob _ _ _ (e2.at ha) q
                obtain ⟨zs, r1, r2⟩ := ok2.ob _ _ _ hb r
                exact ⟨_, _, ws, zs, rfl, rfl, q1, r1, by rw [← q2.length, ← r2.length]; exact sz_ok hl, fun p n => p2 ρ2 H2 Ext.refl ok2 p _ n (q2.append r2)⟩
          · exact p2.elim
        · exact p2.elim
      · exact p2.elim))⟩
/-- [..] * n -/
def xRepN (fa : XA) (fb : XE) : XA := fun env h => (fa env h).bind fun ds h1 => (fb env h1).bind fun e h2 => match e with
  | .int k => if k < 100000 ∧ -100000 < k ∧ ds.length * k.toNat ≤ 100000 then .ok (List.replicate k.toNat ds).flatten h2 else .stuck
  | _ => .stuck
end
section
variable {X : Cx} {W : WX} {a b : Expr} {ta tb : TE} {pos : Pos}
theorem fcatVN {fa : XE} {fb : XA} (ha : FE X W a ta fa) (hb : FLs X W b tb fb) : FLs X W (.BinOp a .Add b pos) (tOp rCat ta tb) (xCatVN fa fb) := ⟨pe_op op_cat ha.pe hb.pe, so_catVN ha.so hb.so⟩
theorem fcatNN {fa : XA} {fb : XA} (ha : FLs X W a ta fa) (hb : FLs X W b tb fb) : FLs X W (.BinOp a .Add b pos) (tOp rCat ta tb) (xCatNN fa fb) := ⟨pe_op op_cat ha.pe hb.pe, so_catNN ha.so hb.so⟩
theorem fcatVV {fa : XE} {fb : XE} (ha : FE X W a ta fa) (hb : FE X W b tb fb) : FLs X W (.BinOp a .Add b pos) (tOp rCat ta tb) (xCatVV fa fb) := ⟨pe_op op_cat ha.pe hb.pe, so_catVV ha.so hb.so⟩
theorem fadd {fa : XE} {fb : XE} (ha : FE X W a ta fa) (hb : FE X W b tb fb) : FE X W (.BinOp a .Add b pos) (tOp (rAddA X.K) ta tb) (xOp dAdd fa fb) := fop op_addA so_add ha hb
theorem fsub {fa : XE} {fb : XE} (ha : FE X W a ta fa) (hb : FE X W b tb fb) : FE X W (.BinOp a .Sub b pos) (tOp (rI0 fun i j => .int (i - j)) ta tb) (xOp dSub fa fb) := fop op_sub so_sub ha hb
theorem fmul {fa : XE} {fb : XE} (ha : FE X W a ta fa) (hb : FE X W b tb fb) : FE X W (.BinOp a .Mult b pos) (tOp (rI CMulX fun i j => .int (i * j)) ta tb) (xOp dMulI fa fb) := fop op_mulX so_mulI ha hb
theorem fmod {fa : XE} {fb : XE} (ha : FE X W a ta fa) (hb : FE X W b tb fb) : FE X W (.BinOp a .Mod b pos) (tOp (rI (fun _ j => 0 < j) fun i j => .int (i % j)) ta tb) (xOp dMod fa fb) := fop op_mod so_mod ha hb
theorem fdiv {fa : XE} {fb : XE} (ha : FE X W a ta fa) (hb : FE X W b tb fb) : FE X W (.BinOp a .FloorDiv b pos) (tOp (rI CDivW fun i j => .int (i / j)) ta tb) (xOp dDiv fa fb) := fop op_fdivW so_div ha hb
theorem fpow {fa : XE} {fb : XE} (ha : FE X W a ta fa) (hb : FE X W b tb fb) : FE X W (.BinOp a .Pow b pos) (tOp (rI CPow fun i j => .int (i ^ j.toNat)) ta tb) (xOp dPow fa fb) := fop op_pow so_pow ha hb
theorem fneg {fa : XE} (ha : FE X W a ta fa) : FE X W (.UnaryOp .USub a pos) (tUn (rU fun i => .int (-i)) ta) (xUn dNeg fa) := fun1 un_neg so_neg ha
end

/-! ### data as trees; == -/
def treesBy (f : D → Option PyData) : List D → Option (List PyData)
  | [] => some []
  | d :: r => match f d, treesBy f r with
    | some p, some ps => some (p :: ps)
    | _, _ => none
def D.tree (h : Hs) : Nat → D → Option PyData
  | 0, _ => none
  | n + 1, d => match d with
    | .non => some .none
    | .bl b => some (.bool b)
    | .int i => some (.int i)
    | .str cs => some (.str ⟨cs.toArray⟩)
    | .tup ds => (treesBy (D.tree h n) ds).map .tuple
    | .rol ds => (treesBy (D.tree h n) ds).map .list
    | .ref i => match h[i]? with
      | some (.lst ds) => (treesBy (D.tree h n) ds).map .list
      | _ => none
    | _ => none
theorem trees_ok {C : Cc} {ρ : List Addr} {H : Hp} {f : D → Option PyData} (hf : ∀ d p v, f d = some p → Emb C ρ H d v → Dp C.K H v p) : ∀ {ds : List D} {ps : List PyData} {vs : List V}, treesBy f ds = some ps → Embs C ρ H ds vs → DpAll C.K H vs ps
  | [], ps, vs, e, h => by
    cases e
    cases h
    exact .nil
  | d :: r, ps, vs, e, h => by
    unfold treesBy at e
    split at e
    · rename_i p ps' e1 e2
      cases e
      cases h with
      | cons a b => exact .cons (hf d p _ e1 a) (trees_ok hf e2 b)
    · cases e
theorem tree_ok {C : Cc} {ρ : List Addr} {H : Hp} {h : Hs} (ok : HeapOk C ρ h H) : ∀ (n : Nat) (d : D) (p : PyData) (v : V), d.tree h n = some p → Emb C ρ H d v → Dp C.K H v p
  | 0, d, p, v, e, _ => by cases e
  | n + 1, d, p, v, e, hv => by
    have ih := tree_ok ok n
    unfold D.tree at e
    split at e
    · cases e; cases hv; exact .non
    · cases e; cases hv; exact .bl _
    · cases e; cases hv; exact .int _
    · cases e; cases hv; exact .str _
    · rename_i ds
      cases q : treesBy (D.tree h n) ds with
      | none => rw [q] at e; cases e
      | some ps =>
        rw [q] at e
        cases e
        cases hv with
        | tup hs hx => exact .tup hs (trees_ok ih q hx)
    · rename_i ds
      cases q : treesBy (D.tree h n) ds with
      | none => rw [q] at e; cases e
      | some ps =>
        rw [q] at e
        cases e
        cases hv with
        | rol hs hx => exact .lst hs.seq (trees_ok ih q hx)
    · rename_i i
      split at e
      · rename_i ds qi
        cases q : treesBy (D.tree h n) ds with
        | none => rw [q] at e; cases e
        | some ps =>
          rw [q] at e
          cases e
          cases hv with
          | ref ha =>
            obtain ⟨vs, q1, q2⟩ := ok.ob _ _ _ ha qi
            exact .lst (SqL.of q1) (trees_ok ih q q2)
      · cases e
    · cases e
def natsEq : List Nat → List Nat → Bool
  | [], [] => true
  | a :: r, b :: s => Nat.beq a b && natsEq r s
  | _, _ => false
theorem natsEq_iff : ∀ a b : List Nat, natsEq a b = decide (a = b)
  | [], [] => by simp [natsEq]
  | [], _ :: _ => by simp [natsEq]
  | _ :: _, [] => by simp [natsEq]
  | a :: r, b :: s => by
    unfold natsEq
    rw [natsEq_iff r s]
    rw [Bool.eq_iff_iff]
    simp [Nat.beq_eq]
/-- ==; none: not told -/
def dEqv (h : Hs) (a b : D) : Option Bool := match a, b with
  | .int i, .int j => some (decide (i = j))
  | .str x, .str y => some (natsEq x y)
  | .bl x, .bl y => some (x == y)
  | a, b => match a.tree h 64, b.tree h 64 with
    | some p, some q => if SeqAt.shaped p && SeqAt.shaped q then some (PyData.eqv p q) else none
    | _, _ => none
def dEq : D → D → Hs → Res D := fun a b h => match dEqv h a b with
  | some r => .ok (.bl r) h
  | none => .stuck
def dNe : D → D → Hs → Res D := fun a b h => match dEqv h a b with
  | some r => .ok (.bl (!r)) h
  | none => .stuck
def rEqA (K : PySem.W.Frag) : R2 := fun x y H Q => rEq x y H Q ∨ rEqD K x y H Q
def rNeA (K : PySem.W.Frag) : R2 := fun x y H Q => rNe x y H Q ∨ rNeD K x y H Q
theorem op_eqA {X : Cx} {k : Nat} (hr : Room k X.A) : OpR X (compareOp .Eq) (rEqA X.K) := op_eq.or (op_eqD hr.units)
theorem op_neA {X : Cx} {k : Nat} (hr : Room k X.A) : OpR X (compareOp .NotEq) (rNeA X.K) := op_ne.or (op_neD hr.units)
theorem toArray_inj {a b : List Nat} : ((⟨a.toArray⟩ : Str) = ⟨b.toArray⟩) ↔ a = b := by
  constructor
  · intro e
    have := congrArg (fun z : Str => z.cps.toList) e
    simpa using this
  · intro e
    rw [e]
theorem eqv_ok {C : Cc} {ρ : List Addr} {H : Hp} {h : Hs} {a b : D} {x y : V} {r : Bool} (ok : HeapOk C ρ h H) (hx : Emb C ρ H a x) (hy : Emb C ρ H b y) (e : dEqv h a b = some r) :
    (scal x y = true ∧ decide (x = y) = r) ∨ ∃ p q, Dp C.K H x p ∧ Dp C.K H y q ∧ SeqAt.shaped p = true ∧ SeqAt.shaped q = true ∧ PyData.eqv p q = r := by
  unfold dEqv at e
  split at e
  · cases hx; cases hy; cases e
    exact .inl ⟨rfl, by rw [Bool.eq_iff_iff]; simp⟩
  · cases hx; cases hy; cases e
    refine .inl ⟨rfl, ?_⟩
    rw [natsEq_iff, Bool.eq_iff_iff]
    simp
  · cases hx; cases hy; cases e
    exact .inl ⟨rfl, by rw [Bool.eq_iff_iff]; simp⟩
  · split at e
    · rename_i p q e1 e2
      split at e
      · rename_i hs
        rw [Bool.and_eq_true] at hs
        cases e
        exact .inr ⟨p, q, tree_ok ok 64 _ _ _ e1 hx, tree_ok ok 64 _ _ _ e2 hy, hs.1, hs.2, rfl⟩
      · cases e
    · cases e
section
variable {C : Cc} {W : WX}
theorem so_eq : SoO C W (rEqA C.K) dEq := ⟨fun {h ρ σ H Q d1 d2 x y} ok hx hy hp => by
  unfold dEq at hp
  split at hp
  · rename_i r e
    have q := hp ρ H Ext.refl ok _ (.bl r)
    rcases eqv_ok ok hx hy e with ⟨a, b⟩ | ⟨p, q', a, b, c, d, e'⟩
    · exact .inl ⟨a, by rw [b]; exact q⟩
    · exact .inr ⟨p, q', a, b, c, d, by rw [e']; exact q⟩
  · exact hp.elim⟩
theorem so_ne : SoO C W (rNeA C.K) dNe := ⟨fun {h ρ σ H Q d1 d2 x y} ok hx hy hp => by
  unfold dNe at hp
  split at hp
  · rename_i r e
    have q := hp ρ H Ext.refl ok _ (.bl (!r))
    rcases eqv_ok ok hx hy e with ⟨a, b⟩ | ⟨p, q', a, b, c, d, e'⟩
    · exact .inl ⟨a, by rw [b]; exact q⟩
    · exact .inr ⟨p, q', a, b, c, d, by rw [e']; exact q⟩
  · exact hp.elim⟩
def dLt : D → D → Hs → Res D := dI0 fun i j => .bl (decide (i < j))
def dLe : D → D → Hs → Res D := dI0 fun i j => .bl (decide (i ≤ j))
def dGt : D → D → Hs → Res D := dI0 fun i j => .bl (decide (j < i))
def dGe : D → D → Hs → Res D := dI0 fun i j => .bl (decide (j ≤ i))
theorem so_lt : SoO C W (rI0 fun i j => .bl (decide (i < j))) dLt := so_I0 fun _ _ _ _ => .bl _
theorem so_le : SoO C W (rI0 fun i j => .bl (decide (i ≤ j))) dLe := so_I0 fun _ _ _ _ => .bl _
theorem so_gt : SoO C W (rI0 fun i j => .bl (decide (j < i))) dGt := so_I0 fun _ _ _ _ => .bl _
theorem so_ge : SoO C W (rI0 fun i j => .bl (decide (j ≤ i))) dGe := so_I0 fun _ _ _ _ => .bl _
/-- is None, is a bool -/
def dIs : D → D → Hs → Res D := fun a b h => match a, b with
  | .non, .non => .ok (.bl true) h
  | .bl x, .bl y => .ok (.bl (decide (x = y))) h
  | _, .non => .ok (.bl false) h
  | _, _ => .stuck
def rIsA : R2 := fun x y H Q => (y = .non ∧ Q (.bl (decide (x = .non))) H) ∨ rIsB x y H Q
theorem op_isA {X : Cx} : OpR X (compareOp .Is) rIsA := op_isN.or op_isBl
theorem so_is : SoO C W rIsA dIs := ⟨fun {h ρ σ H Q d1 d2 x y} ok hx hy hp => by
  unfold dIs at hp
  split at hp
  · cases hx; cases hy
    exact .inl ⟨rfl, hp ρ H Ext.refl ok _ (.bl _)⟩
  · cases hx; cases hy
    exact .inr ⟨_, _, rfl, rfl, hp ρ H Ext.refl ok _ (.bl _)⟩
  · rename_i nn _
    cases hy
    refine .inl ⟨rfl, ?_⟩
    have q := hp ρ H Ext.refl ok _ (.bl _)
    have z : decide (x = .non) = false := by
      cases hx <;> first | rfl | exact absurd rfl nn | simp_all
    rw [z]
    exact q
  · exact hp.elim⟩
def dIsNot : D → D → Hs → Res D := fun a b h => match a, b with
  | .non, .non => .ok (.bl false) h
  | .bl x, .bl y => .ok (.bl (!decide (x = y))) h
  | _, .non => .ok (.bl true) h
  | _, _ => .stuck
def rIsNotA : R2 := fun x y H Q => (y = .non ∧ Q (.bl (!decide (x = .non))) H) ∨ rNotB x y H Q
theorem op_isNotA {X : Cx} : OpR X (compareOp .IsNot) rIsNotA := op_notN.or op_notBl
theorem so_isNot : SoO C W rIsNotA dIsNot := ⟨fun {h ρ σ H Q d1 d2 x y} ok hx hy hp => by
  unfold dIsNot at hp
  split at hp
  · cases hx; cases hy
    exact .inl ⟨rfl, hp ρ H Ext.refl ok _ (.bl _)⟩
  · cases hx; cases hy
    exact .inr ⟨_, _, rfl, rfl, hp ρ H Ext.refl ok _ (.bl _)⟩
  · rename_i nn _
    cases hy
    refine .inl ⟨rfl, ?_⟩
    have q := hp ρ H Ext.refl ok _ (.bl _)
    have z : decide (x = .non) = false := by
      cases hx <;> first | rfl | exact absurd rfl nn | simp_all
    rw [z]
    exact q
  · exact hp.elim⟩
end
/-- flat data among flat data -/
def flatD : D → Bool
  | .non => true
  | .bl _ => true
  | .int _ => true
  | .str _ => true
  | _ => false
def eqF : D → D → Bool
  | .non, .non => true
  | .bl a, .bl b => a == b
  | .bl a, .int j => decide ((if a then 1 else 0) = j)
  | .int i, .bl b => decide (i = (if b then 1 else 0))
  | .int i, .int j => decide (i = j)
  | .str a, .str b => natsEq a b
  | _, _ => false
end FL

/-! FI: in, chains, methods, stores, sources, dicts, raise, repr. -/
namespace FL
open PySem PySem.Spec PyProof.Rows L2

section
variable {C : Cc} {W : WX}
theorem Embs.flat {ρ : List Addr} {H : Hp} {ds : List D} {vs : List V} (h : Embs C ρ H ds vs) (f : ds.all flatD = true) : vs.all flatV = true := by
  match h with
  | .nil => rfl
  | .cons a b =>
    rw [List.all_cons, Bool.and_eq_true] at f ⊢
    refine ⟨?_, Embs.flat b f.2⟩
    cases a <;> first | rfl | exact absurd f.1 Bool.false_ne_true
theorem eqF_ok {ρ : List Addr} {H : Hp} {a b : D} {x y : V} (ha : Emb C ρ H a x) (hb : Emb C ρ H b y) (fa : flatD a = true) (fb : flatD b = true) : eqV x y = eqF a b := by
  cases ha <;> cases hb <;> first
    | rfl
    | exact absurd fa Bool.false_ne_true
    | exact absurd fb Bool.false_ne_true
    | (show (_ == _) = _; unfold eqF; rw [beq_eq_decide]) 
    | (show (_ == _) = natsEq _ _; rw [natsEq_iff, Bool.eq_iff_iff]; simp)
    | skip

/-- x in a list or tuple of flat things, one sign in a text -/
def dInB (h : Hs) (a b : D) : Option Bool := match a, b with
  | .str [c], .str cs => some (cs.any fun z => Nat.beq c z)
  | _, .str _ => none
  | a, b => match b.seq h with
    | some ds => if flatD a && ds.all flatD then some (ds.any fun y => eqF y a) else none
    | none => none
def dIn : D → D → Hs → Res D := fun a b h => match dInB h a b with
  | some r => .ok (.bl r) h
  | none => .stuck
def dNotIn : D → D → Hs → Res D := fun a b h => match dInB h a b with
  | some r => .ok (.bl (!r)) h
  | none => .stuck
def rSign (n : Bool) : R2 := fun x y H Q => ∃ (c : Nat) (z : Str), x = .str ⟨#[c]⟩ ∧ y = .str z ∧ Q (.bl (if n then !decide (c ∈ z.cps.toList) else decide (c ∈ z.cps.toList))) H
def rInA (K : PySem.W.Frag) : R2 := fun x y H Q => (∃ (c : Nat) (z : Str), x = .str ⟨#[c]⟩ ∧ y = .str z ∧ Q (.bl (decide (c ∈ z.cps.toList))) H) ∨ rIn K false x y H Q
def rNotInA (K : PySem.W.Frag) : R2 := fun x y H Q => (∃ (c : Nat) (z : Str), x = .str ⟨#[c]⟩ ∧ y = .str z ∧ Q (.bl (!decide (c ∈ z.cps.toList))) H) ∨ rIn K true x y H Q
theorem op_inA {X : Cx} : OpR X (compareOp .In) (rInA X.K) := op_in_sign.or op_in_seq
theorem op_notInA {X : Cx} : OpR X (compareOp .NotIn) (rNotInA X.K) := op_notIn_sign.or op_notIn_seq
theorem any_eq {ρ : List Addr} {H : Hp} {a : D} {x : V} (ha : Emb C ρ H a x) (fa : flatD a = true) : ∀ {ds : List D} {vs : List V}, Embs C ρ H ds vs → ds.all flatD = true → inV x vs = ds.any fun y => eqF y a
  | [], vs, h, f => by
    cases h
    rfl
  | d :: r, vs, h, f => by
    rw [List.all_cons, Bool.and_eq_true] at f
    cases h with
    | cons b c =>
      show (eqV _ x || inV x _) = (eqF d a || r.any fun y => eqF y a)
      rw [any_eq ha fa c f.2, eqF_ok b ha f.1 fa]
theorem sign_mem (c : Nat) (cs : List Nat) : decide (c ∈ cs) = cs.any fun z => Nat.beq c z := by
  rw [Bool.eq_iff_iff]
  simp [Nat.beq_eq]
theorem in_ok {ρ : List Addr} {H : Hp} {h : Hs} {a b : D} {x y : V} {r : Bool} (ok : HeapOk C ρ h H) (hx : Emb C ρ H a x) (hy : Emb C ρ H b y) (e : dInB h a b = some r) :
    (∃ (c : Nat) (z : Str), x = .str ⟨#[c]⟩ ∧ y = .str z ∧ decide (c ∈ z.cps.toList) = r) ∨ ∃ p xs, y = .ref p ∧ (SqL C.K H p xs ∨ SqT C.K H p xs) ∧ flatV x = true ∧ xs.all flatV = true ∧ inV x xs = r := by
  unfold dInB at e
  split at e
  · cases e
    cases hx
    cases hy
    refine .inl ⟨_, _, rfl, rfl, ?_⟩
    rw [← sign_mem]
  · cases e
  · split at e
    · rename_i ds q
      split at e
      · rename_i f
        rw [Bool.and_eq_true] at f
        cases e
        obtain ⟨p, vs, rfl, q1, q2⟩ := seq_of ok hy q
        have fx := Embs.flat (Embs.one hx) (by simpa using f.1)
        refine .inr ⟨p, vs, rfl, q2, by simpa using fx, q1.flat f.2, any_eq hx f.1 q1 f.2⟩
      · cases e
    · cases e
theorem so_in : SoO C W (rInA C.K) dIn := ⟨fun {h ρ σ H Q d1 d2 x y} ok hx hy hp => by
  unfold dIn at hp
  split at hp
  · rename_i r e
    have q := hp ρ H Ext.refl ok _ (.bl r)
    rcases in_ok ok hx hy e with ⟨c, z, a1, a2, a3⟩ | ⟨p, xs, a1, a2, a3, a4, a5⟩
    · exact .inl ⟨c, z, a1, a2, by rw [a3]; exact q⟩
    · exact .inr ⟨p, xs, a1, a2, a3, a4, by rw [if_neg Bool.false_ne_true, a5]; exact q⟩
  · exact hp.elim⟩
theorem so_notIn : SoO C W (rNotInA C.K) dNotIn := ⟨fun {h ρ σ H Q d1 d2 x y} ok hx hy hp => by
  unfold dNotIn at hp
  split at hp
  · rename_i r e
    have q := hp ρ H Ext.refl ok _ (.bl (!r))
    rcases in_ok ok hx hy e with ⟨c, z, a1, a2, a3⟩ | ⟨p, xs, a1, a2, a3, a4, a5⟩
    · exact .inl ⟨c, z, a1, a2, by rw [a3]; exact q⟩
    · exact .inr ⟨p, xs, a1, a2, a3, a4, by rw [if_pos rfl, a5]; exact q⟩
  · exact hp.elim⟩
end

/-! ### chains of two comparisons -/
def xChain (o o' : D → D → Hs → Res D) (fa fb fc : XE) : XE := fun env h => (fa env h).bind fun a h1 => (fb env h1).bind fun b h2 => (o a b h2).bind fun k h3 => match k with
  | .bl true => (fc env h3).bind fun c h4 => o' b c h4
  | .bl false => .ok (.bl false) h3
  | _ => .stuck
theorem so_chain {C : Cc} {W : WX} {r r' : R2} {o o' : D → D → Hs → Res D} {ta tb tc : TE} {fa fb fc : XE} (ho : SoO C W r o) (ho' : SoO C W r' o') (ha : SoE C W ta fa) (hb : SoE C W tb fb) (hc : SoE C W tc fc) : SoE C W (tChain r r' ta tb tc) (xChain o o' fa fb fc) := ⟨fun {env h ρ σ H Q} he hh hp =>
  ha.go he hh ((Pst.bind hp).imp fun d1 h1 ρ1 H1 e1 ok1 p1 x hx =>
    hb.go (he.mono e1) ok1 ((Pst.bind p1).imp fun d2 h2 ρ2 H2 e2 ok2 p2 y hy =>
      ho.go ok2 (hx.mono e2) hy ((Pst.bind p2).imp fun k h3 ρ3 H3 e3 ok3 p3 z hz => by
        split at p3
        · cases hz
          refine ⟨true, rfl, ?_⟩
          rw [if_pos rfl]
          exact hc.go (((he.mono e1).mono e2).mono e3) ok3 ((Pst.bind p3).imp fun d4 h4 ρ4 H4 e4 ok4 p4 w hw => ho'.go ok4 ((hy.mono e3).mono e4) hw p4)
        · cases hz
          refine ⟨false, rfl, ?_⟩
          rw [if_neg Bool.false_ne_true]
          exact p3 ρ3 H3 Ext.refl ok3 _ (.bl false)
        · exact p3.elim)))⟩
section
variable {X : Cx} {W : WX} {a b c : Expr} {ta tb tc : TE} {fa fb fc : XE} {pos : Pos} {op op' : CmpOp} {r r' : R2} {o o' : D → D → Hs → Res D}
theorem fchain (ho : OpR X (compareOp op) r) (ho' : OpR X (compareOp op') r') (so : SoO (cc X) W r o) (so' : SoO (cc X) W r' o') (ha : FE X W a ta fa) (hb : FE X W b tb fb) (hc : FE X W c tc fc) (hm : lastMarks [op, op'] [b, c] = false := by with_unfolding_all rfl) :
    FE X W (.Compare a [op, op'] [b, c] pos) (tChain r r' ta tb tc) (xChain o o' fa fb fc) := ⟨pe_chain ho ho' ha.pe hb.pe hc.pe hm, so_chain so so' ha.so hb.so hc.so⟩
theorem fchainT (ho : OpR X (compareOp op) r) (ho' : OpR X (compareOp op') r') (so : SoO (cc X) W r o) (so' : SoO (cc X) W r' o') (ha : FE X W a ta fa) (hb : FE X W b tb fb) (hc : FE X W c tc fc) (hm : lastMarks [op, op'] [b, c] = false := by with_unfolding_all rfl) :
    FT X W (.Compare a [op, op'] [b, c] pos) (tTest (tChain r r' ta tb tc)) (xTest (xChain o o' fa fb fc)) := ⟨pt_chain ho ho' ha.pe hb.pe hc.pe hm, so_testT (so_chain so so' ha.so hb.so hc.so)⟩
end

/-! ### methods -/
structure SoM (C : Cc) (W : WX) (T : String) (r : V → List V → Hp → VK → Prop) (op : D → List D → Hs → Res D) (ty : D → Hs → Bool) : Prop where
  go : ∀ {h ρ σ H Q d x ds xs}, HeapOk C ρ h H → Emb C ρ H d x → Embs C ρ H ds xs → Pst C W ρ σ H (op d ds h) (GV C Q) → r x xs H Q
  tyo : ∀ {h ρ H d x}, HeapOk C ρ h H → Emb C ρ H d x → ty d h = true → tyV C.K T x H
def xMeth (ty : D → Hs → Bool) (op : D → List D → Hs → Res D) (fo : XE) (fA : XA) : XE := fun env h => (fo env h).bind fun d h1 => if ty d h1 then (fA env h1).bind fun ds h2 => op d ds h2 else .stuck
theorem so_meth {C : Cc} {W : WX} {T : String} {r : V → List V → Hp → VK → Prop} {op : D → List D → Hs → Res D} {ty : D → Hs → Bool} {to : TE} {t : TA} {fo : XE} {fA : XA} (s : SoM C W T r op ty) (ho : SoE C W to fo) (ha : SoA C W t fA) : SoE C W (tBM C.K T r to t) (xMeth ty op fo fA) := ⟨fun {env h ρ σ H Q} he hh hp =>
  ho.go he hh ((Pst.bind hp).imp fun d h1 ρ1 H1 e1 ok1 p1 x hx => by
    split at p1
    · rename_i hty
      exact ⟨s.tyo ok1 hx hty, ha.go (he.mono e1) ok1 ((Pst.bind p1).imp fun ds h2 ρ2 H2 e2 ok2 p2 xs hxs => s.go ok2 (hx.mono e2) hxs p2)⟩
    · exact p1.elim)⟩
def xMeth0 (ty : D → Hs → Bool) (op : D → List D → Hs → Res D) (fo : XE) : XE := fun env h => (fo env h).bind fun d h1 => if ty d h1 then op d [] h1 else .stuck
theorem so_meth0 {C : Cc} {W : WX} {T : String} {r : V → List V → Hp → VK → Prop} {op : D → List D → Hs → Res D} {ty : D → Hs → Bool} {to : TE} {fo : XE} (s : SoM C W T r op ty) (ho : SoE C W to fo) : SoE C W (tBM0 C.K T r to) (xMeth0 ty op fo) := ⟨fun {env h ρ σ H Q} he hh hp =>
  ho.go he hh ((Pst.bind hp).imp fun d h1 ρ1 H1 e1 ok1 p1 x hx => by
    split at p1
    · rename_i hty
      exact ⟨s.tyo ok1 hx hty, s.go ok1 hx .nil p1⟩
    · exact p1.elim)⟩
/-- o.m(a list made for it) -/
structure SoMN (C : Cc) (W : WX) (r : V → List V → Hp → VK → Prop) (op : D → List D → Hs → Res D) : Prop where
  go : ∀ {h ρ σ H Q d x ds p vs}, HeapOk C ρ h H → Emb C ρ H d x → H p = none → Embs C ρ H ds vs → Pst C W ρ σ H (op d ds h) (GV C Q) → r x [.ref p] (upd H p (.lst vs)) Q
def xMethN (ty : D → Hs → Bool) (op : D → List D → Hs → Res D) (fo : XE) (fA : XA) : XE := fun env h => (fo env h).bind fun d h1 => if ty d h1 then (fA env h1).bind fun ds h2 => op d ds h2 else .stuck
theorem so_methN {C : Cc} {W : WX} {T : String} {r : V → List V → Hp → VK → Prop} {op op' : D → List D → Hs → Res D} {ty : D → Hs → Bool} {to te : TE} {fo : XE} {fA : XA} (s : SoM C W T r op' ty) (sn : SoMN C W r op) (ho : SoE C W to fo) (ha : SoL C W te fA) : SoE C W (tBM C.K T r to (tCons te tNil)) (xMethN ty op fo fA) := ⟨fun {env h ρ σ H Q} he hh hp =>
  ho.go he hh ((Pst.bind hp).imp fun d h1 ρ1 H1 e1 ok1 p1 x hx => by
    split at p1
    · rename_i hty
      exact ⟨s.tyo ok1 hx hty, ha.go (he.mono e1) ok1 ((Pst.bind p1).imp fun ds h2 ρ2 H2 e2 ok2 p2 p vs n hs => sn.go ok2 (hx.mono e2) n hs p2)⟩
    · exact p1.elim)⟩
def isLst (d : D) (h : Hs) : Bool := (d.lstI h).isSome
def isStr (d : D) (_ : Hs) : Bool := match d with
  | .str _ => true
  | _ => false
section
variable {C : Cc} {W : WX}
theorem isLst_ty {h : Hs} {ρ : List Addr} {H : Hp} {d : D} {x : V} (ok : HeapOk C ρ h H) (hx : Emb C ρ H d x) (e : isLst d h = true) : tyV C.K "list" x H := by
  unfold isLst at e
  cases q : d.lstI h with
  | none => rw [q] at e; cases e
  | some ds =>
    obtain ⟨a, vs, rfl, _, q2⟩ := lst_of ok hx q
    exact .inl ⟨rfl, vs, q2⟩
def mAppend : D → List D → Hs → Res D := fun d args h => match d, args with
  | .ref i, [x] => (match h[i]? with
    | some (.lst ds) => if ds.length < 100000 then .ok .non (h.set i (.lst (ds ++ [x]))) else .stuck
    | _ => .stuck)
  | _, _ => .stuck
theorem so_append : SoM C W "list" rAppend mAppend isLst := ⟨fun {h ρ σ H Q d x ds xs} ok hx hd hp => by
  unfold mAppend at hp
  split at hp
  · rename_i i y
    split at hp
    · rename_i zs e
      split at hp
      · rename_i hl
        obtain ⟨v, rfl, hv⟩ := one_arg hd
        cases hx with
        | ref ha =>
          obtain ⟨vs, q1, q2⟩ := ok.ob _ _ _ ha e
          have ew := Ext.write (o := .lst (vs ++ [v])) ok ha
          exact ⟨_, vs, v, rfl, rfl, q1, sz_lt' (by rw [← q2.length]; exact hl), hp ρ _ ew (ok.write ha ⟨_, upd_same, (q2.append (.one hv)).mono ew⟩) _ .non⟩
      · exact hp.elim
    · exact hp.elim
  · exact hp.elim, fun ok hx e => isLst_ty ok hx e⟩
def mExtN : D → List D → Hs → Res D := fun d es h => match d with
  | .ref i => (match h[i]? with
    | some (.lst ds) => if ds.length + es.length ≤ 100000 then .ok .non (h.set i (.lst (ds ++ es))) else .stuck
    | _ => .stuck)
  | _ => .stuck
theorem so_extN : SoMN C W rExtend mExtN := ⟨fun {h ρ σ H Q d x ds p vs} ok hx n hs hp => by
  unfold mExtN at hp
  split at hp
  · rename_i i
    split at hp
    · rename_i zs e
      split at hp
      · rename_i hl
        cases hx with
        | ref ha =>
          obtain ⟨ws, q1, q2⟩ := ok.ob _ _ _ ha e
          have ne := ne_of_none q1 n
          have ok1 := ok.fresh (o := .lst vs) n
          have ef : Ext ρ ρ H (upd H p (.lst vs)) := Ext.fresh n
          have ew := Ext.write (o := .lst (ws ++ vs)) ok1 ha
          refine ⟨_, p, ws, vs, rfl, rfl, by rw [upd_ne ne]; exact q1, upd_same, by rw [← q2.length, ← hs.length]; exact sz_ok hl, ?_⟩
          exact hp ρ _ (ef.trans ew) (ok1.write ha ⟨_, upd_same, (q2.append hs).mono (ef.trans ew)⟩) _ .non
      · exact hp.elim
    · exact hp.elim
  · exact hp.elim⟩
def mExtend : D → List D → Hs → Res D := fun d args h => match d, args with
  | .ref i, [.ref j] => (match h[i]?, h[j]? with
    | some (.lst ds), some (.lst es) => if ds.length + es.length ≤ 100000 then .ok .non (h.set i (.lst (ds ++ es))) else .stuck
    | _, _ => .stuck)
  | _, _ => .stuck
theorem so_extend : SoM C W "list" rExtend mExtend isLst := ⟨fun {h ρ σ H Q d x ds xs} ok hx hd hp => by
  unfold mExtend at hp
  split at hp
  · rename_i i j
    split at hp
    · rename_i zs es e e2
      split at hp
      · rename_i hl
        obtain ⟨v, rfl, hv⟩ := one_arg hd
        cases hx with
        | ref ha =>
          cases hv with
          | ref hb =>
            obtain ⟨vs, q1, q2⟩ := ok.ob _ _ _ ha e
            obtain ⟨us, r1, r2⟩ := ok.ob _ _ _ hb e2
            have ew := Ext.write (o := .lst (vs ++ us)) ok ha
            exact ⟨_, _, vs, us, rfl, rfl, q1, r1, by rw [← q2.length, ← r2.length]; exact sz_ok hl, hp ρ _ ew (ok.write ha ⟨_, upd_same, (q2.append r2).mono ew⟩) _ .non⟩
      · exact hp.elim
    · exact hp.elim
  · exact hp.elim, fun ok hx e => isLst_ty ok hx e⟩
def mPop : D → List D → Hs → Res D := fun d args h => match d, args with
  | .ref i, [] => (match h[i]? with
    | some (.lst ds) => (match ds[ds.length - 1]? with
      | some x => .ok x (h.set i (.lst ds.dropLast))
      | none => .stuck)
    | _ => .stuck)
  | _, _ => .stuck
theorem so_pop : SoM C W "list" rPop mPop isLst := ⟨fun {h ρ σ H Q d x ds xs} ok hx hd hp => by
  unfold mPop at hp
  split at hp
  · rename_i i
    split at hp
    · rename_i zs e
      split at hp
      · rename_i y ey
        cases hd
        cases hx with
        | ref ha =>
          obtain ⟨vs, q1, q2⟩ := ok.ob _ _ _ ha e
          obtain ⟨v, ev, hv⟩ := q2.get ey
          have ew := Ext.write (o := .lst vs.dropLast) ok ha
          exact ⟨_, vs, v, rfl, rfl, q1, by rw [← q2.length]; exact ev, hp ρ _ ew (ok.write ha ⟨_, upd_same, q2.dropLast.mono ew⟩) _ (hv.mono ew)⟩
      · exact hp.elim
    · exact hp.elim
  · exact hp.elim, fun ok hx e => isLst_ty ok hx e⟩
end
section
variable {X : Cx} {W : WX} {o e : Expr} {to te : TE} {fo : XE} {fA : XA} {f : XE} {apos cpos : Pos}
theorem fappend (ho : FE X W o to fo) (ha : FE X W e te f) (hs : starEach [e] X.env = (false, eval e X.env) :: starEach [] X.env := by rfl) (hbase : attributeBase o "append" X.env (eval o X.env) = eval o X.env := by rfl)
    (hfew : ((backTo cpos (starEach [e] X.env)).all (fun x => !x.1) && (backToKw cpos (keywordEach [] X.env)).all (fun x => x.1.isSome) && decide (([e] : List Expr).length + ([] : List Keyword).length + (if ([] : List Keyword).isEmpty then 0 else 1) < 30)) = true := by rfl)
    (hline : (apos.endLine == cpos.line) = true := by rfl) (hplain : (backTo cpos (starEach [] X.env)).any (·.1) = false := by rfl) : FE X W (.Call (.Attribute o "append" apos) [e] [] cpos) (tBM X.K "list" rAppend to (tCons te tNil)) (xMeth isLst mAppend fo (xCons f xNil)) :=
  ⟨pe_bm PySem.F.plainAttrs_list PySem.F.slot_list_append PySem.F.type_list_append mt_append ho.pe (pa_cons ha.pe pa_nil hs) hbase hfew hline hs hplain, so_meth so_append ho.so (so_cons ha.so so_nil)⟩
theorem fextend (ho : FE X W o to fo) (ha : FE X W e te f) (hs : starEach [e] X.env = (false, eval e X.env) :: starEach [] X.env := by rfl) (hbase : attributeBase o "extend" X.env (eval o X.env) = eval o X.env := by rfl)
    (hfew : ((backTo cpos (starEach [e] X.env)).all (fun x => !x.1) && (backToKw cpos (keywordEach [] X.env)).all (fun x => x.1.isSome) && decide (([e] : List Expr).length + ([] : List Keyword).length + (if ([] : List Keyword).isEmpty then 0 else 1) < 30)) = true := by rfl)
    (hline : (apos.endLine == cpos.line) = true := by rfl) (hplain : (backTo cpos (starEach [] X.env)).any (·.1) = false := by rfl) : FE X W (.Call (.Attribute o "extend" apos) [e] [] cpos) (tBM X.K "list" rExtend to (tCons te tNil)) (xMeth isLst mExtend fo (xCons f xNil)) :=
  ⟨pe_bm PySem.F.plainAttrs_list PySem.F.slot_list_extend PySem.F.type_list_extend mt_extend ho.pe (pa_cons ha.pe pa_nil hs) hbase hfew hline hs hplain, so_meth so_extend ho.so (so_cons ha.so so_nil)⟩
theorem fextendN (ho : FE X W o to fo) (ha : FLs X W e te fA) (hs : starEach [e] X.env = (false, eval e X.env) :: starEach [] X.env := by rfl) (hbase : attributeBase o "extend" X.env (eval o X.env) = eval o X.env := by rfl)
    (hfew : ((backTo cpos (starEach [e] X.env)).all (fun x => !x.1) && (backToKw cpos (keywordEach [] X.env)).all (fun x => x.1.isSome) && decide (([e] : List Expr).length + ([] : List Keyword).length + (if ([] : List Keyword).isEmpty then 0 else 1) < 30)) = true := by rfl)
    (hline : (apos.endLine == cpos.line) = true := by rfl) (hplain : (backTo cpos (starEach [] X.env)).any (·.1) = false := by rfl) : FE X W (.Call (.Attribute o "extend" apos) [e] [] cpos) (tBM X.K "list" rExtend to (tCons te tNil)) (xMethN isLst mExtN fo fA) :=
  ⟨pe_bm PySem.F.plainAttrs_list PySem.F.slot_list_extend PySem.F.type_list_extend mt_extend ho.pe (pa_cons ha.pe pa_nil hs) hbase hfew hline hs hplain, so_methN so_extend so_extN ho.so ha.so⟩
theorem fpop (ho : FE X W o to fo) (hbase : attributeBase o "pop" X.env (eval o X.env) = eval o X.env := by rfl) (hline : (apos.endLine == cpos.line) = true := by rfl) : FE X W (.Call (.Attribute o "pop" apos) [] [] cpos) (tBM0 X.K "list" rPop to) (xMeth0 isLst mPop fo) :=
  ⟨pe_bm0 PySem.F.plainAttrs_list PySem.F.slot_list_pop PySem.F.type_list_pop mt_pop ho.pe hbase hline, so_meth0 so_pop ho.so⟩
end

/-! ### stores to items -/
def sSetIx (fv fo fi : XE) : XS := fun env h => ((fv env h).bind fun v h1 => (fo env h1).bind fun d h2 => (fi env h2).bind fun i h3 => match d, i with
  | .ref k, .int j => (match h3[k]? with
    | some (.lst ds) => (match ixN ds.length j with
      | some n => Res.ok () (h3.set k (.lst (ds.set n v)))
      | none => .stuck)
    | _ => .stuck)
  | _, _ => .stuck).andS env fun _ h4 => .nx env h4
theorem so_setIx {C : Cc} {W : WX} {tv to ti : TE} {fv fo fi : XE} (hv : SoE C W tv fv) (ho : SoE C W to fo) (hi : SoE C W ti fi) : SoS C W (tAsg tv (gSub to ti rSetL)) (sSetIx fv fo fi) := ⟨fun {env h ρ σ H Dn} he hh hp =>
  hv.go he hh ((Pst.bind (PsS.andS he hp)).imp fun v h1 ρ1 H1 e1 ok1 p1 x hx =>
    ho.go (he.mono e1) ok1 ((Pst.bind p1).imp fun d h2 ρ2 H2 e2 ok2 p2 y hy =>
      hi.go ((he.mono e1).mono e2) ok2 ((Pst.bind p2).imp fun i h3 ρ3 H3 e3 ok3 p3 z hz => by
        split at p3
        · rename_i k j
          split at p3
          · rename_i ds e
            split at p3
            · rename_i n en
              cases hz
              cases hy with
              | ref ha =>
                have ha3 := e3.at ha
                obtain ⟨vs, q1, q2⟩ := ok3.ob _ _ _ ha3 e
                have ew := Ext.write (o := .lst (vs.set n x)) ok3 ha3
                refine ⟨_, vs, j, n, rfl, rfl, q1, by rw [← q2.length]; exact en, ?_⟩
                have q := p3 ρ3 _ ew (ok3.write ha3 ⟨_, upd_same, (q2.set ((hx.mono e2).mono e3) n).mono ew⟩)
                exact q ρ3 σ _ Ext.refl (ok3.write ha3 ⟨_, upd_same, (q2.set ((hx.mono e2).mono e3) n).mono ew⟩) ((((he.mono e1).mono e2).mono e3).mono ew)
            · exact p3.elim
          · exact p3.elim
        · exact p3.elim)))⟩
theorem fs_setIx {X : Cx} {W : WX} {o i e : Expr} {tv to ti : TE} {fv fo fi : XE} {pos' pos : Pos} (hv : FE X W e tv fv) (ho : FE X W o to fo) (hi : FE X W i ti fi)
    (ha : ∀ v, assign (.Subscript o i pos') X.env v = (do
      let ov ← holding [v] (eval o X.env)
      let iv ← holding [v, ov] (eval i X.env)
      standAt pos'
      holding [v, ov, iv] (setItem ov iv v)
      release [v, ov, iv] []) := by intro _; rfl) (hs : swapsWithSole [.Subscript o i pos'] e pos.line X.env = pure false := by rfl) (hw : swappedStores [.Subscript o i pos'] e X.env = pure none := by rfl)
    (h1 : (assignEach [.Subscript o i pos'] X.env).map (·.2) = [assign (.Subscript o i pos') X.env] := by rfl) : FS X W (.Assign [.Subscript o i pos'] e pos) (tAsg tv (gSub to ti rSetL)) (sSetIx fv fo fi) := ⟨ps_asg hv.pe (pg_sub ho.pe hi.pe set_list ha) hs hw h1, so_setIx hv.so ho.so hi.so⟩

/-! ### sources -/
theorem emb_get {C : Cc} {ρ : List Addr} {H : Hp} {ds : List D} {vs : List V} (h : Embs C ρ H ds vs) {i : Nat} (e : ds[i]? = none) : vs.length ≤ i := by
  rw [← h.length]
  exact List.getElem?_eq_none_iff.mp e
theorem map_some_none {α β : Type} {o : Option α} {f : α → Option β} (h : o.map f = some none) : ∃ a, o = some a ∧ f a = none := by
  cases o with
  | none => cases h
  | some a => exact ⟨a, rfl, Option.some.inj h⟩
theorem map_some_some {α β : Type} {o : Option α} {f : α → Option β} {b : β} (h : o.map f = some (some b)) : ∃ a, o = some a ∧ f a = some b := by
  cases o with
  | none => cases h
  | some a => exact ⟨a, rfl, Option.some.inj h⟩
theorem sqL_fun {K : PySem.W.Frag} {H : Hp} {a : Addr} {xs ys : List V} (h : H a = some (.lst xs)) (n : ∀ o, K.lookup a = some o → False) (h' : SqL K H a ys) : xs = ys := by
  rcases h' with (z | ⟨o, z⟩) | ⟨o, _, _, z, _⟩
  · rw [h] at z; cases z; rfl
  · rw [h] at z; cases z
  · exact (n o z).elim
/-- a list that the program made -/
theorem it_live {C : Cc} {ρ0 : List Addr} {H0 : Hp} {i : Nat} {a : Addr} (ha : ρ0[i]? = some a) : ItOk C ρ0 H0 [] (Itl C.K a) (Src.one (.live i)).nxt := by
  refine ⟨fun {ρ H h j d} low keep ok e => ?_, fun {ρ H h j} low keep ok e => ?_⟩
  · obtain ⟨ds, e1, e2⟩ := map_some_some e
    unfold View.at at e1
    dsimp only at e1
    split at e1
    · rename_i ds' q
      cases e1
      obtain ⟨vs, q1, q2⟩ := ok.ob _ _ _ (low.at ha) q
      obtain ⟨v, e3, hv⟩ := q2.get e2
      refine ⟨⟨vs, v, SqL.of q1, e3⟩, fun x H' y => ?_⟩
      obtain ⟨rfl, y⟩ := y
      have e4 := y vs (SqL.of q1)
      rw [e3] at e4
      cases e4
      exact ⟨Ext.refl, ok, hv⟩
    · cases e1
  · obtain ⟨ds, e1, e2⟩ := map_some_none e
    unfold View.at at e1
    dsimp only at e1
    split at e1
    · rename_i ds' q
      cases e1
      obtain ⟨vs, q1, q2⟩ := ok.ob _ _ _ (low.at ha) q
      exact ⟨vs, SqL.of q1, emb_get q2 e2⟩
    · cases e1
theorem it_con {C : Cc} {ρ0 : List Addr} {H0 : Hp} {fr : List Addr} {J : It} {ds : List D} {vs : List V} (hs : Embs C ρ0 H0 ds vs)
    (hgo : ∀ {ρ : List Addr} {H : Hp}, Low ρ0 ρ H0 H → (∀ p, p ∈ fr → ∀ o, H0 p = some o → H p = some o) → ∀ {i : Nat} {v : V}, vs[i]? = some v → J.go i H ∧ ∀ x H', J.yld i H x H' → H' = H ∧ x = v)
    (hst : ∀ {ρ : List Addr} {H : Hp}, Low ρ0 ρ H0 H → (∀ p, p ∈ fr → ∀ o, H0 p = some o → H p = some o) → ∀ {i : Nat}, vs.length ≤ i → J.stop i H) : ItOk C ρ0 H0 fr J (Src.one (.con ds)).nxt := by
  refine ⟨fun {ρ H h j d} low keep ok e => ?_, fun {ρ H h j} low keep ok e => ?_⟩
  · have e1 : ds[j]? = some d := Option.some.inj e
    obtain ⟨v, e3, hv⟩ := hs.get e1
    obtain ⟨g, y⟩ := hgo low keep e3
    refine ⟨g, fun x H' z => ?_⟩
    obtain ⟨rfl, rfl⟩ := y x H' z
    exact ⟨Ext.refl, ok, hv.low low⟩
  · have e1 : ds[j]? = none := Option.some.inj e
    exact hst low keep (emb_get hs e1)
/-- what is walked, by its kind -/
def srcOf (h : Hs) (d : D) : Option Src := match d with
  | .tup ds => some (.one (.con ds))
  | .rol ds => some (.one (.con ds))
  | .str cs => some (.one (.con (cs.map fun c => .str [c])))
  | .ref i => match h[i]? with
    | some (.lst _) => some (.one (.live i))
    | _ => none
  | _ => none
def iAny (K : PySem.W.Frag) (te : TE) : TI := fun σ H R => te σ H fun x H1 => (∃ a, x = .ref a ∧ (∃ xs, SqL K H1 a xs) ∧ R (Itl K a) H1) ∨ (∃ a, x = .ref a ∧ (∃ xs, SqT K H1 a xs) ∧ R (Itt K a) H1) ∨ ∃ z, x = .str z ∧ R (Its z) H1
theorem pi_any {X : Cx} {tg l : Expr} {tl : TE} (hl : PE X l tl) : PI X tg l (iAny X.K tl) := by
  constructor
  intro pins s σ H R I h
  refine thn (hl.run pins s σ H _ I h) ?_
  rintro v s1 ⟨x, H1, I1, r1, q1⟩
  have fr : ∀ b, b ∈ [s1.heap.objs.size] → FpOk X pins H1 b := fun b hb => by
    rw [List.mem_singleton.mp hb]
    exact I1.fpOk (Nat.le_refl _) (I1.hok.fresh (Nat.le_refl _))
  rcases q1 with ⟨a, e, ⟨xs, hq⟩, q⟩ | ⟨a, e, ⟨xs, hq⟩, q⟩ | ⟨z, e, q⟩
  · subst e
    cases r1
    obtain ⟨its, _, pl, _⟩ := I1.list hq
    apply wpAny_pyIter_list pl.isList
    exact ⟨s1.heap.objs.size, _, _, _, H1, rfl, I1.kept (t' := s1.toks) fun b o e => Heap.get?_push_of_some _ e, turn_list a _, ⟨_, Heap.get?_push_size _ rfl, rfl, rfl⟩, fr, q⟩
  · subst e
    cases r1
    obtain ⟨its, _, pl, _⟩ := I1.tuple hq
    apply wpAny_pyIter_tuple (show s1.heap.IsTuple a its.toArray from pl)
    exact ⟨s1.heap.objs.size, _, _, _, H1, rfl, I1.kept (t' := s1.toks) fun b o e => Heap.get?_push_of_some _ e, turn_tuple a _, ⟨_, Heap.get?_push_size _ rfl, rfl, rfl⟩, fr, q⟩
  · subst e
    obtain ⟨t, et⟩ := r1
    subst et
    by_cases ha : z.cps.all (· < 128) = true
    · exact wpAny_pyIter_ascii ha (pi_one (tk := s1.toks) I1 _ (turn_str _ z t "str_ascii_iterator" (.inl rfl)) ⟨_, Heap.get?_push_size _ rfl, rfl, rfl⟩ q)
    · exact wpAny_pyIter_wide (by simpa using ha) (pi_one (tk := s1.toks) I1 _ (turn_str _ z t "str_iterator" (.inr rfl)) ⟨_, Heap.get?_push_size _ rfl, rfl, rfl⟩ q)
theorem sqT_fun {X : Cx} : True := trivial
def xSrc (f : XE) : XI := fun env h => (f env h).bind fun d h1 => match srcOf h1 d with
  | some s => .ok s h1
  | none => .stuck
theorem embs_signs {C : Cc} {ρ : List Addr} {H : Hp} : ∀ cs : List Nat, Embs C ρ H (cs.map fun c => .str [c]) (cs.map fun c => V.str ⟨#[c]⟩)
  | [] => .nil
  | c :: r => .cons (.str [c]) (embs_signs r)
theorem so_src {C : Cc} {W : WX} {te : TE} {f : XE} (hf : SoE C W te f) : SoIt C W (iAny C.K te) (xSrc f) := ⟨fun {env h ρ σ H R} he hh hp =>
  hf.go he hh ((Pst.bind hp).imp fun d h1 ρ1 H1 e1 ok1 p1 v hv => by
    unfold srcOf at p1
    split at p1
    · rename_i s es
      revert p1
      split at es
      · rename_i ds
        cases es
        intro p1
        cases hv with
        | @tup _ vs a hs hx =>
          refine .inr (.inl ⟨a, rfl, ⟨vs, hs⟩, p1 ρ1 H1 Ext.refl ok1 [] H1 _ (fun _ m => by cases m) Ext.refl ok1 (it_con hx (fun {ρ H} low _ {i v} e => ?_) (fun {ρ H} low _ {i} e => ⟨vs, low.sqT hs, e⟩))⟩)
          exact ⟨⟨vs, v, low.sqT hs, e⟩, fun x H' y => ⟨y.1, Option.some.inj ((y.2 vs (low.sqT hs)).symm.trans e)⟩⟩
      · rename_i ds
        cases es
        intro p1
        cases hv with
        | @rol _ vs a hs hx =>
          refine .inl ⟨a, rfl, ⟨vs, hs.seq⟩, p1 ρ1 H1 Ext.refl ok1 [] H1 _ (fun _ m => by cases m) Ext.refl ok1 (it_con hx (fun {ρ H} low _ {i v} e => ?_) (fun {ρ H} low _ {i} e => ⟨vs, (low.roL hs).seq, e⟩))⟩
          exact ⟨⟨vs, v, (low.roL hs).seq, e⟩, fun x H' y => ⟨y.1, Option.some.inj ((y.2 vs (low.roL hs).seq).symm.trans e)⟩⟩
      · rename_i cs
        cases es
        intro p1
        cases hv
        refine .inr (.inr ⟨_, rfl, p1 ρ1 H1 Ext.refl ok1 [] H1 _ (fun _ m => by cases m) Ext.refl ok1 (it_con (embs_signs cs) (fun {ρ H} low _ {i v} e => ?_) (fun {ρ H} low _ {i} e => ?_))⟩)
        · rw [List.getElem?_map] at e
          cases q : cs[i]? with
          | none => rw [q] at e; cases e
          | some c =>
            rw [q] at e
            cases e
            have hi := (List.getElem?_eq_some_iff.mp q).1
            refine ⟨by show i < cs.toArray.size; simpa using hi, fun x H' y => ?_⟩
            obtain ⟨y1, c', y2, y3⟩ := y
            have y4 : cs[i]? = some c' := by simpa using y2
            rw [q] at y4
            cases y4
            exact ⟨y1, y3⟩
        · show cs.toArray.size ≤ i
          simpa using e
      · rename_i i
        split at es
        · rename_i ds q
          cases es
          intro p1
          cases hv with
          | @ref _ a ha =>
            obtain ⟨vs, q1, q2⟩ := ok1.ob _ _ _ ha q
            exact .inl ⟨a, rfl, ⟨vs, SqL.of q1⟩, p1 ρ1 H1 Ext.refl ok1 [] H1 _ (fun _ m => by cases m) Ext.refl ok1 (it_live ha)⟩
        · cases es
      · cases es
    · exact p1.elim)⟩
theorem fi_any {X : Cx} {W : WX} {tg e : Expr} {te : TE} {f : XE} (hf : FE X W e te f) : FI X W tg e (iAny X.K te) (xSrc f) := ⟨pi_any hf.pe, so_src hf.so⟩
/-- a list that was just made -/
def xSrcN (f : XA) : XI := fun env h => (f env h).bind fun ds h1 => .ok (.one (.con ds)) h1
theorem so_srcN {C : Cc} {W : WX} {te : TE} {f : XA} (hf : SoL C W te f) : SoIt C W (iList C.K te) (xSrcN f) := ⟨fun {env h ρ σ H R} he hh hp => by
  refine hf.go he hh ((Pst.bind hp).imp fun ds h1 ρ1 H1 e1 ok1 p1 p vs n hs => ?_)
  refine ⟨p, rfl, ⟨vs, SqL.of upd_same⟩, p1 ρ1 H1 Ext.refl ok1 [p] (upd H1 p (.lst vs)) _ (fun q m => ?_) (Ext.fresh n) (ok1.fresh n) (it_con (hs.mono (Ext.fresh n)) (fun {ρ H} low keep {i v} e => ?_) (fun {ρ H} low keep {i} e => ?_))⟩
  · rw [List.mem_singleton.mp m]
    refine ⟨?_, ok1.notin n⟩
    cases z : H p with
    | none => rfl
    | some o =>
      by_cases hm : p ∈ ρ
      · exact absurd (e1.sub p hm) (ok1.notin n)
      · have z2 := e1.keep p o z hm
        rw [n] at z2
        cases z2
  · have k := keep p (by simp) _ upd_same
    exact ⟨⟨vs, v, SqL.of k, e⟩, fun x H' y => ⟨y.1, Option.some.inj ((y.2 vs (SqL.of k)).symm.trans e)⟩⟩
  · exact ⟨vs, SqL.of (keep p (by simp) _ upd_same), e⟩⟩
theorem fi_new {X : Cx} {W : WX} {tg e : Expr} {te : TE} {f : XA} (hf : FLs X W e te f) : FI X W tg e (iList X.K te) (xSrcN f) := ⟨pi_list hf.pe, so_srcN hf.so⟩
/-- ranges -/
def rangeD (lo : Int) (n : Nat) : List D := (List.range n).map fun (i : Nat) => D.int (lo + i)
theorem embs_range {C : Cc} {ρ : List Addr} {H : Hp} (lo : Int) : ∀ l : List Nat, Embs C ρ H (l.map fun (i : Nat) => D.int (lo + i)) (l.map fun (i : Nat) => V.int (lo + i))
  | [] => .nil
  | n :: r => .cons (.int _) (embs_range lo r)
theorem it_range {C : Cc} {ρ0 : List Addr} {H0 : Hp} (lo : Int) (n : Nat) : ItOk C ρ0 H0 [] (Itr lo n) (Src.one (.con (rangeD lo n))).nxt := by
  refine it_con (embs_range lo (List.range n)) (fun {ρ H} low _ {i v} e => ?_) (fun {ρ H} low _ {i} e => ?_)
  · rw [List.getElem?_map] at e
    cases q : (List.range n)[i]? with
    | none => rw [q] at e; cases e
    | some c =>
      rw [q] at e
      cases e
      obtain ⟨h1, h2⟩ := List.getElem?_eq_some_iff.mp q
      rw [List.getElem_range] at h2
      subst h2
      rw [List.length_range] at h1
      exact ⟨h1, fun x H' y => ⟨y.1, y.2⟩⟩
  · rw [List.length_map, List.length_range] at e
    exact e
def okR (i : Int) : Bool := decide (-1000000 ≤ i) && decide (i ≤ 1000000)
def xRng1 (fA : XA) : XI := fun env h => (fA env h).bind fun ds h1 => match ds with
  | [.int j] => if okR j then .ok (.one (.con (rangeD 0 j.toNat))) h1 else .stuck
  | _ => .stuck
def xRng2 (fA : XA) : XI := fun env h => (fA env h).bind fun ds h1 => match ds with
  | [.int i, .int j] => if okR i && okR j then .ok (.one (.con (rangeD i (j - i).toNat))) h1 else .stuck
  | _ => .stuck
theorem okR_ok {i : Int} (h : okR i = true) : -(2 ^ 62) ≤ i ∧ i < 2 ^ 62 := by
  unfold okR at h
  rw [Bool.and_eq_true] at h
  have h1 := of_decide_eq_true h.1
  have h2 := of_decide_eq_true h.2
  omega
theorem so_rng1 {C : Cc} {W : WX} {ta : TA} {fA : XA} (ha : SoA C W ta fA) : SoIt C W (iRng1 ta) (xRng1 fA) := ⟨fun {env h ρ σ H R} he hh hp =>
  ha.go he hh ((Pst.bind hp).imp fun ds h1 ρ1 H1 e1 ok1 p1 vs hv => by
    split at p1
    · split at p1
      · rename_i j hj
        obtain ⟨v, ev, hw⟩ := one_arg hv
        subst ev
        cases hw
        obtain ⟨a, b⟩ := okR_ok hj
        exact ⟨j, rfl, a, b, p1 ρ1 H1 Ext.refl ok1 [] H1 _ (fun _ m => by cases m) Ext.refl ok1 (it_range 0 j.toNat)⟩
      · exact p1.elim
    · exact p1.elim)⟩
theorem so_rng2 {C : Cc} {W : WX} {ta : TA} {fA : XA} (ha : SoA C W ta fA) : SoIt C W (iRng2 ta) (xRng2 fA) := ⟨fun {env h ρ σ H R} he hh hp =>
  ha.go he hh ((Pst.bind hp).imp fun ds h1 ρ1 H1 e1 ok1 p1 vs hv => by
    split at p1
    · split at p1
      · rename_i i j hj
        rw [Bool.and_eq_true] at hj
        obtain ⟨v, u, rfl, hv, hu⟩ := two_args hv
        cases hv
        cases hu
        obtain ⟨a, b⟩ := okR_ok hj.1
        obtain ⟨c, d⟩ := okR_ok hj.2
        exact ⟨i, j, rfl, ⟨a, b, c, d⟩, p1 ρ1 H1 Ext.refl ok1 [] H1 _ (fun _ m => by cases m) Ext.refl ok1 (it_range i (j - i).toNat)⟩
      · exact p1.elim
    · exact p1.elim)⟩
theorem fi_rng1 {X : Cx} {W : WX} {tg a : Expr} {ta : TA} {fA : XA} {p pos : Pos} (hm : X.mg "range" = none) (ha : FAs X W [a] ta fA) (hg : Gl X "range" := by rfl) (hs : starEach [a] X.env = [(false, eval a X.env)] := by rfl) : FI X W tg (.Call (.Name "range" p) [a] [] pos) (iRng1 ta) (xRng1 fA) := ⟨pi_range1 hg hm ha.pe hs, so_rng1 ha.so⟩
theorem fi_rng2 {X : Cx} {W : WX} {tg a b : Expr} {ta : TA} {fA : XA} {p pos : Pos} (hm : X.mg "range" = none) (ha : FAs X W [a, b] ta fA) (hg : Gl X "range" := by rfl) (hs : starEach [a, b] X.env = [(false, eval a X.env), (false, eval b X.env)] := by rfl) (hs2 : starEach [b] X.env = [(false, eval b X.env)] := by rfl) :
    FI X W tg (.Call (.Name "range" p) [a, b] [] pos) (iRng2 ta) (xRng2 fA) := ⟨pi_range2 hg hm ha.pe hs hs2, so_rng2 ha.so⟩
end FL

/-! FJ: slices with a step, sorted, dicts, raise, repr. -/
namespace FL
open PySem PySem.Spec PyProof.Rows L2

/-! ### xs[lo:hi:st] of a list -/
def pick3 {α : Type} (xs : List α) (lo hi : Option Int) (st : Int) : List α :=
  (sliceRange (sliceBounds lo hi (some st) xs.length).1 (sliceBounds lo hi (some st) xs.length).2.1 (sliceBounds lo hi (some st) xs.length).2.2).filterMap (xs[·]?)
theorem pick3_val (its : List Value) (lo hi : Option Int) (st : Int) : slicePick its.toArray lo hi (some st) = (pick3 its lo hi st).toArray := by
  unfold slicePick pick3
  simp
theorem filterMap_embs {C : Cc} {ρ : List Addr} {H : Hp} {ds : List D} {vs : List V} (h : Embs C ρ H ds vs) : ∀ l : List Nat, Embs C ρ H (l.filterMap (ds[·]?)) (l.filterMap (vs[·]?))
  | [] => .nil
  | i :: r => by
    rw [List.filterMap_cons, List.filterMap_cons]
    cases e : ds[i]? with
    | none =>
      rw [show vs[i]? = none from List.getElem?_eq_none (emb_get h e)]
      exact filterMap_embs h r
    | some d =>
      obtain ⟨v, e1, hv⟩ := h.get e
      rw [e1]
      exact .cons hv (filterMap_embs h r)
theorem filterMap_vals {vs : List V} {us : List Value} (h : Vals vs us) : ∀ l : List Nat, Vals (l.filterMap (vs[·]?)) (l.filterMap (us[·]?))
  | [] => .nil
  | i :: r => by
    rw [List.filterMap_cons, List.filterMap_cons]
    cases e : vs[i]? with
    | none =>
      rw [h.none_of e]
      exact filterMap_vals h r
    | some v =>
      obtain ⟨u, e1, hv⟩ := h.get e
      rw [e1]
      exact .cons hv (filterMap_vals h r)
theorem sliceRange_len (a b c : Int) : (sliceRange a b c).length = (if c > 0 then (if a < b then (b - a + c - 1) / c else 0) else (if a > b then (a - b - c - 1) / (-c) else 0)).toNat := by
  unfold sliceRange
  simp
def tSl3 (K : PySem.W.Frag) (te : TE) (tl th ts : TO) : TE := fun σ H Q => te σ H fun x H1 => tl σ H1 fun l H2 => th σ H2 fun u H3 => ts σ H3 fun c H4 => ∃ a xs st, x = .ref a ∧ c = some st ∧ st ≠ 0 ∧ SqL K H4 a xs ∧ (pick3 xs l u st).length ≤ sizeLine ∧
  ∀ p, H4 p = none → Q (.ref p) (upd H4 p (.lst (pick3 xs l u st)))
theorem pe_slice3 {X : Cx} {e : Expr} {lo hi st : Option Expr} {te : TE} {tl th ts : TO} {p2 pos : Pos} (he : PE X e te) (hl : PO X lo tl) (hh : PO X hi th) (hs : PO X st ts) (ht : ∀ v r, subscripted (.Slice lo hi st p2) false v r = operate [v, r] (getItem v r)) : PE X (.Subscript e (.Slice lo hi st p2) pos) (tSl3 X.K te tl th ts) := by
  constructor
  intro pins s σ H Q I h
  apply Subscript_
  refine thn (he.run pins s σ H _ I h) ?_
  rintro v s1 ⟨x, H1, I1, r1, q1⟩
  apply wpAny_Slice
  refine thn (hl.run pins s1 σ H1 _ I1 q1) ?_
  rintro vl s2 ⟨l, H2, I2, pl, q2⟩
  refine thn (hh.run pins s2 σ H2 _ I2 q2) ?_
  rintro vu s3 ⟨u, H3, I3, pu, q3⟩
  refine thn (hs.run pins s3 σ H3 _ I3 q3) ?_
  rintro vs s4 ⟨c, H4, I4, pc, a, xs, stp, ex, ec, h0, hx, hz, q⟩
  subst ex ec
  cases r1
  have I5 : Inv X pins σ H4 { s4 with heap := s4.heap.push { cls := .type "slice", data := .fields #[vl, vu, vs] } } := I4.kept (t' := s4.toks) fun b ob z => Heap.get?_push_of_some _ z
  obtain ⟨its, r, hpl, hsz⟩ := I5.list hx
  have hlen := r.length
  refine tail_any (ops := [.ref a, .ref s4.heap.objs.size]) hpl.isList.typeIs (PySem.slot_list_getitem.lookup) ?_ (ht _ _)
  refine wpAny_getItem_list_slice hpl.isList (Heap.IsSliceOf.new _ vl vu vs) pl pu pc (fun z => h0 (Option.some.inj z)) ?_ (by rw [List.size_toArray]; omega)
  rw [pick3_val]
  have ep : pick3 xs l u stp = (sliceRange (sliceBounds l u (some stp) its.length).1 (sliceBounds l u (some stp) its.length).2.1 (sliceBounds l u (some stp) its.length).2.2).filterMap (xs[·]?) := by
    unfold pick3
    rw [hlen]
  refine ⟨.ref _, _, I5.laid (t' := s4.toks) (o := .lst (pick3 xs l u stp)) (fun b ob z => Heap.get?_push_of_some _ z) (Nat.le_refl _) ?_, rfl, q _ (I5.hok.fresh (Nat.le_refl _))⟩
  refine ⟨hz, pick3 its l u stp, 0, ?_, Heap.get?_push_size _ rfl⟩
  rw [ep]
  exact filterMap_vals r _
def xSl3 (f : XE) (lo hi st : XO) : XA := fun env h => (f env h).bind fun d h1 => (lo env h1).bind fun l h2 => (hi env h2).bind fun u h3 => (st env h3).bind fun c h4 => match c, d.lstI h4 with
  | some st, some ds => if st ≠ 0 ∧ (pick3 ds l u st).length ≤ 100000 then .ok (pick3 ds l u st) h4 else .stuck
  | _, _ => .stuck
theorem Embs.pick3 {C : Cc} {ρ : List Addr} {H : Hp} {ds : List D} {vs : List V} (h : Embs C ρ H ds vs) (l u : Option Int) (st : Int) : Embs C ρ H (FL.pick3 ds l u st) (FL.pick3 vs l u st) := by
  unfold FL.pick3
  rw [h.length]
  exact filterMap_embs h _
theorem fsl3 {X : Cx} {W : WX} {e : Expr} {lo hi st : Option Expr} {te : TE} {tl th ts : TO} {f : XE} {fl fh fs : XO} {p2 pos : Pos} (he : FE X W e te f) (hl : FO X W lo tl fl) (hh : FO X W hi th fh) (hs : FO X W st ts fs) (ht : ∀ v r, subscripted (.Slice lo hi st p2) false v r = operate [v, r] (getItem v r) := by exact fun _ _ => rfl) :
    FLs X W (.Subscript e (.Slice lo hi st p2) pos) (tSl3 X.K te tl th ts) (xSl3 f fl fh fs) :=
  ⟨pe_slice3 he.pe hl.po hh.po hs.po ht, ⟨fun {env h ρ σ H Q} en ok hp =>
    he.so.go en ok ((Pst.bind hp).imp fun d h1 ρ1 H1 e1 ok1 p1 v hv =>
      hl.so.go (en.mono e1) ok1 ((Pst.bind p1).imp fun l h2 ρ2 H2 e2 ok2 p2 =>
        hh.so.go ((en.mono e1).mono e2) ok2 ((Pst.bind p2).imp fun u h3 ρ3 H3 e3 ok3 p3 =>
          hs.so.go (((en.mono e1).mono e2).mono e3) ok3 ((Pst.bind p3).imp fun c h4 ρ4 H4 e4 ok4 p4 => by
            split at p4
            · rename_i st ds e
              split at p4
              · rename_i hc
                obtain ⟨a, vs, rfl, q1, q2⟩ := lst_of ok4 (((hv.mono e2).mono e3).mono e4) e
                have q3 := q1.pick3 l u st
                exact ⟨a, vs, st, rfl, rfl, hc.1, q2, by rw [← q3.length]; exact sz_ok hc.2, fun p n => p4 ρ4 H4 Ext.refl ok4 p _ n q3⟩
              · exact p4.elim
            · exact p4.elim))))⟩⟩

/-! ### str.index of one sign -/
def mSIndex : D → List D → Hs → Res D := fun d args h => match d, args with
  | .str a, [.str b] => (match Builtin.Str.occurrences ⟨a.toArray⟩ ⟨b.toArray⟩ 0 a.length 1 with
    | i :: _ => .ok (.int i) h
    | [] => .stuck)
  | _, _ => .stuck
def rSIndex : V → List V → Hp → VK → Prop := fun x xs H Q => ∃ a b i rest, x = .str a ∧ xs = [.str b] ∧ Builtin.Str.occurrences a b 0 a.length 1 = i :: rest ∧ Q (.int (i : Nat)) H
theorem so_sindex {C : Cc} {W : WX} : SoM C W "str" rSIndex mSIndex isStr := ⟨fun {h ρ σ H Q d x ds xs} ok hx hd hp => by
  unfold mSIndex at hp
  split at hp
  · split at hp
    · rename_i a b i r e
      obtain ⟨v, rfl, hv⟩ := one_arg hd
      cases hx
      cases hv
      exact ⟨_, _, i, r, rfl, rfl, by rw [strLen]; exact e, hp ρ H Ext.refl ok _ (.int _)⟩
    · exact hp.elim
  · exact hp.elim, fun {h ρ H d x} ok hx e => by
    unfold isStr at e
    split at e
    · cases hx
      rfl
    · cases e⟩
theorem fsindex {X : Cx} {W : WX} {o e : Expr} {to te : TE} {fo f : XE} {apos cpos : Pos} (ho : FE X W o to fo) (ha : FE X W e te f) (hs : starEach [e] X.env = (false, eval e X.env) :: starEach [] X.env := by rfl) (hbase : attributeBase o "index" X.env (eval o X.env) = eval o X.env := by rfl)
    (hfew : ((backTo cpos (starEach [e] X.env)).all (fun x => !x.1) && (backToKw cpos (keywordEach [] X.env)).all (fun x => x.1.isSome) && decide (([e] : List Expr).length + ([] : List Keyword).length + (if ([] : List Keyword).isEmpty then 0 else 1) < 30)) = true := by rfl)
    (hline : (apos.endLine == cpos.line) = true := by rfl) (hplain : (backTo cpos (starEach [] X.env)).any (·.1) = false := by rfl) : FE X W (.Call (.Attribute o "index" apos) [e] [] cpos) (tBM X.K "str" rSIndex to (tCons te tNil)) (xMeth isStr mSIndex fo (xCons f xNil)) :=
  ⟨pe_bm PySem.F.plainAttrs_str PySem.F.slot_str_index PySem.F.type_str_index mt_sindex ho.pe (pa_cons ha.pe pa_nil hs) hbase hfew hline hs hplain, so_meth so_sindex ho.so (so_cons ha.so so_nil)⟩

/-! ### sorted -/
def insBy {α : Type} (le : α → α → Bool) (x : α) : List α → List α
  | [] => [x]
  | y :: r => if le x y then x :: y :: r else y :: insBy le x r
def sortBy {α : Type} (le : α → α → Bool) : List α → List α
  | [] => []
  | x :: r => insBy le x (sortBy le r)
section
variable {α : Type} {le : α → α → Bool}
theorem insBy_perm (x : α) : ∀ l : List α, (insBy le x l).Perm (x :: l)
  | [] => .refl _
  | y :: r => by
    unfold insBy
    split
    · exact .refl _
    · exact ((insBy_perm x r).cons y).trans (.swap x y r)
theorem sortBy_perm : ∀ l : List α, (sortBy le l).Perm l
  | [] => .refl _
  | x :: r => (insBy_perm x _).trans ((sortBy_perm r).cons x)
theorem insBy_sorted (tot : ∀ a b, le a b = false → le b a = true) (tr : ∀ a b c, le a b = true → le b c = true → le a c = true) (x : α) : ∀ l : List α, l.Pairwise (fun a b => le a b = true) → (insBy le x l).Pairwise (fun a b => le a b = true)
  | [], _ => by
    unfold insBy
    exact List.pairwise_singleton _ _
  | y :: r, h => by
    unfold insBy
    have h' := List.pairwise_cons.mp h
    split
    · rename_i e
      refine List.pairwise_cons.mpr ⟨fun z hz => ?_, h⟩
      rcases List.mem_cons.mp hz with rfl | hz
      · exact e
      · exact tr _ _ _ e (h'.1 z hz)
    · rename_i e
      refine List.pairwise_cons.mpr ⟨fun z hz => ?_, insBy_sorted tot tr x r h'.2⟩
      have hz' := (insBy_perm (le := le) x r).mem_iff.mp hz
      rcases List.mem_cons.mp hz' with rfl | hz'
      · exact tot _ _ (by simpa using e)
      · exact h'.1 z hz'
theorem sortBy_sorted (tot : ∀ a b, le a b = false → le b a = true) (tr : ∀ a b c, le a b = true → le b c = true → le a c = true) : ∀ l : List α, (sortBy le l).Pairwise (fun a b => le a b = true)
  | [] => .nil
  | x :: r => insBy_sorted tot tr x _ (sortBy_sorted tot tr r)
end
def leI (a b : Int) : Bool := decide (a ≤ b)
theorem sortI_eq {ns ns' : List Int} (hp : ns'.Perm ns) (hs : ns'.Pairwise (· ≤ ·)) : ns' = sortBy leI ns := by
  refine List.Perm.eq_of_pairwise (le := fun a b => a ≤ b) (fun x y _ _ h1 h2 => Int.le_antisymm h1 h2) hs ?_ (hp.trans (sortBy_perm ns).symm)
  exact (sortBy_sorted (fun a b h => by
    have z := of_decide_eq_false h
    exact decide_eq_true (by omega)) (fun a b c h1 h2 => by
    have z1 := of_decide_eq_true h1
    have z2 := of_decide_eq_true h2
    exact decide_eq_true (by omega)) ns).imp fun h => of_decide_eq_true h
/-- sorted of a list of ints -/
def gSortI : List D → Hs → Res (List D) := fun ds h => match D.ints ds with
  | some ns => .ok ((sortBy leI ns).map .int) h
  | none => .stuck

theorem so_sortI {C : Cc} {W : WX} : SoFL C W (rSortedI C.K) gSortI := ⟨fun {h ρ σ H Q ds p vs} ok hl hd hp => by
  unfold gSortI at hp
  split at hp
  · rename_i ns e
    obtain ⟨rfl, _⟩ := ints_of e hd
    refine ⟨p, ns, rfl, hl, fun ns' q h1 h2 n => ?_⟩
    rw [sortI_eq h1 h2]
    exact hp ρ H Ext.refl ok q _ n (embs_ints _)
  · exact hp.elim⟩
/-- texts -/
def ltN : List Nat → List Nat → Bool
  | [], [] => false
  | [], _ :: _ => true
  | _ :: _, [] => false
  | a :: r, b :: t => Nat.blt a b || (Nat.beq a b && ltN r t)
theorem ltN_eq : ∀ a b : List Nat, ltN a b = PySem.Spec.ltCps a b
  | [], [] => rfl
  | [], _ :: _ => rfl
  | _ :: _, [] => rfl
  | a :: r, b :: t => by
    unfold ltN PySem.Spec.ltCps
    rw [ltN_eq r t]
    have h1 : Nat.blt a b = decide (a < b) := by
      rw [Bool.eq_iff_iff]
      simp [Nat.blt_eq]
    have h2 : Nat.beq a b = (a == b) := by
      rw [Bool.eq_iff_iff]
      simp [Nat.beq_eq]
    rw [h1, h2]
def leS (a b : List Nat) : Bool := !ltN b a
theorem leS_iff {a b : List Nat} : leS a b = true ↔ a ≤ b := by
  unfold leS
  rw [ltN_eq, PyProof.Rows.ltCps_eq]
  simp
theorem sortS_pw {l : List (List Nat)} : (sortBy leS l).Pairwise (fun a b => leS a b = true) :=
  sortBy_sorted (fun a b h => by
    rw [leS_iff]
    have : ¬ a ≤ b := fun z => by
      rw [leS_iff.mpr z] at h
      cases h
    exact (List.le_total a b).resolve_left this) (fun a b c h1 h2 => by
    rw [leS_iff] at *
    exact List.le_trans h1 h2) l
def D.strs : List D → Option (List (List Nat))
  | [] => some []
  | .str i :: r => (D.strs r).map (i :: ·)
  | _ => none
def mkS (cs : List Nat) : Str := ⟨cs.toArray⟩
theorem strs_of {C : Cc} {ρ : List Addr} {H : Hp} : ∀ {ds : List D} {ns : List (List Nat)} {vs : List V}, D.strs ds = some ns → Embs C ρ H ds vs → vs = (ns.map mkS).map V.str ∧ ds = ns.map .str
  | [], ns, vs, e, h => by
    cases e
    cases h
    exact ⟨rfl, rfl⟩
  | .str i :: r, ns, vs, e, h => by
    unfold D.strs at e
    cases q : D.strs r with
    | none => rw [q] at e; cases e
    | some ms =>
      rw [q] at e
      cases e
      cases h with
      | cons a b =>
        cases a
        obtain ⟨h1, h2⟩ := strs_of q b
        exact ⟨by rw [h1]; rfl, by rw [h2]; rfl⟩
  | .non :: _, _, _, e, _ => by cases e
  | .bl _ :: _, _, _, e, _ => by cases e
  | .int _ :: _, _, _, e, _ => by cases e
  | .ty _ :: _, _, _, e, _ => by cases e
  | .gl _ :: _, _, _, e, _ => by cases e
  | .tup _ :: _, _, _, e, _ => by cases e
  | .rol _ :: _, _, _, e, _ => by cases e
  | .ref _ :: _, _, _, e, _ => by cases e
theorem embs_strs {C : Cc} {ρ : List Addr} {H : Hp} : ∀ ns : List (List Nat), Embs C ρ H (ns.map .str) ((ns.map mkS).map V.str)
  | [] => .nil
  | n :: r => .cons (.str n) (embs_strs r)
theorem risingS_pw : ∀ (l : List Str) (x : Str), PyProof.Rows.risingS x l = true → (∀ y ∈ l, x.cps.toList ≤ y.cps.toList) ∧ l.Pairwise (fun a b => a.cps.toList ≤ b.cps.toList)
  | [], x, _ => ⟨fun _ m => (by cases m), .nil⟩
  | y :: r, x, h => by
    unfold PyProof.Rows.risingS at h
    rw [Bool.and_eq_true, PyProof.Rows.ltCps_eq] at h
    obtain ⟨h1, h2⟩ := h
    obtain ⟨a, b⟩ := risingS_pw r y h2
    have hxy : x.cps.toList ≤ y.cps.toList := by simpa using h1
    refine ⟨fun z hz => ?_, List.pairwise_cons.mpr ⟨a, b⟩⟩
    rcases List.mem_cons.mp hz with rfl | hz
    · exact hxy
    · exact List.le_trans hxy (a z hz)
theorem sortedS_pw {l : List Str} (h : PyProof.Rows.sortedS l = true) : l.Pairwise (fun a b => a.cps.toList ≤ b.cps.toList) := by
  cases l with
  | nil => exact .nil
  | cons x r =>
    obtain ⟨a, b⟩ := risingS_pw r x h
    exact List.pairwise_cons.mpr ⟨a, b⟩
theorem sortS_eq {ns : List (List Nat)} {ss : List Str} (hp : ss.Perm (ns.map mkS)) (hs : PyProof.Rows.sortedS ss = true) : ss = (sortBy leS ns).map mkS := by
  refine List.Perm.eq_of_pairwise (le := fun a b : Str => a.cps.toList ≤ b.cps.toList) (fun x y _ _ h1 h2 => ?_) (sortedS_pw hs) ?_ (hp.trans ((sortBy_perm ns).symm.map mkS))
  · have e := List.le_antisymm h1 h2
    cases x
    cases y
    have e2 := Array.toList_inj.mp e
    exact congrArg Str.mk e2
  · rw [List.pairwise_map]
    exact sortS_pw.imp fun {a b} h => by
      rw [leS_iff] at h
      exact h
def rSortedSA (K : PySem.W.Frag) : List V → Hp → VK → Prop := fun vs H Q => ∃ (a : Addr) (xs : List Str), vs = [V.ref a] ∧ SqL K H a (xs.map V.str) ∧
  ∀ (ys : List Str) (p : Addr), ys.Perm xs → PyProof.Rows.sortedS ys = true → H p = none → Q (.ref p) (upd H p (.lst (ys.map V.str)))
theorem cr_sortedSA {X : Cx} : CallR X (.builtin "sorted") (rSortedSA X.K) := by
  intro pins s σ H vs us Q I r h
  obtain ⟨a, xs, ev, hs, q⟩ := h
  subst ev
  obtain ⟨its, rv, hl, hz⟩ := I.list hs
  rw [Vals.ref1 r]
  have hlen := rv.length
  apply PyProof.Rows.sorted_strsAny hl.isList rv.strs (by rw [← hlen]; exact hz)
  intro out ys h1 h2 h3
  obtain ⟨ep, he'⟩ := PyProof.Rows.sortedAll_at s.heap its out
  have hy : (ys.map V.str).length ≤ sizeLine := by
    rw [List.length_map, h2.length_eq]
    rw [List.length_map] at hz
    exact hz
  refine ⟨.ref _, upd H (s.heap.objs.size + 1) (.lst (ys.map V.str)), ?_, rfl, q ys _ h2 h3 (I.hok.fresh (Nat.le_succ _))⟩
  exact I.laid (t' := s.toks) (fun _ _ => PyProof.Rows.sortedAll_old) (Nat.le_succ _) ⟨hy, out.toList, ep, vals_of_strs h1, he'⟩
def gSortS : List D → Hs → Res (List D) := fun ds h => match D.strs ds with
  | some ns => .ok ((sortBy leS ns).map .str) h
  | none => .stuck
theorem so_sortS {C : Cc} {W : WX} : SoFL C W (rSortedSA C.K) gSortS := ⟨fun {h ρ σ H Q ds p vs} ok hl hd hp => by
  unfold gSortS at hp
  split at hp
  · rename_i ns e
    obtain ⟨rfl, _⟩ := strs_of e hd
    refine ⟨p, ns.map mkS, rfl, hl, fun ys q h1 h2 n => ?_⟩
    rw [sortS_eq h1 h2]
    exact hp ρ H Ext.refl ok q _ n (embs_strs _)
  · exact hp.elim⟩

/-! ### dicts with ints and texts as keys -/
def kEq : KD → KD → Bool
  | .inl a, .inl b => decide (a = b)
  | .inr a, .inr b => natsEq a b
  | _, _ => false
theorem kEq_iff : ∀ a b : KD, kEq a b = decide (keyOf a = keyOf b)
  | .inl a, .inl b => by
    rw [Bool.eq_iff_iff]
    simp [kEq, keyOf]
  | .inr a, .inr b => by
    show natsEq a b = _
    rw [natsEq_iff, Bool.eq_iff_iff]
    simp [keyOf]
  | .inl _, .inr _ => by
    rw [Bool.eq_iff_iff]
    simp [kEq, keyOf]
  | .inr _, .inl _ => by
    rw [Bool.eq_iff_iff]
    simp [kEq, keyOf]
def D.key : D → Option KD
  | .int i => some (.inl i)
  | .str cs => some (.inr cs)
  | _ => none
def lookK (k : KD) : List (KD × D) → Option D
  | [] => none
  | (j, d) :: r => if kEq j k then some d else lookK k r
section
variable {C : Cc} {W : WX} {ρ : List Addr} {H : Hp}
theorem key_of_emb {d : D} {k : KD} {v : V} (hv : Emb C ρ H d v) (e : d.key = some k) : v = kV (keyOf k) := by
  unfold D.key at e
  split at e
  · cases e; cases hv; rfl
  · cases e; cases hv; rfl
  · cases e
theorem look_some {k : KD} : ∀ {kvs : List (KD × D)} {vs : List (Key × V)} {d : D}, EmbK C ρ H kvs vs → lookK k kvs = some d → ∃ v, valV vs (keyOf k) = some v ∧ Emb C ρ H d v
  | [], _, _, _, e => by cases e
  | (j, d') :: r, _, d, h, e => by
    unfold lookK at e
    cases h with
    | cons a b =>
      split at e
      · rename_i q
        cases e
        rw [kEq_iff] at q
        exact ⟨_, valV_pos (of_decide_eq_true q), a⟩
      · rename_i q
        rw [kEq_iff] at q
        rw [valV_neg (by simpa using q)]
        exact look_some b e
theorem look_none {k : KD} : ∀ {kvs : List (KD × D)} {vs : List (Key × V)}, EmbK C ρ H kvs vs → lookK k kvs = none → valV vs (keyOf k) = none
  | [], _, h, _ => by
    cases h
    rfl
  | (j, d') :: r, _, h, e => by
    unfold lookK at e
    cases h with
    | cons a b =>
      split at e
      · cases e
      · rename_i q
        rw [kEq_iff] at q
        rw [valV_neg (by simpa using q)]
        exact look_none b e
theorem EmbK.length {kvs : List (KD × D)} {vs : List (Key × V)} (h : EmbK C ρ H kvs vs) : kvs.length = vs.length := by
  induction h with
  | nil => rfl
  | cons _ _ ih => rw [List.length_cons, List.length_cons, ih]
theorem EmbK.append {a b : List (KD × D)} {vs ws : List (Key × V)} (h : EmbK C ρ H a vs) (h' : EmbK C ρ H b ws) : EmbK C ρ H (a ++ b) (vs ++ ws) := by
  induction h with
  | nil => exact h'
  | cons q _ ih => exact .cons q ih
/-- the values at keys that stand are set in their places -/
def setD (k : KD) (d : D) (kvs : List (KD × D)) : List (KD × D) := kvs.map fun p => if kEq p.1 k then (p.1, d) else p
def putK' (k : KD) (d : D) (kvs : List (KD × D)) : List (KD × D) := if (lookK k kvs).isSome then setD k d kvs else kvs ++ [(k, d)]
theorem EmbK.setD {k : KD} {d : D} {v : V} (hd : Emb C ρ H d v) {kvs : List (KD × D)} {vs : List (Key × V)} (h : EmbK C ρ H kvs vs) : EmbK C ρ H (FL.setD k d kvs) (vs.map fun kv => if kv.1 = keyOf k then (kv.1, v) else kv) := by
  induction h with
  | nil => exact .nil
  | @cons j e w r ws q _ ih =>
    unfold FL.setD
    rw [List.map_cons, List.map_cons]
    by_cases z : kEq j k = true
    · have z' : keyOf j = keyOf k := by
        rw [kEq_iff] at z
        exact of_decide_eq_true z
      rw [if_pos z, if_pos z']
      exact .cons hd ih
    · have z' : ¬ keyOf j = keyOf k := fun y => z (by rw [kEq_iff]; exact decide_eq_true y)
      rw [if_neg z, if_neg z']
      exact .cons q ih
theorem EmbK.put {k : KD} {d : D} {v : V} (hd : Emb C ρ H d v) {kvs : List (KD × D)} {vs : List (Key × V)} (h : EmbK C ρ H kvs vs) : EmbK C ρ H (putK' k d kvs) (putK vs (keyOf k) v) := by
  unfold putK'
  cases e : lookK k kvs with
  | none =>
    rw [putK_new v (look_none h e)]
    exact h.append (.cons hd .nil)
  | some d' =>
    obtain ⟨v', e', _⟩ := look_some h e
    have q : putK vs (keyOf k) v = vs.map fun kv => if kv.1 = keyOf k then (kv.1, v) else kv := by
      unfold putK
      rw [if_pos (by rw [valV_any, e']; rfl)]
    rw [q]
    exact h.setD hd
end
end FL

/-! FK: dicts, raise, repr. -/
namespace FL
open PySem PySem.Spec PyProof.Rows L2

/-- d[k] of a dict with ints and texts as keys -/
def xDGet (fd fk : XE) : XE := fun env h => (fd env h).bind fun d h1 => (fk env h1).bind fun k h2 => match d, k.key with
  | .ref i, some k => (match h2[i]? with
    | some (.dk kvs) => (match lookK k kvs with
      | some x => .ok x h2
      | none => .stuck)
    | _ => .stuck)
  | _, _ => .stuck
theorem so_dget {C : Cc} {W : WX} {td tk : TE} {fd fk : XE} (hd : SoE C W td fd) (hk : SoE C W tk fk) : SoE C W (tDGet td tk) (xDGet fd fk) := ⟨fun {env h ρ σ H Q} he hh hp =>
  hd.go he hh ((Pst.bind hp).imp fun d h1 ρ1 H1 e1 ok1 p1 x hx =>
    hk.go (he.mono e1) ok1 ((Pst.bind p1).imp fun k h2 ρ2 H2 e2 ok2 p2 y hy => by
      split at p2
      · rename_i i kk ek
        split at p2
        · rename_i kvs e
          split at p2
          · rename_i z ez
            cases hx with
            | ref ha =>
              obtain ⟨vs, q1, q2⟩ := ok2.ob _ _ _ (e2.at ha) e
              obtain ⟨v, ev, hv⟩ := look_some q2 ez
              have ey := key_of_emb hy ek
              subst ey
              refine ⟨_, v, rfl, ?_, p2 ρ2 H2 Ext.refl ok2 v hv⟩
              rw [← ev]
              exact DGet.k q1
          · exact p2.elim
        · exact p2.elim
      · exact p2.elim))⟩
theorem fdget {X : Cx} {W : WX} {o i : Expr} {td tk : TE} {fd fk : XE} {pos : Pos} {k : Nat} (hr : Room k X.A) (hd : FE X W o td fd) (hk : FE X W i tk fk) (hs : NoSl i := by exact fun _ _ => rfl) : FE X W (.Subscript o i pos) (tDGet td tk) (xDGet fd fk) :=
  ⟨pe_dget (hu_of hr) hd.pe hk.pe hs, so_dget hd.so hk.so⟩
/-- d.get(k, x) -/
def xDGet2 (fd fk fx : XE) : XE := fun env h => (fd env h).bind fun d h1 => (match d with
  | .ref i => (match h1[i]? with
    | some (.dk _) => Res.ok () h1
    | _ => .stuck)
  | _ => .stuck).bind fun _ h1 => (fk env h1).bind fun k h2 => (fx env h2).bind fun z h3 => match d, k.key with
  | .ref i, some k => (match h3[i]? with
    | some (.dk kvs) => .ok ((lookK k kvs).getD z) h3
    | _ => .stuck)
  | _, _ => .stuck
theorem getD_emb {C : Cc} {ρ : List Addr} {H : Hp} {k : KD} {kvs : List (KD × D)} {vs : List (Key × V)} {d : D} {v : V} (h : EmbK C ρ H kvs vs) (hd : Emb C ρ H d v) : Emb C ρ H ((lookK k kvs).getD d) ((valV vs (keyOf k)).getD v) := by
  cases e : lookK k kvs with
  | none =>
    rw [look_none h e]
    exact hd
  | some x =>
    obtain ⟨w, e1, hw⟩ := look_some h e
    rw [e1]
    exact hw
theorem so_dget2 {C : Cc} {W : WX} {td tk tx : TE} {fd fk fx : XE} (hd : SoE C W td fd) (hk : SoE C W tk fk) (hx : SoE C W tx fx) : SoE C W (tDGet2 td tk tx) (xDGet2 fd fk fx) := ⟨fun {env h ρ σ H Q} he hh hp =>
  hd.go he hh ((Pst.bind hp).imp fun d h1 ρ1 H1 e1 ok1 p1 x hx' => by
    have p1' := Pst.bind p1
    revert p1'
    split
    · rename_i i
      split
      · rename_i kvs e
        intro p1'
        have p1 := p1' ρ1 H1 Ext.refl ok1
        cases hx' with
        | @ref _ a ha =>
          obtain ⟨vs, q1, q2⟩ := ok1.ob _ _ _ ha e
          refine ⟨a, rfl, .inl ⟨vs, .inl q1⟩, hk.go (he.mono e1) ok1 ((Pst.bind p1).imp fun k h2 ρ2 H2 e2 ok2 p2 y hy => ?_)⟩
          refine hx.go ((he.mono e1).mono e2) ok2 ((Pst.bind p2).imp fun z h3 ρ3 H3 e3 ok3 p3 w hw => ?_)
          split at p3
          · rename_i j kk ej ek
            cases ej
            split at p3
            · rename_i kvs' e'
              obtain ⟨vs', r1, r2⟩ := ok3.ob _ _ _ (e3.at (e2.at ha)) e'
              have ey := key_of_emb (hy.mono e3) ek
              subst ey
              exact ⟨_, DGet.k r1, p3 ρ3 H3 Ext.refl ok3 _ (getD_emb r2 hw)⟩
            · exact p3.elim
          · exact p3.elim
      · exact fun p => p.elim
    · exact fun p => p.elim)⟩
theorem fdget2 {X : Cx} {W : WX} {o e f : Expr} {td tk tx : TE} {fd fk fx : XE} {apos cpos : Pos} {k : Nat} (hr : Room k X.A) (hd : FE X W o td fd) (hk : FE X W e tk fk) (hx : FE X W f tx fx) (m : M2 X o "get" apos e f cpos := by exact ⟨rfl, rfl, rfl, rfl⟩) : FE X W (.Call (.Attribute o "get" apos) [e, f] [] cpos) (tDGet2 td tk tx) (xDGet2 fd fk fx) :=
  ⟨pe_dget2 (hu_of hr) hd.pe hk.pe hx.pe m, so_dget2 hd.so hk.so hx.so⟩
/-- {} -/
def xDNew : XE := fun _ h => .ok (.ref h.length) (h ++ [.dk []])
theorem so_dnew {C : Cc} {W : WX} : SoE C W tDNewK xDNew := ⟨fun {env h ρ σ H Q} he hh hp p n => by
  have e2 : Ext ρ (ρ ++ [p]) H (upd H p (.dK [])) := Ext.laid n
  refine hp (ρ ++ [p]) _ e2 (hh.laid n ⟨[], upd_same, .nil⟩) _ (.ref ?_)
  rw [← hh.len, List.getElem?_append_right (Nat.le_refl _)]
  simp⟩
theorem fdnew {X : Cx} {W : WX} {pos : Pos} : FE X W (.Dict [] [] pos) tDNewK xDNew := ⟨pe_dnewK, so_dnew⟩
/-- d[k] = v -/
def sDPutK (fd fk fv : XE) : XS := fun env h => ((fv env h).bind fun v h1 => (fd env h1).bind fun d h2 => (fk env h2).bind fun k h3 => match d, k.key with
  | .ref i, some k => (match h3[i]? with
    | some (.dk kvs) => if kvs.length < 100000 then Res.ok () (h3.set i (.dk (putK' k v kvs))) else .stuck
    | _ => .stuck)
  | _, _ => .stuck).andS env fun _ h4 => .nx env h4
theorem so_dput {C : Cc} {W : WX} {td tk tv : TE} {fd fk fv : XE} (hd : SoE C W td fd) (hk : SoE C W tk fk) (hv : SoE C W tv fv) : SoS C W (sDPut td tk tv) (sDPutK fd fk fv) := ⟨fun {env h ρ σ H Dn} he hh hp =>
  hv.go he hh ((Pst.bind (PsS.andS he hp)).imp fun v h1 ρ1 H1 e1 ok1 p1 x hx =>
    hd.go (he.mono e1) ok1 ((Pst.bind p1).imp fun d h2 ρ2 H2 e2 ok2 p2 y hy =>
      hk.go ((he.mono e1).mono e2) ok2 ((Pst.bind p2).imp fun k h3 ρ3 H3 e3 ok3 p3 z hz => by
        split at p3
        · rename_i i kk ek
          split at p3
          · rename_i kvs e
            split at p3
            · rename_i hl
              cases hy with
              | @ref _ a ha =>
                have ha3 := e3.at ha
                obtain ⟨vs, q1, q2⟩ := ok3.ob _ _ _ ha3 e
                have ez := key_of_emb hz ek
                subst ez
                have ew := Ext.write (o := .dK (putK vs (keyOf kk) x)) ok3 ha3
                have ok4 := ok3.write (b := .dk (putK' kk v kvs)) ha3 ⟨_, upd_same, (q2.put ((hx.mono e2).mono e3)).mono ew⟩
                refine ⟨a, _, rfl, DPut.k q1 (by rw [← q2.length]; exact sz_lt' hl), ?_⟩
                exact p3 ρ3 _ ew ok4 ρ3 σ _ Ext.refl ok4 ((((he.mono e1).mono e2).mono e3).mono ew)
            · exact p3.elim
          · exact p3.elim
        · exact p3.elim)))⟩
theorem fs_dput {X : Cx} {W : WX} {o i e : Expr} {td tk tv : TE} {fd fk fv : XE} {pos' pos : Pos} {k : Nat} (hr : Room k X.A) (hd : FE X W o td fd) (hk : FE X W i tk fk) (hv : FE X W e tv fv) (hs : swapsWith e (some (.Subscript o i pos')) pos.line X.env = pure false := by rfl) :
    FS X W (.Assign [.Subscript o i pos'] e pos) (sDPut td tk tv) (sDPutK fd fk fv) := ⟨ps_dput (hu_of hr) hd.pe hk.pe hv.pe hs, so_dput hd.so hk.so hv.so⟩
/-- a display -/
structure FPs (X : Cx) (W : WX) (pos : Pos) (ks : List (Option Expr)) (vs : List Expr) (trs : List (TE × TE)) (fs : List (XE × XE)) : Prop where
  pp : PPs X pos ks vs trs
  so : fs.length = trs.length ∧ ∀ (i : Nat) (p : XE × XE), fs[i]? = some p → ∃ t : TE × TE, trs[i]? = some t ∧ SoE (cc X) W t.1 p.1 ∧ SoE (cc X) W t.2 p.2
theorem fp_nil {X : Cx} {W : WX} {pos : Pos} : FPs X W pos [] [] [] [] := ⟨pps_nil, rfl, fun i p e => by simp at e⟩
theorem fp_cons {X : Cx} {W : WX} {pos : Pos} {k v : Expr} {ks : List (Option Expr)} {vs : List Expr} {tk tv : TE} {fk fv : XE} {trs : List (TE × TE)} {fs : List (XE × XE)} (hk : FE X W k tk fk) (hv : FE X W v tv fv) (hr : FPs X W pos ks vs trs fs) : FPs X W pos (some k :: ks) (v :: vs) ((tk, tv) :: trs) ((fk, fv) :: fs) :=
  ⟨pps_cons hk.pe hv.pe hr.pp, by rw [List.length_cons, List.length_cons, hr.so.1], fun i p e => by
    cases i with
    | zero => cases e; exact ⟨_, rfl, hk.so, hv.so⟩
    | succ i => exact hr.so.2 i p e⟩
def xPairs : List (XE × XE) → Sl → Hs → Res (List (KD × D))
  | [], _, h => .ok [] h
  | (fk, fv) :: r, env, h => (fk env h).bind fun k h1 => (fv env h1).bind fun v h2 => (xPairs r env h2).bind fun kvs h3 => match k.key with
    | some k => .ok ((k, v) :: kvs) h3
    | none => .stuck
def mergeD (kvs more : List (KD × D)) : List (KD × D) := more.foldl (fun acc kv => putK' kv.1 kv.2 acc) kvs
def xDisp (fs : List (XE × XE)) : XE := fun env h => (xPairs fs env h).bind fun kvs h1 => if kvs.length ≤ 15 then .ok (.ref h1.length) (h1 ++ [.dk (mergeD [] kvs)]) else .stuck
theorem EmbK.merge {C : Cc} {ρ : List Addr} {H : Hp} : ∀ {more : List (KD × D)} {ms : List (Key × V)} {kvs : List (KD × D)} {vs : List (Key × V)}, EmbK C ρ H more ms → EmbK C ρ H kvs vs → EmbK C ρ H (mergeD kvs more) (mergeK vs ms) := by
  intro more
  induction more with
  | nil =>
    intro ms kvs vs h h'
    cases h
    exact h'
  | cons p r ih =>
    intro ms kvs vs h h'
    cases h with
    | @cons k _ _ _ _ a b =>
      have z := ih b (h'.put (k := k) a)
      exact z
theorem so_pairs {C : Cc} {W : WX} : ∀ {fs : List (XE × XE)} {trs : List (TE × TE)}, (fs.length = trs.length ∧ ∀ (i : Nat) (p : XE × XE), fs[i]? = some p → ∃ t : TE × TE, trs[i]? = some t ∧ SoE C W t.1 p.1 ∧ SoE C W t.2 p.2) →
    ∀ {env h ρ σ H R}, EnvOk C ρ H env σ → HeapOk C ρ h H → Pst C W ρ σ H (xPairs fs env h) (fun kvs h' ρ' H' => ∀ vs, EmbK C ρ' H' kvs vs → R (vs.map fun kv => (kV kv.1, kv.2)) H') → tPairs trs σ H R
  | [], [], _, env, h, ρ, σ, H, R, he, hh, hp => hp ρ H Ext.refl hh [] .nil
  | [], _ :: _, hs, _, _, _, _, _, _, _, _, _ => by cases hs.1
  | _ :: _, [], hs, _, _, _, _, _, _, _, _, _ => by cases hs.1
  | (fk, fv) :: r, (tk, tv) :: tr, hs, env, h, ρ, σ, H, R, he, hh, hp => by
    obtain ⟨t, et, hk, hv⟩ := hs.2 0 _ rfl
    cases et
    unfold xPairs at hp
    refine hk.go he hh ((Pst.bind hp).imp fun k h1 ρ1 H1 e1 ok1 p1 x hx => ?_)
    refine hv.go (he.mono e1) ok1 ((Pst.bind p1).imp fun v h2 ρ2 H2 e2 ok2 p2 y hy => ?_)
    refine so_pairs (fs := r) (trs := tr) ⟨Nat.succ.inj hs.1, fun i p e => hs.2 (i + 1) p e⟩ ((he.mono e1).mono e2) ok2 ((Pst.bind p2).imp fun kvs h3 ρ3 H3 e3 ok3 p3 vs hvs => ?_)
    split at p3
    · rename_i kk ek
      have ex := key_of_emb hx ek
      subst ex
      exact p3 ρ3 H3 Ext.refl ok3 _ (.cons (hy.mono e3) hvs)
    · exact p3.elim
theorem so_disp {C : Cc} {W : WX} {fs : List (XE × XE)} {trs : List (TE × TE)} (hs : fs.length = trs.length ∧ ∀ (i : Nat) (p : XE × XE), fs[i]? = some p → ∃ t : TE × TE, trs[i]? = some t ∧ SoE C W t.1 p.1 ∧ SoE C W t.2 p.2) : SoE C W (tDisp trs) (xDisp fs) := ⟨fun {env h ρ σ H Q} he hh hp p n => by
  have ef : Ext ρ ρ H (upd H p (.dK [])) := Ext.fresh n
  have ok0 := hh.fresh (o := .dK []) n
  have hq : Pst C W ρ σ (upd H p (.dK [])) (xPairs fs env h) (fun kvs h1 ρ1 H1 => Ext ρ ρ1 (upd H p (.dK [])) H1 ∧ HeapOk C ρ1 h1 H1 ∧ Pst C W ρ σ H (if kvs.length ≤ 15 then .ok (.ref h1.length) (h1 ++ [.dk (mergeD [] kvs)]) else .stuck) (GV C Q)) := by
    have hp' : Pst C W ρ σ H ((xPairs fs env h).bind fun kvs h1 => if kvs.length ≤ 15 then .ok (.ref h1.length) (h1 ++ [.dk (mergeD [] kvs)]) else .stuck) (GV C Q) := hp
    revert hp'
    cases xPairs fs env h with
    | ok kvs h1 => exact fun z ρ1 H1 e1 ok1 => ⟨e1, ok1, z⟩
    | exc c h1 => exact fun z ρ1 H1 a e1 ok1 hm => z ρ1 H1 a (ef.trans e1) ok1 hm
    | stuck => exact fun z => z
  refine so_pairs hs (he.mono ef) ok0 (hq.imp fun kvs h1 ρ1 H1 _ _ ⟨e1, ok1, p1⟩ vs hv => ?_)
  split at p1
  · rename_i hl
    have hD : H1 p = some (.dK []) := e1.keep p _ upd_same (hh.notin n)
    have nD : p ∉ ρ1 := fun m => by
      have z := e1.new p m (hh.notin n)
      rw [upd_same] at z
      cases z
    refine ⟨hD, vs, rfl, by rw [← hv.length]; exact hl, ?_⟩
    -- the dict is told of from here
    have lo : Low ρ1 (ρ1 ++ [p]) H1 (upd H1 p (.dK (mergeK [] vs))) := ⟨⟨[p], rfl⟩, fun a xs q => by rw [upd_ne (fun z => by subst z; rw [hD] at q; cases q)]; exact q, fun a o u q => by rw [upd_ne (fun z => by subst z; rw [hD] at q; cases q)]; exact q⟩
    have hm := (EmbK.merge (C := C) (kvs := []) (vs := []) hv .nil).low lo
    have e3 : Ext ρ (ρ1 ++ [p]) H (upd H1 p (.dK (mergeK [] vs))) := by
      refine ⟨?_, fun a o q na => ?_, fun a m na => ?_, fun a xs q => ?_, fun a o u q => ?_⟩
      · obtain ⟨l, el⟩ := e1.pre
        exact ⟨l ++ [p], by rw [el, List.append_assoc]⟩
      · rw [upd_ne (ne_of_none q n)]
        exact e1.keep a o (by rw [upd_ne (ne_of_none q n)]; exact q) na
      · rcases List.mem_append.mp m with z | z
        · have w := e1.new a z na
          by_cases y : a = p
          · rw [y]; exact n
          · rwa [upd_ne y] at w
        · rw [List.mem_singleton.mp z]; exact n
      · rw [upd_ne (ne_of_none q n)]
        exact e1.tup a xs (by rw [upd_ne (ne_of_none q n)]; exact q)
      · rw [upd_ne (ne_of_none q n)]
        exact e1.frz a o u (by rw [upd_ne (ne_of_none q n)]; exact q)
    have ok3 : HeapOk C (ρ1 ++ [p]) (h1 ++ [.dk (mergeD [] kvs)]) (upd H1 p (.dK (mergeK [] vs))) := by
      refine ⟨by rw [List.length_append, List.length_append, ok1.len]; rfl, List.nodup_append.mpr ⟨ok1.nd, by simp, fun x hx y hy z => nD (by rw [List.mem_singleton.mp hy] at z; rw [← z]; exact hx)⟩, fun j b o z1 z2 => ?_⟩
      by_cases hj : j < ρ1.length
      · rw [List.getElem?_append_left hj] at z1
        rw [List.getElem?_append_left (by rw [← ok1.len]; exact hj)] at z2
        have hne : b ≠ p := fun z => nD (by rw [← z]; exact List.mem_of_getElem? z1)
        exact (ok1.ob j b o z1 z2).low lo fun u q => by rw [upd_ne hne]; exact q
      · have hl' : j = ρ1.length := by
          have := (List.getElem?_eq_some_iff.mp z1).1
          rw [List.length_append] at this
          simp at this
          omega
        subst hl'
        rw [List.getElem?_append_right (Nat.le_refl _)] at z1
        rw [List.getElem?_append_right (by rw [ok1.len]; exact Nat.le_refl _), ok1.len] at z2
        simp at z1 z2
        subst z1 z2
        exact ⟨_, upd_same, hm⟩
    refine p1 (ρ1 ++ [p]) _ e3 ok3 _ (.ref ?_)
    rw [← ok1.len, List.getElem?_append_right (Nat.le_refl _)]
    simp
  · exact p1.elim⟩

theorem fdisp {X : Cx} {W : WX} {pos : Pos} {ks : List (Option Expr)} {vs : List Expr} {trs : List (TE × TE)} {fs : List (XE × XE)} (h : FPs X W pos ks vs trs fs) (hall : ks.all (·.isSome) = true := by rfl) (hl : ks.length = vs.length := by rfl) (h0 : ks ≠ [] := by exact fun z => by cases z) (h15 : ks.length ≤ 15 := by decide) :
    FE X W (.Dict ks vs pos) (tDisp trs) (xDisp fs) := ⟨pe_disp h.pp hall hl h0 h15, so_disp h.so⟩

/-! ### raise -/
/-- X() of an own class without own __init__ -/
theorem mk_own0 {X : Cx} {Cl : Addr} {bmB : List Value} {B newId initId : String} {x : Str} {p pos : Pos} (F : ExcBaseFacts B newId initId bmB) (q : PySem.W.excIn X.K Cl bmB newId = true) (gC : X.mg x = some (.ref Cl)) (kC : PySem.W.keepIn X.K (.ref Cl) = true) (r : Raises X (.ref Cl)) (hg : Gl X x)
    (hdb : (x == ("__debug__" : Str)) = false) : PMk X (.Call (.Name x p) [] [] pos) (fun _ H Q => Q (.ref Cl) none H) := by
  intro pins s σ H Q I h
  apply wpAny_Call_Name_kw
  apply ld_glob I hg gC _ hdb
  apply PySem.W.callWith_K0 I.kIn kC
  obtain ⟨bm, N, nm, qn, bs, hdct, sn, sub, ab, col, dd, k0, k1, k2, k3, k5, mN, hC, hN, hni, T⟩ := exc_obj I.kIn q
  apply wpAny_call_exc_subT F T hC hN hni _ (by show 0 ≤ sizeLine; exact Nat.zero_le _)
  intro h' e hm
  exact mk_of I hm r h (I.hok.gone hm.new)
def sRaise (c : Str) : XS := fun env h => .exc c env h
structure ExcK (K : PySem.W.Frag) (mg : Str → Option Value) (x : Str) (Cl : Addr) : Prop where
  g : mg x = some (.ref Cl)
  ex : PySem.W.excIn K Cl [.type "ValueError", .type "Exception", .type "BaseException", .type "object"] "ValueError.__new__" = true
  kp : PySem.W.keepIn K (.ref Cl) = true
  su : PySem.W.subIn K (.ref Cl) (.type "BaseException") = some true
  ty : PySem.W.typeIn K (.ref Cl) = some (.type "type")
theorem fs_raise {X : Cx} {W : WX} {x : Str} {Cl : Addr} {p pos pos' : Pos} (hc : X.calm = true) (tk : Takes X W) (E : ExcK X.K X.mg x Cl) (hg : Gl X x := by rfl) (hdb : (x == ("__debug__" : Str)) = false := by decide +kernel) :
    FS X W (.Raise (some (.Call (.Name x p) [] [] pos)) none pos') (fun _ σ H => W (.ref Cl) none σ H) (sRaise x) :=
  ⟨ps_raise hc tk (mk_own0 PySem.F.excBase_ValueError E.ex E.g E.kp (raises_own E.su E.ty) hg hdb), ⟨fun {env h ρ σ H Dn} he hh hp => hp ρ σ H Cl Ext.refl hh he E.g⟩⟩

/-! ### repr -/
mutual
/-- no more signs than that -/
def showMost : PyData → Nat
  | .none => 4
  | .bool _ => 5
  | .int _ => 1921
  | .str x => 10 * x.length + 2
  | .list xs => showMostAll xs + 2
  | .tuple xs => showMostAll xs + 3
  | .dict _ => 0
def showMostAll : List PyData → Nat
  | [] => 0
  | x :: r => showMost x + 2 + showMostAll r
end
theorem listText_le (ts : List Str) : (listText ts).length ≤ piled ts + 2 := by
  cases ts with
  | nil => decide +kernel
  | cons t r =>
    unfold listText
    rw [strLen_append]
    have h := textFrom_length_pos r 1 (("[" : Str) ++ (if (0 : Nat) > 0 then ", " else "" : String) ++ t) (Nat.succ_pos 0)
    have e : ((("[" : Str) ++ (if (0 : Nat) > 0 then ", " else "" : String) ++ t)).length = 1 + t.length := by
      rw [strLen_append, strLen_append]
      rfl
    have e2 : (textFrom 0 "[" (t :: r)).length = (textFrom 1 (("[" : Str) ++ (if (0 : Nat) > 0 then ", " else "" : String) ++ t) r).length := rfl
    have e3 : (("]" : String) : Str).length = 1 := rfl
    rw [e2, h, e, piled_cons, e3]
    omega
theorem tupleText_le (ts : List Str) : (tupleText ts).length ≤ piled ts + 3 := by
  unfold tupleText
  rw [strLen_append, strLen_append]
  have e1 : ((("(" : String) : Str)).length = 1 := rfl
  have e3 : (((if ts.length == 1 then ",)" else ")" : String) : Str)).length ≤ 2 := by split <;> decide
  rw [e1]
  by_cases h : ts = []
  · subst h
    have : (Str.join ", " ([] : List Str)).length = 0 := rfl
    omega
  · have := join_length_add ts h
    omega
mutual
theorem shown_le : ∀ d : PyData, d.canLay0 = true → d.showable = true → d.shown.length ≤ showMost d
  | .none, _, _ => by decide +kernel
  | .bool b, _, _ => by cases b <;> decide +kernel
  | .int i, _, h => by
    unfold PyData.showable at h
    exact PyProof.Rows.int_text_len_1921 (of_decide_eq_true h)
  | .str x, h, _ => by
    unfold PyData.canLay0 PyData.strOk at h
    refine StrLaws.reprText_len x fun c hc => ?_
    have := (Array.all_eq_true_iff_forall_mem.mp h) c (Array.mem_toList_iff.mp hc)
    have := of_decide_eq_true this
    omega
  | .list xs, h, h' => by
    unfold PyData.canLay0 at h
    unfold PyData.showable at h'
    unfold PyData.shown showMost
    have := shownAll_le xs h h'
    have := listText_le (PyData.shownAll xs)
    omega
  | .tuple xs, h, h' => by
    unfold PyData.canLay0 at h
    unfold PyData.showable at h'
    unfold PyData.shown showMost
    have := shownAll_le xs h h'
    have := tupleText_le (PyData.shownAll xs)
    omega
  | .dict _, h, _ => by
    unfold PyData.canLay0 at h
    cases h
theorem shownAll_le : ∀ ds : List PyData, PyData.canLayAll0 ds = true → PyData.showableAll ds = true → piled (PyData.shownAll ds) ≤ showMostAll ds
  | [], _, _ => Nat.le_refl _
  | d :: r, h, h' => by
    unfold PyData.canLayAll0 at h
    unfold PyData.showableAll at h'
    rw [Bool.and_eq_true] at h h'
    unfold PyData.shownAll showMostAll
    rw [piled_cons]
    have := shown_le d h.1 h'.1
    have := shownAll_le r h.2 h'.2
    omega
end
def rRepr (K : PySem.W.Frag) : List V → Hp → VK → Prop := fun xs H Q => ∃ x d, xs = [x] ∧ Dp K H x d ∧ d.canLay0 = true ∧ d.showable = true ∧ d.depth ≤ 60 ∧ d.shown.length ≤ sizeLine ∧ Q (.str d.shown) H
theorem cr_repr {X : Cx} {k : Nat} (hr : Room k X.A) (hgd : X.A.guards = some []) : CallR X (.builtin "repr") (rRepr X.K) := by
  intro pins s σ H xs us Q I r h
  obtain ⟨x, d, ex, hd, hl, hs, hdp, hz, q⟩ := h
  subst ex
  obtain ⟨u, eu, ru⟩ := vals1 r
  subst eu
  obtain ⟨as, rd⟩ := Dp.reads I d x u hd ru
  have fin : ∀ (s' : Shared) (t : Tok), Inv X pins σ H s' → EP X pins σ Q (.str d.shown t) s' := fun s' t J => ⟨.str d.shown, H, J, ⟨t, rfl⟩, q⟩
  have hu := hr.units
  cases rd with
  | none => exact P.repr_of_none (fin _ _ (I.tok _))
  | bool b => exact P.repr_of_bool (fin _ _ (I.tok _))
  | int i t =>
    unfold PyData.showable at hs
    exact P.repr_of_int (of_decide_eq_true hs) (fin _ _ (I.tok _))
  | str x t => exact P.repr_of_str (fin _ _ (I.tok _)) hz
  | list h1 h2 h3 h4 =>
    exact repr_of_reads' (.list h1 h2 h3 h4) hs (PyData.noDict_hsm (PyData.hasDict_of_canLay _ hl)) hgd (by omega) (fun _ _ e => e) (fun h' u' tk hk => fin _ _ (I.kept (t' := tk) hk)) hz
  | tuple h1 h2 h3 h4 =>
    exact repr_of_reads' (.tuple h1 h2 h3 h4) hs (PyData.noDict_hsm (PyData.hasDict_of_canLay _ hl)) hgd (by omega) (fun _ _ e => e) (fun h' u' tk hk => fin _ _ (I.kept (t' := tk) hk)) hz
  | dict h1 h2 h3 h4 h5 =>
    unfold PyData.canLay0 at hl
    cases hl
/-- the text of a datum -/
def reprD (d : PyData) : List Nat := d.shown.cps.toList
def okRepr (d : PyData) : Bool := d.canLay0 && d.showable && decide (d.depth ≤ 60) && decide (showMost d ≤ 16000000)
def gRepr : List D → Hs → Res D := fun args h => match args with
  | [d] => match d.tree h 64 with
    | some p => if okRepr p then .ok (.str (reprD p)) h else .stuck
    | none => .stuck
  | _ => .stuck
theorem repr_fin {C : Cc} {ρ : List Addr} {H : Hp} {p : PyData} (ho : okRepr p = true) : p.canLay0 = true ∧ p.showable = true ∧ p.depth ≤ 60 ∧ p.shown.length ≤ sizeLine ∧ Emb C ρ H (.str (reprD p)) (.str p.shown) := by
  unfold okRepr at ho
  simp only [Bool.and_eq_true, decide_eq_true_eq] at ho
  obtain ⟨⟨⟨h1, h2⟩, h3⟩, h4⟩ := ho
  refine ⟨h1, h2, h3, ?_, ?_⟩
  · have := shown_le p h1 h2
    rw [sizeLine_eq]
    omega
  · have e : (⟨(reprD p).toArray⟩ : Str) = p.shown := by
      unfold reprD
      rw [Array.toArray_toList]
    have q := Emb.str (C := C) (ρ := ρ) (H := H) (reprD p)
    rw [e] at q
    exact q
theorem so_repr {C : Cc} {W : WX} : SoC C W (rRepr C.K) gRepr := ⟨fun {h ρ σ H Q ds xs} ok hd hp => by
  unfold gRepr at hp
  split at hp
  · split at hp
    · split at hp
      · rename_i d p e ho
        obtain ⟨v, rfl, hv⟩ := one_arg hd
        obtain ⟨h1, h2, h3, h4, h5⟩ := repr_fin (C := C) (ρ := ρ) (H := H) ho
        exact ⟨v, p, rfl, tree_ok ok 64 _ _ _ e hv, h1, h2, h3, h4, hp ρ H Ext.refl ok _ h5⟩
      · exact hp.elim
    · exact hp.elim
  · exact hp.elim⟩
/-- of a list made for it -/
def gReprL : List D → Hs → Res D := fun ds h => match (treesBy (D.tree h 63) ds).map PyData.list with
  | some p => if okRepr p then .ok (.str (reprD p)) h else .stuck
  | none => .stuck
theorem so_reprF {C : Cc} {W : WX} : SoF C W (rRepr C.K) gReprL := ⟨fun {h ρ σ H Q ds p vs} ok hl hd hp => by
  unfold gReprL at hp
  split at hp
  · rename_i q e
    split at hp
    · rename_i ho
      obtain ⟨h1, h2, h3, h4, h5⟩ := repr_fin (C := C) (ρ := ρ) (H := H) ho
      cases z : treesBy (D.tree h 63) ds with
      | none => rw [z] at e; cases e
      | some ps =>
        rw [z] at e
        cases e
        exact ⟨_, _, rfl, .lst hl (trees_ok (fun d p v => tree_ok ok 63 d p v) z hd), h1, h2, h3, h4, hp ρ H Ext.refl ok _ h5⟩
    · exact hp.elim
  · exact hp.elim⟩
end FL

/-! FM: comprehensions of two clauses, name = [comprehension]. -/
namespace FL
open PySem PySem.Spec PyProof.Rows L2
theorem flc2 {X : Cx} {W : WX} {elt tg iter tg1 iter1 : Expr} {ifs ifs1 : List Expr} {scope : Scope} {own : List (Str × Nat)} {vs1 : List Nat} {pos : Pos} {wi wi1 : TI} {g g1 : TG} {tt tt1 : TT} {te : TE} {src src1 : XI} {G G1 : D → Sl → Option Sl} {t t1 : XB} {f : XE} (hc : X.calm = true) (hN : X.N.Nodup) (hi : FI X W tg iter wi src) (ok : BlkOk X.N X.env.scope scope own) (hv : ∀ i ∈ vs1, i ∈ own.map (·.2))
    (hg : ∀ s H C cl fp, FG (Blk X scope s H C cl fp) (own.map (·.2)) tg g G) (ht : ∀ s H C cl fp, FTs (Blk X scope s H C cl fp) W0 ifs tt t)
    (hi1 : ∀ s H C cl fp, FI (Blk X scope s H C cl fp) W0 tg1 iter1 wi1 src1) (hg1 : ∀ s H C cl fp, FG (Blk X scope s H C cl fp) vs1 tg1 g1 G1) (ht1 : ∀ s H C cl fp, FTs (Blk X scope s H C cl fp) W0 ifs1 tt1 t1)
    (he : ∀ s H C cl fp, FE (Blk X scope s H C cl fp) W0 elt te f) (hs : ∀ x, foldedSetIterable iter X.env x = pure x := by intro _; rfl) (hs1 : ∀ env x, foldedSetIterable iter1 env x = pure x := by intro _ _; rfl) :
    FLs X W (.ListComp elt [⟨tg, iter, ifs, 0⟩, ⟨tg1, iter1, ifs1, 0⟩] scope pos) (tLc2 wi g tt wi1 g1 tt1 te (own.map (·.2)) vs1) (xLc2 src (own.map (·.2)) vs1 G t src1 G1 t1 f) :=
  ⟨pe_lc2 hc hN hi.pi ok hv (fun s H C cl fp => (hg s H C cl fp).pg) (fun s H C cl fp => (ht s H C cl fp).pt) (fun s H C cl fp => (hi1 s H C cl fp).pi) (fun s H C cl fp => (hg1 s H C cl fp).pg) (fun s H C cl fp => (ht1 s H C cl fp).pt) (fun s H C cl fp => (he s H C cl fp).pe) hs hs1,
    so_lc2 hi.so (hg X.s_0 X.H_0 0 [] []).so (ht X.s_0 X.H_0 0 [] []).so (hi1 X.s_0 X.H_0 0 [] []).so (hg1 X.s_0 X.H_0 0 [] []).so (ht1 X.s_0 X.H_0 0 [] []).so (he X.s_0 X.H_0 0 [] []).so⟩
theorem fs_setLc {X : Cx} {W : WX} {i : Nat} {y : Str} {py : Pos} {elt tg iter : Expr} {ifs : List Expr} {scope : Scope} {own : List (Str × Nat)} {pos spos : Pos} {wi : TI} {g : TG} {tt : TT} {te : TE} {src : XI} {G : D → Sl → Option Sl} {t : XB} {f : XE} (hc : X.calm = true) (hN : X.N.Nodup) (hi : FI X W tg iter wi src) (ok : BlkOk X.N X.env.scope scope own)
    (hg : ∀ s H C cl fp, FG (Blk X scope s H C cl fp) (own.map (·.2)) tg g G) (ht : ∀ s H C cl fp, FTs (Blk X scope s H C cl fp) W0 ifs tt t) (he : ∀ s H C cl fp, FE (Blk X scope s H C cl fp) W0 elt te f) (hy : X.N[i]? = some y := by rfl) (hyl : X.env.scope.names.lookup y = some .local := by rfl) (hk : X.env.scope.kind = .function := by rfl)
    (hl : (py.line == pos.line) = true := by rfl) (ha : (scope.names.any fun (n, k) => n == y && (k == .local || k == .cell)) = false := by decide +kernel) (hs : ∀ x, foldedSetIterable iter X.env x = pure x := by intro _; rfl) :
    FS X W (.Assign [.Name y py] (.ListComp elt [⟨tg, iter, ifs, 0⟩] scope pos) spos) (tAsg (tLc wi g tt te (own.map (·.2))) (gName i)) (sAsg (xNew (xLc src (own.map (·.2)) G t f)) (gSet i)) :=
  ⟨ps_setLc hc hN hy hyl (sw_true hk hyl hl ha) hi.pi ok (fun s H C cl fp => (hg s H C cl fp).pg) (fun s H C cl fp => (ht s H C cl fp).pt) (fun s H C cl fp => (he s H C cl fp).pe) hs,
    so_asg (vs := [i]) (flc (pos := pos) hc hN hi ok hg ht he hs).val.so (so_gname (by simp))⟩
theorem fs_setLc2 {X : Cx} {W : WX} {i : Nat} {y : Str} {py : Pos} {elt tg iter tg1 iter1 : Expr} {ifs ifs1 : List Expr} {scope : Scope} {own : List (Str × Nat)} {vs1 : List Nat} {pos spos : Pos} {wi wi1 : TI} {g g1 : TG} {tt tt1 : TT} {te : TE} {src src1 : XI} {G G1 : D → Sl → Option Sl} {t t1 : XB} {f : XE} (hc : X.calm = true) (hN : X.N.Nodup) (hi : FI X W tg iter wi src) (ok : BlkOk X.N X.env.scope scope own) (hv : ∀ i ∈ vs1, i ∈ own.map (·.2))
    (hg : ∀ s H C cl fp, FG (Blk X scope s H C cl fp) (own.map (·.2)) tg g G) (ht : ∀ s H C cl fp, FTs (Blk X scope s H C cl fp) W0 ifs tt t)
    (hi1 : ∀ s H C cl fp, FI (Blk X scope s H C cl fp) W0 tg1 iter1 wi1 src1) (hg1 : ∀ s H C cl fp, FG (Blk X scope s H C cl fp) vs1 tg1 g1 G1) (ht1 : ∀ s H C cl fp, FTs (Blk X scope s H C cl fp) W0 ifs1 tt1 t1)
    (he : ∀ s H C cl fp, FE (Blk X scope s H C cl fp) W0 elt te f) (hy : X.N[i]? = some y := by rfl) (hyl : X.env.scope.names.lookup y = some .local := by rfl) (hk : X.env.scope.kind = .function := by rfl)
    (hl : (py.line == pos.line) = true := by rfl) (ha : (scope.names.any fun (n, k) => n == y && (k == .local || k == .cell)) = false := by decide +kernel) (hs : ∀ x, foldedSetIterable iter X.env x = pure x := by intro _; rfl) (hs1 : ∀ env x, foldedSetIterable iter1 env x = pure x := by intro _ _; rfl) :
    FS X W (.Assign [.Name y py] (.ListComp elt [⟨tg, iter, ifs, 0⟩, ⟨tg1, iter1, ifs1, 0⟩] scope pos) spos) (tAsg (tLc2 wi g tt wi1 g1 tt1 te (own.map (·.2)) vs1) (gName i)) (sAsg (xNew (xLc2 src (own.map (·.2)) vs1 G t src1 G1 t1 f)) (gSet i)) :=
  ⟨ps_setLc2 hc hN hy hyl (sw_true hk hyl hl ha) hi.pi ok hv (fun s H C cl fp => (hg s H C cl fp).pg) (fun s H C cl fp => (ht s H C cl fp).pt) (fun s H C cl fp => (hi1 s H C cl fp).pi) (fun s H C cl fp => (hg1 s H C cl fp).pg) (fun s H C cl fp => (ht1 s H C cl fp).pt) (fun s H C cl fp => (he s H C cl fp).pe) hs hs1,
    so_asg (vs := [i]) (flc2 (pos := pos) hc hN hi ok hv hg ht hi1 hg1 ht1 he hs hs1).val.so (so_gname (by simp))⟩
end FL

/-! FN: what is known of the program's names. -/
namespace FL
open PySem PySem.Spec PyProof.Rows L2
/-- the name x is a def that computes g -/
structure Kn (P : Program) (w : World) (K : PySem.W.Frag) (mg : Str → Option Value) (base : Heap) (k : Nat) (x : Str) (ps : List Str) (g : Fn) : Prop where
  ex : ∃ f fd, FnS P w K mg base k f fd ps g ∧ mg x = some (.ref f) ∧ PySem.W.keepIn K (.ref f) = true ∧ Binds K fd ps []
theorem takesN {X : Cx} : Takes X W0 := fun _ _ x => by
  obtain ⟨_, _, _, _, _, _, _, _, _, _, _, _, _, _, _, _, z⟩ := x
  exact z.elim
section
variable {X : Cx} {W : WX} {j k : Nat} {ps : List Str} {g : Fn} {x : Str} {p pos : Pos} {e : Expr} {es : List Expr} {t : TA} {fA : XA}
theorem kcall (c : Kn X.prog X.w X.K X.mg X.base j x ps g) (hr : Room k X.A) (hgd : X.A.guards = some []) (tk : Takes X W) (ha : FAs X W (e :: es) t fA) (hjk : j ≤ k := by decide)
    (hg : Gl X x := by rfl) (hdb : (x == ("__debug__" : Str)) = false := by decide +kernel) (he : starEach (e :: es) X.env = (false, eval e X.env) :: starEach es X.env := by rfl) (hpl : (backTo pos (starEach es X.env)).any (·.1) = false := by rfl) :
    FE X W (.Call (.Name x p) (e :: es) [] pos) (tCallF (cc X) W g t) (xCall g fA) := by
  obtain ⟨f, fd, F, hm, hk, hb⟩ := c.ex
  exact fcall F (hr.mono hjk) hgd hm hk hb tk ha hg hdb he hpl
theorem kcallH (c : Kn X.prog X.w X.K X.mg X.base j x ps g) (hr : Room k X.A) (hgd : X.A.guards = some []) (tk : Takes X W) (ha : FAs X W (e :: es) t fA) (hjk : j ≤ k := by decide)
    (hg : Gl X x := by rfl) (hdb : (x == ("__debug__" : Str)) = false := by decide +kernel) (he : starEach (e :: es) X.env = (false, eval e X.env) :: starEach es X.env := by rfl) (hpl : (backTo pos (starEach es X.env)).any (·.1) = false := by rfl) :
    FE X W (.Call (.Name x p) (e :: es) [] pos) (tCallF (cc X) W g t) (xCallH g fA) := by
  obtain ⟨f, fd, F, hm, hk, hb⟩ := c.ex
  exact fcallH F (hr.mono hjk) hgd hm hk hb tk ha hg hdb he hpl
theorem kcall0 (c : Kn X.prog X.w X.K X.mg X.base j x ps g) (hr : Room k X.A) (hgd : X.A.guards = some []) (tk : Takes X W) (hjk : j ≤ k := by decide)
    (hg : Gl X x := by rfl) (hdb : (x == ("__debug__" : Str)) = false := by decide +kernel) : FE X W (.Call (.Name x p) [] [] pos) (tCallF (cc X) W g tNil) (xCall g xNil) := by
  obtain ⟨f, fd, F, hm, hk, hb⟩ := c.ex
  exact fcall0 F (hr.mono hjk) hgd hm hk hb tk hg hdb
theorem kgi {x : Str} {i : Int} {pos : Pos} (h : ∃ t, X.mg x = some (.int i t)) (hg : Gl X x := by rfl) (hd : (x == ("__debug__" : Str)) = false := by decide +kernel) : FE X W (.Name x pos) (tC (.int i)) (xC (.int i)) := by
  obtain ⟨t, h⟩ := h
  exact fgi hg h hd
theorem kgs {x : Str} {cs : List Nat} {pos : Pos} (h : ∃ t, X.mg x = some (.str ⟨cs.toArray⟩ t)) (hg : Gl X x := by rfl) (hd : (x == ("__debug__" : Str)) = false := by decide +kernel) : FE X W (.Name x pos) (tC (.str ⟨cs.toArray⟩)) (xC (.str cs)) := by
  obtain ⟨t, h⟩ := h
  exact fgs cs hg h hd
end
section
variable {P : Program} {w : World} {K : PySem.W.Frag} {mg : Str → Option Value} {base : Heap}
/-- by a body -/
theorem Kn.by_ {x qual : Str} {st : Stmt} {f : Addr} {fd : FuncData} {N ps : List Str} {k np nl : Nat} {b : XS} (F : Fun K x qual st f fd) (m : mg x = some (.ref f)) (hb : Binds K fd ps []) (S : FnScope N ps (defScope st)) (hp : ps.length = np) (hl : N.length - np = nl)
    (body : ∀ (f : Addr) (cdv : Value) (A : Around) (outer : List Env) (s : Shared) (H : Hp) (E : XK), Room k (A.deeper (envOfC qual (defScope st) s.heap.objs.size f cdv)) → A.guards = some [] →
      ∃ t, FSs (cxOf (L2.CX P w) P w K mg base N qual (defScope st) f cdv A outer s H E) (wE E) (defBody st) t b) :
    Kn P w K mg base (k + 1) x ps (fnSem np nl b) := ⟨f, fd, fn_body F S hp hl (body f), m, F.kp, hb⟩
end
theorem tkOf {P : Program} {w : World} {K : PySem.W.Frag} {mg : Str → Option Value} {base : Heap} {N : List Str} {qual : Str} {sc : Scope} {f : Addr} {cdv : Value} {A : Around} {outer : List Env} {s : Shared} {H : Hp} {E : XK} : Takes (cxOf (L2.CX P w) P w K mg base N qual sc f cdv A outer s H E) (wE E) := takes_of rfl rfl rfl rfl
theorem psOf {P : Program} {w : World} {K : PySem.W.Frag} {mg : Str → Option Value} {base : Heap} {N : List Str} {qual : Str} {sc : Scope} {f : Addr} {cdv : Value} {A : Around} {outer : List Env} {s : Shared} {H : Hp} {E : XK} : PassesOwn (model P w) (cxOf (L2.CX P w) P w K mg base N qual sc f cdv A outer s H E).A (cxOf (L2.CX P w) P w K mg base N qual sc f cdv A outer s H E).env (cxOf (L2.CX P w) P w K mg base N qual sc f cdv A outer s H E).xe := passes_of rfl
/-- what the top has written at the name of a def -/
structure Rw (K : PySem.W.Frag) (x : Str) (st : Stmt) : Prop where
  ex : ∃ (f : Addr) (od an : Option Addr) (sl : Array (Option Value)) (oc kV dc pm cd ct : Value), PySem.W.nsIn K mainGlobals x = some (some (.ref f)) ∧
    K.lookup f = some ⟨oc, od, .func (PySem.W.fnOf x x (defArgs st) (defBody st) (defScope st) .none kV dc pm an cd ct), sl⟩ ∧ PySem.W.codeIn K cd x = true ∧ PySem.W.keepIn K (.ref f) = true
theorem mkRw {K : PySem.W.Frag} {x : Str} {st : Stmt} {f : Addr} {od an : Option Addr} {sl : Array (Option Value)} {oc kV dc pm cd ct : Value} (a : PySem.W.nsIn K mainGlobals x = some (some (.ref f)))
    (l : K.lookup f = some ⟨oc, od, .func (PySem.W.fnOf x x (defArgs st) (defBody st) (defScope st) .none kV dc pm an cd ct), sl⟩) (c : PySem.W.codeIn K cd x = true) (k : PySem.W.keepIn K (.ref f) = true) : Rw K x st := ⟨_, _, _, _, _, _, _, _, _, _, a, l, c, k⟩
theorem Rw.fun_ {K : PySem.W.Frag} {x : Str} {st : Stmt} {h : Heap} {mg : Str → Option Value} (r : Rw K x st) (X : K.In h) (G : h.Ns mainGlobals mg) : ∃ f fd, Fun K x x st f fd ∧ mg x = some (.ref f) := by
  obtain ⟨f, od, an, sl, oc, kV, dc, pm, cd, ct, a, l, c, k⟩ := r.ex
  exact ⟨f, _, fun_mk l c k, PySem.W.mg_of X G a⟩
end FL

/-! FM2: comprehensions, the readings of the block's parts as families. -/
namespace FL
open PySem PySem.Spec PyProof.Rows L2
/-- what may name the block -/
abbrev Fam (α : Type) := Shared → Hp → Addr → List (Str × Addr) → List Addr → α
abbrev Fam.at0 {α : Type} (X : Cx) (t : Fam α) : α := t X.s_0 X.H_0 0 [] []
abbrev Fam.Flat {α : Type} (X : Cx) (t : Fam α) : Prop := ∀ s H C cl fp, t s H C cl fp = t.at0 X
section
variable {X : Cx} {W : WX} {i : Nat} {y : Str} {py : Pos} {elt tg iter tg1 iter1 : Expr} {ifs ifs1 : List Expr} {scope : Scope} {own : List (Str × Nat)} {vs1 : List Nat} {pos spos : Pos} {wi : TI} {wi1 : Fam TI} {g g1 : Fam TG} {tt tt1 : Fam TT} {te : Fam TE} {src src1 : XI} {G G1 : D → Sl → Option Sl} {t t1 : XB} {f : XE}
theorem glc (hc : X.calm = true) (hN : X.N.Nodup) (hi : FI X W tg iter wi src) (ok : BlkOk X.N X.env.scope scope own)
    (hg : ∀ s H C cl fp, FG (Blk X scope s H C cl fp) (own.map (·.2)) tg (g s H C cl fp) G) (ht : ∀ s H C cl fp, FTs (Blk X scope s H C cl fp) W0 ifs (tt s H C cl fp) t) (he : ∀ s H C cl fp, FE (Blk X scope s H C cl fp) W0 elt (te s H C cl fp) f)
    (kg : g.Flat X := by intro _ _ _ _ _; rfl) (kt : tt.Flat X := by intro _ _ _ _ _; rfl) (ke : te.Flat X := by intro _ _ _ _ _; rfl) (hs : ∀ x, foldedSetIterable iter X.env x = pure x := by intro _; rfl) :
    FLs X W (.ListComp elt [⟨tg, iter, ifs, 0⟩] scope pos) (tLc wi (g.at0 X) (tt.at0 X) (te.at0 X) (own.map (·.2))) (xLc src (own.map (·.2)) G t f) :=
  flc hc hN hi ok (fun s H C cl fp => kg s H C cl fp ▸ hg s H C cl fp) (fun s H C cl fp => kt s H C cl fp ▸ ht s H C cl fp) (fun s H C cl fp => ke s H C cl fp ▸ he s H C cl fp) hs
theorem gs_setLc (hc : X.calm = true) (hN : X.N.Nodup) (hi : FI X W tg iter wi src) (ok : BlkOk X.N X.env.scope scope own)
    (hg : ∀ s H C cl fp, FG (Blk X scope s H C cl fp) (own.map (·.2)) tg (g s H C cl fp) G) (ht : ∀ s H C cl fp, FTs (Blk X scope s H C cl fp) W0 ifs (tt s H C cl fp) t) (he : ∀ s H C cl fp, FE (Blk X scope s H C cl fp) W0 elt (te s H C cl fp) f)
    (kg : g.Flat X := by intro _ _ _ _ _; rfl) (kt : tt.Flat X := by intro _ _ _ _ _; rfl) (ke : te.Flat X := by intro _ _ _ _ _; rfl)
    (hy : X.N[i]? = some y := by rfl) (hyl : X.env.scope.names.lookup y = some .local := by rfl) (hk : X.env.scope.kind = .function := by rfl)
    (hl : (py.line == pos.line) = true := by rfl) (ha : (scope.names.any fun (n, k) => n == y && (k == .local || k == .cell)) = false := by decide +kernel) (hs : ∀ x, foldedSetIterable iter X.env x = pure x := by intro _; rfl) :
    FS X W (.Assign [.Name y py] (.ListComp elt [⟨tg, iter, ifs, 0⟩] scope pos) spos) (tAsg (tLc wi (g.at0 X) (tt.at0 X) (te.at0 X) (own.map (·.2))) (gName i)) (sAsg (xNew (xLc src (own.map (·.2)) G t f)) (gSet i)) :=
  fs_setLc hc hN hi ok (fun s H C cl fp => kg s H C cl fp ▸ hg s H C cl fp) (fun s H C cl fp => kt s H C cl fp ▸ ht s H C cl fp) (fun s H C cl fp => ke s H C cl fp ▸ he s H C cl fp) hy hyl hk hl ha hs
theorem glc2 (hc : X.calm = true) (hN : X.N.Nodup) (hi : FI X W tg iter wi src) (ok : BlkOk X.N X.env.scope scope own) (hv : ∀ i ∈ vs1, i ∈ own.map (·.2))
    (hg : ∀ s H C cl fp, FG (Blk X scope s H C cl fp) (own.map (·.2)) tg (g s H C cl fp) G) (ht : ∀ s H C cl fp, FTs (Blk X scope s H C cl fp) W0 ifs (tt s H C cl fp) t)
    (hi1 : ∀ s H C cl fp, FI (Blk X scope s H C cl fp) W0 tg1 iter1 (wi1 s H C cl fp) src1) (hg1 : ∀ s H C cl fp, FG (Blk X scope s H C cl fp) vs1 tg1 (g1 s H C cl fp) G1) (ht1 : ∀ s H C cl fp, FTs (Blk X scope s H C cl fp) W0 ifs1 (tt1 s H C cl fp) t1)
    (he : ∀ s H C cl fp, FE (Blk X scope s H C cl fp) W0 elt (te s H C cl fp) f)
    (kg : g.Flat X := by intro _ _ _ _ _; rfl) (kt : tt.Flat X := by intro _ _ _ _ _; rfl) (ki : wi1.Flat X := by intro _ _ _ _ _; rfl) (kg1 : g1.Flat X := by intro _ _ _ _ _; rfl) (kt1 : tt1.Flat X := by intro _ _ _ _ _; rfl) (ke : te.Flat X := by intro _ _ _ _ _; rfl)
    (hs : ∀ x, foldedSetIterable iter X.env x = pure x := by intro _; rfl) (hs1 : ∀ env x, foldedSetIterable iter1 env x = pure x := by intro _ _; rfl) :
    FLs X W (.ListComp elt [⟨tg, iter, ifs, 0⟩, ⟨tg1, iter1, ifs1, 0⟩] scope pos) (tLc2 wi (g.at0 X) (tt.at0 X) (wi1.at0 X) (g1.at0 X) (tt1.at0 X) (te.at0 X) (own.map (·.2)) vs1) (xLc2 src (own.map (·.2)) vs1 G t src1 G1 t1 f) :=
  flc2 hc hN hi ok hv (fun s H C cl fp => kg s H C cl fp ▸ hg s H C cl fp) (fun s H C cl fp => kt s H C cl fp ▸ ht s H C cl fp) (fun s H C cl fp => ki s H C cl fp ▸ hi1 s H C cl fp) (fun s H C cl fp => kg1 s H C cl fp ▸ hg1 s H C cl fp) (fun s H C cl fp => kt1 s H C cl fp ▸ ht1 s H C cl fp) (fun s H C cl fp => ke s H C cl fp ▸ he s H C cl fp) hs hs1
theorem gs_setLc2 (hc : X.calm = true) (hN : X.N.Nodup) (hi : FI X W tg iter wi src) (ok : BlkOk X.N X.env.scope scope own) (hv : ∀ i ∈ vs1, i ∈ own.map (·.2))
    (hg : ∀ s H C cl fp, FG (Blk X scope s H C cl fp) (own.map (·.2)) tg (g s H C cl fp) G) (ht : ∀ s H C cl fp, FTs (Blk X scope s H C cl fp) W0 ifs (tt s H C cl fp) t)
    (hi1 : ∀ s H C cl fp, FI (Blk X scope s H C cl fp) W0 tg1 iter1 (wi1 s H C cl fp) src1) (hg1 : ∀ s H C cl fp, FG (Blk X scope s H C cl fp) vs1 tg1 (g1 s H C cl fp) G1) (ht1 : ∀ s H C cl fp, FTs (Blk X scope s H C cl fp) W0 ifs1 (tt1 s H C cl fp) t1)
    (he : ∀ s H C cl fp, FE (Blk X scope s H C cl fp) W0 elt (te s H C cl fp) f)
    (kg : g.Flat X := by intro _ _ _ _ _; rfl) (kt : tt.Flat X := by intro _ _ _ _ _; rfl) (ki : wi1.Flat X := by intro _ _ _ _ _; rfl) (kg1 : g1.Flat X := by intro _ _ _ _ _; rfl) (kt1 : tt1.Flat X := by intro _ _ _ _ _; rfl) (ke : te.Flat X := by intro _ _ _ _ _; rfl)
    (hy : X.N[i]? = some y := by rfl) (hyl : X.env.scope.names.lookup y = some .local := by rfl) (hk : X.env.scope.kind = .function := by rfl)
    (hl : (py.line == pos.line) = true := by rfl) (ha : (scope.names.any fun (n, k) => n == y && (k == .local || k == .cell)) = false := by decide +kernel)
    (hs : ∀ x, foldedSetIterable iter X.env x = pure x := by intro _; rfl) (hs1 : ∀ env x, foldedSetIterable iter1 env x = pure x := by intro _ _; rfl) :
    FS X W (.Assign [.Name y py] (.ListComp elt [⟨tg, iter, ifs, 0⟩, ⟨tg1, iter1, ifs1, 0⟩] scope pos) spos) (tAsg (tLc2 wi (g.at0 X) (tt.at0 X) (wi1.at0 X) (g1.at0 X) (tt1.at0 X) (te.at0 X) (own.map (·.2)) vs1) (gName i)) (sAsg (xNew (xLc2 src (own.map (·.2)) vs1 G t src1 G1 t1 f)) (gSet i)) :=
  fs_setLc2 hc hN hi ok hv (fun s H C cl fp => kg s H C cl fp ▸ hg s H C cl fp) (fun s H C cl fp => kt s H C cl fp ▸ ht s H C cl fp) (fun s H C cl fp => ki s H C cl fp ▸ hi1 s H C cl fp) (fun s H C cl fp => kg1 s H C cl fp ▸ hg1 s H C cl fp) (fun s H C cl fp => kt1 s H C cl fp ▸ ht1 s H C cl fp) (fun s H C cl fp => ke s H C cl fp ▸ he s H C cl fp) hy hyl hk hl ha hs hs1
end
end FL

/-! FT: heaps kept small. -/
namespace FL
open PySem PySem.Spec PyProof.Rows L2
/-! ### of data without references: over the empty heap -/
def pureEnv (env : Sl) : Sl := env.map fun o => match o with
  | some d => if d.pure then some d else none
  | none => none
theorem EnvOk.pures {C : Cc} {ρ ρ1 : List Addr} {H : Hp} {env : Sl} {σ : L2.St} (he : EnvOk C ρ H env σ) : EnvOk C ρ1 H (pureEnv env) σ := by
  refine ⟨by unfold pureEnv; rw [List.length_map]; exact he.len, fun i d e => ?_⟩
  unfold pureEnv at e
  rw [List.getElem?_map] at e
  cases q : env[i]? with
  | none => rw [q] at e; cases e
  | some o =>
    rw [q] at e
    cases o with
    | none => cases e
    | some d' =>
      have e' : (if d'.pure then some d' else none) = some d := Option.some.inj e
      split at e'
      · rename_i hp
        cases e'
        obtain ⟨v, q1, q2⟩ := he.at_ i d q
        exact ⟨v, q1, q2.pure hp⟩
      · cases e'
def xIso (f : XE) : XE := fun env h => match f (pureEnv env) [] with
  | .ok d _ => if d.pure then .ok d h else .stuck
  | _ => .stuck
theorem so_iso {C : Cc} {W : WX} {te : TE} {f : XE} (s : SoE C W te f) : SoE C W te (xIso f) := ⟨fun {env h ρ σ H Q} he hh hp => by
  refine s.go (ρ := []) he.pures HeapOk.nil ?_
  unfold xIso at hp
  revert hp
  cases f (pureEnv env) [] with
  | ok d h' =>
    intro hp ρ' H' e1 ok1 v hv
    dsimp only at hp
    split at hp
    · rename_i hd
      exact hp ρ H' (ext_nil (C := C) (h1 := h) e1) (heap_nil e1 hh) v (hv.pure hd)
    · exact hp.elim
  | exc c h' => exact fun hp => hp.elim
  | stuck => exact fun hp => hp⟩
theorem fiso {X : Cx} {W : WX} {e : Expr} {te : TE} {f : XE} (h : FE X W e te f) : FE X W e te (xIso f) := ⟨h.pe, so_iso h.so⟩
end FL

/-! FU: the hand: what a law draws from. -/
namespace FL
open PySem PySem.Spec PyProof.Rows L2
/-- the drawing, by its constants -/
def bDraw (mix : XE) (c1 a4 m4 : Int) : XS := (sSeq (sIf (xAndB (xTest (xOp dEq (xOp gIx (xVar 0) (xC (.int (2)))) (xC (.int (0))))) (xTest (xOp dLt (xOp gIx (xVar 0) (xC (.int (1)))) (xB gLen (xCons (xOp gIx (xVar 0) (xC (.int (0)))) xNil))))) (sSeq (sAsg (xOp gIx (xOp gIx (xVar 0) (xC (.int (0)))) (xOp gIx (xVar 0) (xC (.int (1))))) (gSet 2))
  (sSeq (sSetIx (xOp dAdd (xOp gIx (xVar 0) (xC (.int (1)))) (xC (.int (1)))) (xVar 0) (xC (.int (1))))
  (sSeq (sSetIx (xOp dMod (xB gInt (xCons mix xNil)) (xC (.int (2147483629)))) (xVar 0) (xC (.int (3))))
  (sIf (xTest (xOp dGe (xVar 2) (xOp dPow (xC (.int (10))) (xC (.int (18)))))) (sSetIx (xVar 2) (xVar 0) (xC (.int (2)))) sNext)))) sNext)
  (sSeq (sIf (xTest (xOp dGt (xOp gIx (xVar 0) (xC (.int (2)))) (xC (.int (0))))) (sSeq (sAsg (xOp dMod (xB gInt (xCons (xOp gIx (xVar 0) (xC (.int (2)))) xNil)) (xVar 1)) (gSet 3))
  (sSeq (sSetIx (xOp dDiv (xOp gIx (xVar 0) (xC (.int (2)))) (xVar 1)) (xVar 0) (xC (.int (2))))
  (sRet (xVar 3)))) sNext)
  (sSeq (sSetIx (xOp dAdd (xOp gIx (xVar 0) (xC (.int (4)))) (xC (.int (1)))) (xVar 0) (xC (.int (4))))
  (sSeq (sAsg (xOp dMod (xB gInt (xCons (xOp dMulI (xB gInt (xCons (xOp dAdd (xOp gIx (xVar 0) (xC (.int (3)))) (xOp dMulI (xC (.int (7919))) (xOp gIx (xVar 0) (xC (.int (4)))))) xNil)) (xC (.int c1))) xNil)) (xC (.int (2147483647)))) (gSet 4))
  (sSeq (sAsg (xOp dMod (xB gInt (xCons (xOp dMulI (xVar 4) (xOp dAdd (xOp dDiv (xVar 4) (xC (.int (1009)))) (xC (.int (69621))))) xNil)) (xC (.int (2147483647)))) (gSet 4))
  (sSeq (sAsg (xOp dMod (xB gInt (xCons (xOp dMulI (xVar 4) (xOp dAdd (xOp dDiv (xVar 4) (xC (.int (2003)))) (xC (.int a4)))) xNil)) (xC (.int m4))) (gSet 4))
  (sRet (xOp dMod (xB gInt (xCons (xOp dDiv (xVar 4) (xC (.int (16)))) xNil)) (xVar 1)))))))))
def mixA (k : Int) : XE := xOp dAdd (xOp dAdd (xOp dMulI (xOp gIx (xVar 0) (xC (.int (3)))) (xC (.int (69621)))) (xVar 2)) (xC (.int k))
def mixM (m k : Int) : XE := xOp dAdd (xOp dAdd (xOp dMulI (xOp gIx (xVar 0) (xC (.int (3)))) (xC (.int (69621)))) (xOp dMulI (xVar 2) (xC (.int m)))) (xC (.int k))
abbrev hnd (ci : Nat) (p q r c : Int) : List D := [.ref ci, .int p, .int q, .int r, .int c]
/-- numbers that a product bears -/
def Big (z : Int) : Prop := 0 ≤ z ∧ z.natAbs.log2 ≤ 2000000
theorem Big.of {z : Int} (h : 0 ≤ z) (h2 : z < 18446744073709551616) : Big z := ⟨h, by
  by_cases e : z.natAbs = 0
  · rw [e]; decide
  · have : z.natAbs.log2 < 64 := (Nat.log2_lt e).mpr (by omega)
    omega⟩
theorem Big.div {z m : Int} (h : Big z) (hm : 0 < m) : Big (z / m) := by
  obtain ⟨h0, h1⟩ := h
  refine ⟨Int.ediv_nonneg h0 (by omega), ?_⟩
  have e : (z / m).natAbs ≤ z.natAbs := by
    have := Int.ediv_le_self m h0
    have := Int.ediv_nonneg h0 (Int.le_of_lt hm)
    omega
  by_cases z0 : (z / m).natAbs = 0
  · rw [z0]; show Nat.log2 0 ≤ _; decide
  · have hz : z.natAbs ≠ 0 := by omega
    exact Nat.le_trans ((Nat.le_log2 hz).mpr (Nat.le_trans (Nat.log2_self_le z0) e)) h1
theorem fits_small {i j : Int} (h1 : 0 ≤ i) (h2 : i < 18446744073709551616) (h3 : 0 ≤ j) (h4 : j < 18446744073709551616) : mulFits i j = true := by
  unfold mulFits
  rw [Bool.or_eq_true, Bool.and_eq_true]
  exact .inl ⟨decide_eq_true (by omega), decide_eq_true (by omega)⟩
theorem Big.fits {i j : Int} (h : Big i) (h3 : Big j) : mulFits i j = true := by
  unfold mulFits
  rw [Bool.or_eq_true]
  have := h.2
  have := h3.2
  exact .inr (decide_eq_true (by omega))
/-- the hand at hi, after at most n draws -/
structure Hand (h : Hs) (hi : Nat) (n : Nat) (p q r c : Int) (ci : Nat) (cells : List Int) : Prop where
  at_ : h[hi]? = some (.lst (hnd ci p q r c))
  ne : ci ≠ hi
  cs : h[ci]? = some (.lst (cells.map .int))
  big : ∀ z ∈ cells, Big z
  p0 : 0 ≤ p
  q0 : Big q
  r0 : 0 ≤ r
  r1 : r < 4294967296
  c0 : 0 ≤ c
  c1 : c ≤ n
def IsHand (h : Hs) (hi n : Nat) : Prop := ∃ p q r c ci cells, Hand h hi n p q r c ci cells
theorem lt_of_get {α : Type} {l : List α} {i : Nat} {a : α} (h : l[i]? = some a) : i < l.length := (List.getElem?_eq_some_iff.mp h).1
/-- from behind the first part -/
def bDraw2 (c1 a4 m4 : Int) : XS := (sSeq (sIf (xTest (xOp dGt (xOp gIx (xVar 0) (xC (.int (2)))) (xC (.int (0))))) (sSeq (sAsg (xOp dMod (xB gInt (xCons (xOp gIx (xVar 0) (xC (.int (2)))) xNil)) (xVar 1)) (gSet 3))
  (sSeq (sSetIx (xOp dDiv (xOp gIx (xVar 0) (xC (.int (2)))) (xVar 1)) (xVar 0) (xC (.int (2))))
  (sRet (xVar 3)))) sNext)
  (sSeq (sSetIx (xOp dAdd (xOp gIx (xVar 0) (xC (.int (4)))) (xC (.int (1)))) (xVar 0) (xC (.int (4))))
  (sSeq (sAsg (xOp dMod (xB gInt (xCons (xOp dMulI (xB gInt (xCons (xOp dAdd (xOp gIx (xVar 0) (xC (.int (3)))) (xOp dMulI (xC (.int (7919))) (xOp gIx (xVar 0) (xC (.int (4)))))) xNil)) (xC (.int c1))) xNil)) (xC (.int (2147483647)))) (gSet 4))
  (sSeq (sAsg (xOp dMod (xB gInt (xCons (xOp dMulI (xVar 4) (xOp dAdd (xOp dDiv (xVar 4) (xC (.int (1009)))) (xC (.int (69621))))) xNil)) (xC (.int (2147483647)))) (gSet 4))
  (sSeq (sAsg (xOp dMod (xB gInt (xCons (xOp dMulI (xVar 4) (xOp dAdd (xOp dDiv (xVar 4) (xC (.int (2003)))) (xC (.int a4)))) xNil)) (xC (.int m4))) (gSet 4))
  (sRet (xOp dMod (xB gInt (xCons (xOp dDiv (xVar 4) (xC (.int (16)))) xNil)) (xVar 1))))))))
theorem draw2 {h : Hs} {hi n ci : Nat} {p q r c : Int} {cells : List Int} {c1 a4 m4 many : Int} {x2 x3 x4 : Option D} (hh : Hand h hi n p q r c ci cells) (hn : n < 1000000) (hm : 0 < many) (hm2 : many < 1000000) (hc : 0 ≤ c1) (hc2 : c1 < 1000000) (ha : 0 ≤ a4) (ha2 : a4 < 1000000) (h4 : 0 < m4) (h42 : m4 < 4294967296) :
    ∃ z o, bDraw2 c1 a4 m4 [some (.ref hi), some (.int many), x2, x3, x4] h = .rt (.int z) (h.set hi o) ∧ 0 ≤ z ∧ z < many ∧ IsHand (h.set hi o) hi (n + 1) := by
  have hl := lt_of_get hh.at_
  have hne : ∀ o : Ob, (h.set hi o)[ci]? = some (.lst (cells.map .int)) := fun o => by
    rw [List.getElem?_set_ne (fun e => hh.ne e.symm)]
    exact hh.cs
  have hat : ∀ o : Ob, (h.set hi o)[hi]? = some o := fun o => List.getElem?_set_self hl
  have g : ∀ (k : Int) (d : D), atI (hnd ci p q r c) k = some d → gIx (.ref hi) (.int k) h = .ok d h := fun k d e => by
    unfold gIx D.seq
    simp only [hh.at_, e]
  have dv : divFits many = true := by
    unfold divFits
    rw [Bool.and_eq_true, Bool.or_eq_true]
    exact ⟨decide_eq_true hm, .inl (decide_eq_true (by omega))⟩
  by_cases hq : 0 < q
  · refine ⟨q % many, .lst (hnd ci p (q / many) r c), ?_, Int.emod_nonneg _ (by omega), Int.emod_lt_of_pos _ hm, p, q / many, r, c, ci, cells, hat _, hh.ne, hne _, hh.big, hh.p0, hh.q0.div hm, hh.r0, hh.r1, hh.c0, by have := hh.c1; omega⟩
    simp [bDraw2, sSeq, sIf, xTest, xOp, xVar, xC, Res.bind, g 2 (.int q) rfl, dGt, dI0, Res.andS, hq, SRes.seq, sAsg, xB, xCons, xNil, gInt, dMod, dI, hm, gSet, sSetIx, dDiv, dv, hh.at_, ixN, sRet]
  · have q0 : q = 0 := by have := hh.q0.1; omega
    have := hh.c0
    have := hh.c1
    have := hh.r0
    have := hh.r1
    have f1 : mulFits 7919 (c + 1) = true := fits_small (by omega) (by omega) (by omega) (by omega)
    have f2 : mulFits (r + 7919 * (c + 1)) c1 = true := fits_small (by omega) (by omega) hc (by omega)
    generalize hw : h.set hi (.lst (hnd ci p q r (c + 1))) = h2
    have at2 : h2[hi]? = some (.lst (hnd ci p q r (c + 1))) := by rw [← hw]; exact hat _
    have g2 : ∀ (k : Int) (d : D), atI (hnd ci p q r (c + 1)) k = some d → gIx (.ref hi) (.int k) h2 = .ok d h2 := fun k d e => by
      unfold gIx D.seq
      simp only [at2, e]
    generalize hA : (r + 7919 * (c + 1)) * c1 % 2147483647 = A
    have a0 : 0 ≤ A := by rw [← hA]; exact Int.emod_nonneg _ (by decide)
    have a1 : A < 2147483647 := by rw [← hA]; exact Int.emod_lt_of_pos _ (by decide)
    have f3 : mulFits A (A / 1009 + 69621) = true := fits_small (by omega) (by omega) (by omega) (by omega)
    generalize hB : A * (A / 1009 + 69621) % 2147483647 = B
    have b0 : 0 ≤ B := by rw [← hB]; exact Int.emod_nonneg _ (by decide)
    have b1 : B < 2147483647 := by rw [← hB]; exact Int.emod_lt_of_pos _ (by decide)
    have f4 : mulFits B (B / 2003 + a4) = true := fits_small (by omega) (by omega) (by omega) (by omega)
    generalize hC : B * (B / 2003 + a4) % m4 = E
    refine ⟨E / 16 % many, .lst (hnd ci p q r (c + 1)), ?_, Int.emod_nonneg _ (by omega), Int.emod_lt_of_pos _ hm, p, q, r, c + 1, ci, cells, hat _, hh.ne, hne _, hh.big, hh.p0, hh.q0, hh.r0, hh.r1, by omega, by omega⟩
    have d1 : divFits 1009 = true := by decide +kernel
    have d2 : divFits 2003 = true := by decide +kernel
    have d3 : divFits 16 = true := by decide +kernel
    rw [hw]
    simp [bDraw2, sSeq, sIf, xTest, xOp, xVar, xC, Res.bind, g 2 (.int q) rfl, g 4 (.int c) rfl, dGt, dI0, Res.andS, hq, sNext, SRes.seq, sAsg, xB, xCons, xNil, gInt, dMod, dI, hm, gSet, sSetIx, dDiv, dAdd, dMulI, f1, f2, d1, d2, d3, hA, f3, hB, f4, hC, h4, hh.at_, hw, ixN, sRet, g2 3 (.int r) rfl, g2 4 (.int (c + 1)) rfl]
structure MixOk (mix : XE) : Prop where
  go : ∀ {env h hi ci p q r c cell}, env[0]? = some (some (.ref hi)) → env[2]? = some (some (.int cell)) → h[hi]? = some (.lst (hnd ci p q r c)) → 0 ≤ r → r < 4294967296 → Big cell → ∃ z, mix env h = .ok (.int z) h
theorem mixA_ok {k : Int} : MixOk (mixA k) := ⟨fun {env h hi ci p q r c cell} h1 h2 h3 h4 h5 h6 => by
  have g : gIx (.ref hi) (.int 3) h = .ok (.int r) h := by
    unfold gIx D.seq
    simp only [h3]
    rfl
  have f1 : mulFits r 69621 = true := fits_small (by omega) (by omega) (by omega) (by omega)
  exact ⟨r * 69621 + cell + k, by simp [mixA, xOp, xVar, h1, h2, Res.bind, xC, g, dMulI, dI, f1, dAdd]⟩⟩
theorem mixM_ok {m k : Int} (hm : 0 ≤ m) (hm2 : m < 1000000) : MixOk (mixM m k) := ⟨fun {env h hi ci p q r c cell} h1 h2 h3 h4 h5 h6 => by
  have g : gIx (.ref hi) (.int 3) h = .ok (.int r) h := by
    unfold gIx D.seq
    simp only [h3]
    rfl
  have f1 : mulFits r 69621 = true := fits_small (by omega) (by omega) (by omega) (by omega)
  have f2 : mulFits cell m = true := h6.fits (.of hm (by omega))
  exact ⟨r * 69621 + cell * m + k, by simp [mixM, xOp, xVar, h1, h2, Res.bind, xC, g, dMulI, dI, f1, f2, dAdd]⟩⟩
theorem set_same {α : Type} : ∀ {l : List α} {i : Nat} {a : α}, l[i]? = some a → l = l.set i a
  | [], _, _, h => by simp at h
  | x :: r, 0, a, h => by
    have e : x = a := Option.some.inj h
    rw [e]
    rfl
  | x :: r, i + 1, a, h => by
    show x :: r = x :: r.set i a
    rw [← set_same (l := r) (i := i) h]
theorem draw_ok {mix : XE} {h : Hs} {hi n : Nat} {c1 a4 m4 many : Int} (hx : MixOk mix) (hh : IsHand h hi n) (hn : n < 1000000) (hm : 0 < many) (hm2 : many < 1000000) (hc : 0 ≤ c1) (hc2 : c1 < 1000000) (ha : 0 ≤ a4) (ha2 : a4 < 1000000) (h4 : 0 < m4) (h42 : m4 < 4294967296) :
    ∃ z o, fnSem 2 3 (bDraw mix c1 a4 m4) [.ref hi, .int many] h = .ok (.int z) (h.set hi o) ∧ 0 ≤ z ∧ z < many ∧ IsHand (h.set hi o) hi (n + 1) := by
  obtain ⟨p, q, r, c, ci, cells, hh⟩ := hh
  have hl := lt_of_get hh.at_
  have g : ∀ (k : Int) (d : D), atI (hnd ci p q r c) k = some d → gIx (.ref hi) (.int k) h = .ok d h := fun k d e => by
    unfold gIx D.seq
    simp only [hh.at_, e]
  have gl : gLen [.ref ci] h = .ok (.int cells.length) h := by
    unfold gLen D.seq
    simp only [hh.cs, List.length_map]
  have eq0 : dEq (.int q) (.int 0) h = .ok (.bl (decide (q = 0))) h := by
    unfold dEq dEqv
    rfl
  have fin : ∀ {h1 : Hs} {e2 : Option D} {p' q' r' : Int}, (∃ o, h1 = h.set hi o) → Hand h1 hi n p' q' r' c ci cells →
      ((sIf (xAndB (xTest (xOp dEq (xOp gIx (xVar 0) (xC (.int (2)))) (xC (.int (0))))) (xTest (xOp dLt (xOp gIx (xVar 0) (xC (.int (1)))) (xB gLen (xCons (xOp gIx (xVar 0) (xC (.int (0)))) xNil))))) (sSeq (sAsg (xOp gIx (xOp gIx (xVar 0) (xC (.int (0)))) (xOp gIx (xVar 0) (xC (.int (1))))) (gSet 2))
  (sSeq (sSetIx (xOp dAdd (xOp gIx (xVar 0) (xC (.int (1)))) (xC (.int (1)))) (xVar 0) (xC (.int (1))))
  (sSeq (sSetIx (xOp dMod (xB gInt (xCons mix xNil)) (xC (.int (2147483629)))) (xVar 0) (xC (.int (3))))
  (sIf (xTest (xOp dGe (xVar 2) (xOp dPow (xC (.int (10))) (xC (.int (18)))))) (sSetIx (xVar 2) (xVar 0) (xC (.int (2)))) sNext)))) sNext) [some (.ref hi), some (.int many), none, none, none] h = .nx [some (.ref hi), some (.int many), e2, none, none] h1) →
      ∃ z o, fnSem 2 3 (bDraw mix c1 a4 m4) [.ref hi, .int many] h = .ok (.int z) (h.set hi o) ∧ 0 ≤ z ∧ z < many ∧ IsHand (h.set hi o) hi (n + 1) := fun {h1 e2 p' q' r'} ho k1 k2 => by
    obtain ⟨o1, ho⟩ := ho
    obtain ⟨z, o, w1, w2, w3, w4⟩ := draw2 (x2 := e2) (x3 := none) (x4 := none) k1 hn hm hm2 hc hc2 ha ha2 h4 h42
    have es : h1.set hi o = h.set hi o := by rw [ho, List.set_set]
    rw [es] at w1 w4
    refine ⟨z, o, ?_, w2, w3, w4⟩
    show retOf (SRes.seq ((sIf _ _ _) [some (.ref hi), some (.int many), none, none, none] h) (bDraw2 c1 a4 m4)) = _
    rw [k2]
    unfold SRes.seq
    dsimp only
    rw [w1]
    rfl
  by_cases hq : q = 0
  · subst hq
    by_cases hp : p < cells.length
    · have hp0 := hh.p0
      have hpn : p.toNat < cells.length := by omega
      generalize hcell : cells[p.toNat] = cell
      have hbig : Big cell := hh.big _ (by rw [← hcell]; exact List.getElem_mem hpn)
      have gc : gIx (.ref ci) (.int p) h = .ok (.int cell) h := by
        have e : atI (cells.map D.int) p = some (.int cell) := by
          unfold atI ixN
          rw [List.length_map, if_pos hp0, if_pos hp, Option.bind_some, List.getElem?_map, List.getElem?_eq_getElem hpn, hcell]
          rfl
        unfold gIx D.seq
        simp only [hh.cs, e]
      generalize hw : h.set hi (.lst (hnd ci (p + 1) 0 r c)) = h2
      have at2 : h2[hi]? = some (.lst (hnd ci (p + 1) 0 r c)) := by rw [← hw]; exact List.getElem?_set_self hl
      have hl2 : hi < h2.length := lt_of_get at2
      obtain ⟨mz, hmz⟩ := hx.go (env := [some (.ref hi), some (.int many), some (.int cell), none, none]) (h := h2) (cell := cell) rfl rfl at2 hh.r0 hh.r1 hbig
      generalize hR : mz % 2147483629 = R
      have r0 : 0 ≤ R := by rw [← hR]; exact Int.emod_nonneg _ (by decide)
      have r1 : R < 2147483629 := by rw [← hR]; exact Int.emod_lt_of_pos _ (by decide)
      generalize hw3 : h2.set hi (.lst (hnd ci (p + 1) 0 R c)) = h3
      have at3 : h3[hi]? = some (.lst (hnd ci (p + 1) 0 R c)) := by rw [← hw3]; exact List.getElem?_set_self hl2
      have hl3 : hi < h3.length := lt_of_get at3
      have pf : powFits 10 18 = true := by decide +kernel
      have cs3 : h3[ci]? = some (.lst (cells.map .int)) := by
        rw [← hw3, List.getElem?_set_ne (fun e => hh.ne e.symm), ← hw, List.getElem?_set_ne (fun e => hh.ne e.symm)]
        exact hh.cs
      by_cases hb : (1000000000000000000 : Int) ≤ cell
      · refine fin (h1 := h3.set hi (.lst (hnd ci (p + 1) cell R c))) (e2 := some (.int cell)) ⟨.lst (hnd ci (p + 1) cell R c), ?_⟩ ⟨List.getElem?_set_self hl3, hh.ne, ?_, hh.big, by omega, hbig, r0, by omega, hh.c0, hh.c1⟩ ?_
        · rw [← hw3, ← hw, List.set_set, List.set_set]
        · rw [List.getElem?_set_ne (fun e => hh.ne e.symm)]
          exact cs3
        · simp [sSeq, sIf, xAndB, xTest, xOp, xVar, xC, Res.bind, g 2 (.int 0) rfl, g 1 (.int p) rfl, g 0 (.ref ci) rfl, eq0, dLt, dI0, Res.andS, xB, xCons, xNil, gl, hp, SRes.seq, sAsg, gc, gSet, sSetIx, dAdd, hh.at_, ixN, hw, hmz, gInt, dMod, dI, hR, at2, hw3, dGe, dPow, pf, hb, at3]
      · refine fin (h1 := h3) (e2 := some (.int cell)) ⟨.lst (hnd ci (p + 1) 0 R c), ?_⟩ ⟨at3, hh.ne, cs3, hh.big, by omega, hh.q0, r0, by omega, hh.c0, hh.c1⟩ ?_
        · rw [← hw3, ← hw, List.set_set]
        · simp [sSeq, sIf, xAndB, xTest, xOp, xVar, xC, Res.bind, g 2 (.int 0) rfl, g 1 (.int p) rfl, g 0 (.ref ci) rfl, eq0, dLt, dI0, Res.andS, xB, xCons, xNil, gl, hp, SRes.seq, sAsg, gc, gSet, sSetIx, dAdd, hh.at_, ixN, hw, hmz, gInt, dMod, dI, hR, at2, hw3, dGe, dPow, pf, hb, at3, sNext]
    · refine fin (h1 := h) (e2 := none) ⟨.lst (hnd ci p 0 r c), ?_⟩ hh ?_
      · exact set_same hh.at_
      · simp [sSeq, sIf, xAndB, xTest, xOp, xVar, xC, Res.bind, g 2 (.int 0) rfl, g 1 (.int p) rfl, g 0 (.ref ci) rfl, eq0, dLt, dI0, Res.andS, xB, xCons, xNil, gl, hp, sNext]
  · refine fin (h1 := h) (e2 := none) ⟨.lst (hnd ci p q r c), ?_⟩ hh ?_
    · exact set_same hh.at_
    · simp [sSeq, sIf, xAndB, xTest, xOp, xVar, xC, Res.bind, g 2 (.int q) rfl, eq0, hq, Res.andS, sNext]
end FL

/-! FV: the hand is made. -/
namespace FL
open PySem PySem.Spec PyProof.Rows L2
theorem lcD_map {G : D → Sl → Option Sl} {f : XE} {env : Sl} {φ : D → D} {h : Hs} : ∀ (ds : List D) (n : Nat), (∀ d ∈ ds, ∃ e, G d env = some e ∧ f e h = .ok (φ d) h) → n + ds.length ≤ 100000 → lcD G tYesF (elOne f) env ds n h = .ok (ds.map φ) h
  | [], n, _, _ => rfl
  | d :: r, n, hd, hn => by
    obtain ⟨e, h1, h2⟩ := hd d (by simp)
    have ih := lcD_map r (n + 1) (fun x hx => hd x (List.mem_cons_of_mem _ hx)) (by rw [List.length_cons] at hn; omega)
    have hlt : n < 100000 := by
      rw [List.length_cons] at hn
      omega
    unfold lcD
    rw [h1]
    simp [tYesF, Res.bindN, elOne, hlt, h2, ih]
def bHand (el : XE) (k0 kk : Int) : XS := (sSeq (sAsg (xNew (xLc (xSrcN (xSlL (xVar 0) xNoPart (xPart (xC (.int (63)))))) [2] (gSet 2) tYesF el)) (gSet 1))
  (sRet (xNew (xLst (xCons (xVar 1) (xCons (xC (.int (0))) (xCons (xC (.int (0))) (xCons (xOp dAdd (xC (.int k0)) (xOp dMulI (xC (.int kk)) (xB gLen (xCons (xVar 1) xNil)))) (xCons (xC (.int (0))) xNil)))))))))
def elM : XE := (xOp dMod (xB gInt (xCons (xB gAbs (xCons (xB gInt (xCons (xVar 2) xNil)) xNil)) xNil)) (xOp dPow (xC (.int (10))) (xC (.int (36)))))
def elA : XE := (xB gAbs (xCons (xB gInt (xCons (xVar 2) xNil)) xNil))
structure ElOk (el : XE) : Prop where
  ex : ∃ φ : Int → Int, (∀ z, Builtin.Int.intBits z ≤ 1048576 → Big (φ z)) ∧ ∀ (env : Sl) (h : Hs) (z : Int), env[2]? = some (some (.int z)) → el env h = .ok (.int (φ z)) h
theorem elM_ok : ElOk elM := ⟨fun z => (if z < 0 then -z else z) % 1000000000000000000000000000000000000, fun z _ => by
    have h0 := Int.emod_nonneg (if z < 0 then -z else z) (show (1000000000000000000000000000000000000 : Int) ≠ 0 by decide)
    have h1 := Int.emod_lt_of_pos (if z < 0 then -z else z) (show (0 : Int) < 1000000000000000000000000000000000000 by decide)
    refine ⟨h0, ?_⟩
    show ((if z < 0 then -z else z) % 1000000000000000000000000000000000000).natAbs.log2 ≤ _
    generalize (if z < 0 then -z else z) % 1000000000000000000000000000000000000 = y at h0 h1
    by_cases e : y.natAbs = 0
    · rw [e]; decide
    · have : y.natAbs.log2 < 120 := (Nat.log2_lt e).mpr (by
        have : (2 : Nat) ^ 120 = 1329227995784915872903807060280344576 := by decide
        omega)
      omega, fun env h z hz => by
    have pf : powFits 10 36 = true := by decide +kernel
    simp [elM, xOp, xB, xCons, xVar, hz, Res.bind, xNil, gInt, gAbs, xC, dPow, dI, pf, dMod]⟩
theorem elA_ok : ElOk elA := ⟨fun z => if z < 0 then -z else z, fun z hz => by
    refine ⟨by show 0 ≤ (if z < 0 then -z else z); split <;> omega, ?_⟩
    show (if z < 0 then -z else z).natAbs.log2 ≤ _
    have e : (if z < 0 then -z else z).natAbs = z.natAbs := by split <;> omega
    rw [e]
    unfold Builtin.Int.intBits at hz
    by_cases z0 : z.natAbs = 0
    · rw [z0]; decide
    · have zn : (z == 0) = false := by
        rw [beq_eq_false_iff_ne]
        intro q
        rw [q] at z0
        exact z0 rfl
      rw [zn] at hz
      simp only [Bool.false_eq_true, ↓reduceIte] at hz
      omega, fun env h z hz => by
    simp [elA, xB, xCons, xVar, hz, Res.bind, xNil, gInt, gAbs]⟩
theorem hand_ok {el : XE} {k0 kk : Int} (he : ElOk el) (h1 : 0 ≤ k0) (h2 : k0 < 1000000) (h3 : 0 ≤ kk) (h4 : kk < 1000000) (ns : List Int) (hl : ns.length ≤ 63) (hb : ∀ z ∈ ns, Builtin.Int.intBits z ≤ 1048576) :
    ∃ a b, fnSem 1 2 (bHand el k0 kk) [.rol (ns.map .int)] [] = .ok (.ref 1) [a, b] ∧ IsHand [a, b] 1 0 := by
  obtain ⟨φ, hbig, hφ⟩ := he.ex
  have hc : cutD (ns.map D.int) none (some 63) = ns.map D.int := by
    unfold cutD
    have e1 : HT.sIx (ns.map D.int).length 0 none = 0 := HT.sIx_none _ _
    have e2 : HT.sIx (ns.map D.int).length (ns.map D.int).length (some 63) = min 63 (ns.map D.int).length := HT.sIx_nat _ _ 63
    rw [e1, e2]
    show List.take _ (ns.map D.int) = _
    exact List.take_of_length_le (by rw [List.length_map]; omega)
  have hm : lcD (gSet 2) tYesF (elOne el) [some (.rol (ns.map .int)), none, none] (ns.map D.int) 0 [] = .ok ((ns.map D.int).map fun d => match d with | .int z => .int (φ z) | d => d) [] :=
    lcD_map _ 0 (fun d hd => by
      obtain ⟨z, hz, rfl⟩ := List.mem_map.mp hd
      exact ⟨_, rfl, hφ _ _ _ rfl⟩) (by rw [List.length_map]; omega)
  have hmm : ((ns.map D.int).map fun d => match d with | .int z => D.int (φ z) | d => d) = (ns.map φ).map D.int := by
    rw [List.map_map, List.map_map]
    rfl
  rw [hmm] at hm
  have f : mulFits kk ns.length = true := fits_small h3 (by omega) (by omega) (by omega)
  have fin : 0 ≤ kk * ns.length := Int.mul_nonneg h3 (by omega)
  have fin2 : kk * ns.length ≤ 1000000 * 63 := Int.mul_le_mul (by omega) (by omega) (by omega) (by omega)
  refine ⟨.lst ((ns.map φ).map D.int), .lst (hnd 0 0 0 (k0 + kk * ns.length) 0), ?_, 0, 0, k0 + kk * ns.length, 0, 0, ns.map φ, rfl, by decide, rfl, fun z hz => ?_, by omega, .of (by omega) (by omega), by omega, by omega, by omega, by omega⟩
  · simp [fnSem, bHand, sSeq, sAsg, xNew, xLc, xSrcN, xSlL, xVar, Res.bind, xNoPart, xPart, xC, D.lstI, hc, lcS, Src.known, wipeD, hm, Res.bindN, Res.andS, gSet, SRes.seq, sRet, xLst, xCons, xOp, xB, xNil, gLen, D.seq, dMulI, dI, f, dAdd, retOf]
  · obtain ⟨y, hy, rfl⟩ := List.mem_map.mp hz
    exact hbig y (hb y hy)
end FL

/-! FX: closed calls told by evaluation. -/
namespace FL
open PySem PySem.Spec PyProof.Rows L2
mutual
def D.eqb : D → D → Bool
  | .non, .non => true
  | .bl a, .bl b => a == b
  | .int a, .int b => decide (a = b)
  | .str a, .str b => natsEq a b
  | .tup a, .tup b => D.eqbs a b
  | .rol a, .rol b => D.eqbs a b
  | .ref a, .ref b => Nat.beq a b
  | _, _ => false
def D.eqbs : List D → List D → Bool
  | [], [] => true
  | a :: r, b :: t => D.eqb a b && D.eqbs r t
  | _, _ => false
end
mutual
theorem D.eqb_ok : ∀ {a b : D}, D.eqb a b = true → a = b
  | .non, b, h => by cases b <;> first | rfl | (unfold D.eqb at h; cases h)
  | .bl x, b, h => by
    cases b <;> first | (unfold D.eqb at h; cases h; done) | skip
    unfold D.eqb at h
    rw [eq_of_beq h]
  | .int x, b, h => by
    cases b <;> first | (unfold D.eqb at h; cases h; done) | skip
    unfold D.eqb at h
    rw [of_decide_eq_true h]
  | .str x, b, h => by
    cases b <;> first | (unfold D.eqb at h; cases h; done) | skip
    unfold D.eqb at h
    rw [of_decide_eq_true ((natsEq_iff _ _).symm.trans h)]
  | .ty x, b, h => by cases b <;> (unfold D.eqb at h; cases h)
  | .gl x, b, h => by cases b <;> (unfold D.eqb at h; cases h)
  | .tup x, b, h => by
    cases b <;> first | (unfold D.eqb at h; cases h; done) | skip
    unfold D.eqb at h
    rw [D.eqbs_ok h]
  | .rol x, b, h => by
    cases b <;> first | (unfold D.eqb at h; cases h; done) | skip
    unfold D.eqb at h
    rw [D.eqbs_ok h]
  | .ref x, b, h => by
    cases b <;> first | (unfold D.eqb at h; cases h; done) | skip
    unfold D.eqb at h
    rw [Nat.eq_of_beq_eq_true h]
theorem D.eqbs_ok : ∀ {a b : List D}, D.eqbs a b = true → a = b
  | [], b, h => by
    cases b
    · rfl
    · unfold D.eqbs at h; cases h
  | x :: r, b, h => by
    cases b
    · unfold D.eqbs at h; cases h
    · unfold D.eqbs at h
      rw [Bool.and_eq_true] at h
      rw [D.eqb_ok h.1, D.eqbs_ok h.2]
end
def okIs (r : Res D) (d : D) : Bool := match r with
  | .ok x _ => D.eqb x d
  | _ => false
theorem okIs_ex {r : Res D} {d : D} (h : okIs r d = true) : ∃ h', r = .ok d h' := by
  unfold okIs at h
  split at h
  · rw [D.eqb_ok h]
    exact ⟨_, rfl⟩
  · cases h
theorem callG_is {g : Fn} {ds : List D} {h1 : Hs} {d : D} (hg : okIs (g ds []) d = true) (hd : D.pures ds = true) (hp : d.pure = true) : callG g ds h1 = .ok d h1 := by
  obtain ⟨h', e⟩ := okIs_ex hg
  unfold callG settle
  rw [if_pos hd, e]
  dsimp only
  rw [if_pos hp]
theorem natsEq_self (x : List Nat) : natsEq x x = true := (natsEq_iff x x).trans (decide_eq_true rfl)
theorem dNe_str {x : List Nat} {h : Hs} : dNe (.str x) (.str x) h = .ok (.bl false) h := by
  unfold dNe dEqv
  dsimp only
  rw [natsEq_self]
  rfl
theorem dEq_str {x : List Nat} {h : Hs} : dEq (.str x) (.str x) h = .ok (.bl true) h := by
  unfold dEq dEqv
  dsimp only
  rw [natsEq_self]
theorem dEq_int {x y : Int} {h : Hs} : dEq (.int x) (.int y) h = .ok (.bl (decide (x = y))) h := rfl
theorem dNe_int {x y : Int} {h : Hs} : dNe (.int x) (.int y) h = .ok (.bl (!decide (x = y))) h := rfl
theorem IsHand.app {h : Hs} {hi n : Nat} (I : IsHand h hi n) (l : Hs) : IsHand (h ++ l) hi n := by
  obtain ⟨p, q, r, c, ci, cells, H⟩ := I
  exact ⟨p, q, r, c, ci, cells, by rw [List.getElem?_append_left (lt_of_get H.at_)]; exact H.at_, H.ne, by rw [List.getElem?_append_left (lt_of_get H.cs)]; exact H.cs, H.big, H.p0, H.q0, H.r0, H.r1, H.c0, H.c1⟩
theorem gRepr_of {d : D} {h : Hs} {p : PyData} (e : d.tree h 64 = some p) (ho : okRepr p = true) : gRepr [d] h = .ok (.str (reprD p)) h := by
  unfold gRepr
  dsimp only
  rw [e]
  dsimp only
  rw [if_pos ho]
end FL

/-! the walk. -/
namespace FL
open PySem PySem.Spec PyProof.Rows L2
def topS (i : Nat) : Stmt := PySem.Challenge.pw_powersalike_k72_whole_best_signs.main.body.getD i (.Pass ⟨0, 0, 0, 0⟩)
abbrev s__law_hand : Stmt := topS 25
abbrev N__law_hand : List Str := ["script", "cells", "cell"]
theorem sc__law_hand : FnScope N__law_hand ["script"] (defScope s__law_hand) := ⟨rfl, rfl, rfl, by decide +kernel, rfl, by decide +kernel, by decide +kernel⟩
abbrev s_is_integer : Stmt := topS 5
abbrev N_is_integer : List Str := ["thing"]
theorem sc_is_integer : FnScope N_is_integer ["thing"] (defScope s_is_integer) := ⟨rfl, rfl, rfl, by decide +kernel, rfl, by decide +kernel, by decide +kernel⟩
abbrev s_is_within : Stmt := topS 6
abbrev N_is_within : List Str := ["thing", "low", "high"]
theorem sc_is_within : FnScope N_is_within ["thing", "low", "high"] (defScope s_is_within) := ⟨rfl, rfl, rfl, by decide +kernel, rfl, by decide +kernel, by decide +kernel⟩
abbrev s_check_number : Stmt := topS 7
abbrev N_check_number : List Str := ["thing", "low", "high"]
theorem sc_check_number : FnScope N_check_number ["thing", "low", "high"] (defScope s_check_number) := ⟨rfl, rfl, rfl, by decide +kernel, rfl, by decide +kernel, by decide +kernel⟩
abbrev s_strings_of : Stmt := topS 20
abbrev N_strings_of : List Str := ["size", "found", "turn", "row", "sign"]
theorem sc_strings_of : FnScope N_strings_of ["size"] (defScope s_strings_of) := ⟨rfl, rfl, rfl, by decide +kernel, rfl, by decide +kernel, by decide +kernel⟩
abbrev s_divided_once : Stmt := topS 9
abbrev N_divided_once : List Str := ["terms", "found", "carry", "term"]
theorem sc_divided_once : FnScope N_divided_once ["terms"] (defScope s_divided_once) := ⟨rfl, rfl, rfl, by decide +kernel, rfl, by decide +kernel, by decide +kernel⟩
abbrev s_fold_all : Stmt := topS 18
abbrev N_fold_all : List Str := ["terms", "often"]
theorem sc_fold_all : FnScope N_fold_all ["terms"] (defScope s_fold_all) := ⟨rfl, rfl, rfl, by decide +kernel, rfl, by decide +kernel, by decide +kernel⟩
abbrev s_terms_of : Stmt := topS 17
abbrev N_terms_of : List Str := ["signs", "sign"]
theorem sc_terms_of : FnScope N_terms_of ["signs"] (defScope s_terms_of) := ⟨rfl, rfl, rfl, by decide +kernel, rfl, by decide +kernel, by decide +kernel⟩
abbrev s_best_of : Stmt := topS 21
abbrev N_best_of : List Str := ["size", "best", "signs", "often"]
theorem sc_best_of : FnScope N_best_of ["size"] (defScope s_best_of) := ⟨rfl, rfl, rfl, by decide +kernel, rfl, by decide +kernel, by decide +kernel⟩
abbrev s_far_by_size : Stmt := topS 23
abbrev N_far_by_size : List Str := ["most", "size"]
theorem sc_far_by_size : FnScope N_far_by_size ["most"] (defScope s_far_by_size) := ⟨rfl, rfl, rfl, by decide +kernel, rfl, by decide +kernel, by decide +kernel⟩
abbrev s_best_signs : Stmt := topS 22
abbrev N_best_signs : List Str := ["size"]
theorem sc_best_signs : FnScope N_best_signs ["size"] (defScope s_best_signs) := ⟨rfl, rfl, rfl, by decide +kernel, rfl, by decide +kernel, by decide +kernel⟩
abbrev s__law_draw : Stmt := topS 26
abbrev N__law_draw : List Str := ["hand", "many", "cell", "digit", "number"]
theorem sc__law_draw : FnScope N__law_draw ["hand", "many"] (defScope s__law_draw) := ⟨rfl, rfl, rfl, by decide +kernel, rfl, by decide +kernel, by decide +kernel⟩
abbrev s__law_parted : Stmt := topS 27
abbrev N__law_parted : List Str := ["row", "often", "step", "found", "here", "one"]
theorem sc__law_parted : FnScope N__law_parted ["row"] (defScope s__law_parted) := ⟨rfl, rfl, rfl, by decide +kernel, rfl, by decide +kernel, by decide +kernel⟩
abbrev s__law_row : Stmt := topS 28
abbrev N__law_row : List Str := ["signs", "sign"]
theorem sc__law_row : FnScope N__law_row ["signs"] (defScope s__law_row) := ⟨rfl, rfl, rfl, by decide +kernel, rfl, by decide +kernel, by decide +kernel⟩
abbrev s__law_best : Stmt := topS 29
abbrev N__law_best : List Str := ["size", "strings", "turn", "longer", "string", "best", "often"]
theorem sc__law_best : FnScope N__law_best ["size"] (defScope s__law_best) := ⟨rfl, rfl, rfl, by decide +kernel, rfl, by decide +kernel, by decide +kernel⟩
abbrev s_are_signs : Stmt := topS 15
abbrev N_are_signs : List Str := ["thing", "sign"]
theorem sc_are_signs : FnScope N_are_signs ["thing"] (defScope s_are_signs) := ⟨rfl, rfl, rfl, by decide +kernel, rfl, by decide +kernel, by decide +kernel⟩
abbrev s_check_signs : Stmt := topS 16
abbrev N_check_signs : List Str := ["thing"]
theorem sc_check_signs : FnScope N_check_signs ["thing"] (defScope s_check_signs) := ⟨rfl, rfl, rfl, by decide +kernel, rfl, by decide +kernel, by decide +kernel⟩
abbrev s_sign_far : Stmt := topS 19
abbrev N_sign_far : List Str := ["signs"]
theorem sc_sign_far : FnScope N_sign_far ["signs"] (defScope s_sign_far) := ⟨rfl, rfl, rfl, by decide +kernel, rfl, by decide +kernel, by decide +kernel⟩
abbrev s_law : Stmt := topS 30
abbrev N_law : List Str := ["script", "hand", "known", "size", "due", "most", "one"]
theorem sc_law : FnScope N_law ["script"] (defScope s_law) := ⟨rfl, rfl, rfl, by decide +kernel, rfl, by decide +kernel, by decide +kernel⟩
structure Cfg (K : PySem.W.Frag) (mg : Str → Option Value) : Prop where
  b_repr : mg "repr" = none
  b_int : mg "int" = none
  b_range : mg "range" = none
  b_tuple : mg "tuple" = none
  b_abs : mg "abs" = none
  b_len : mg "len" = none
  b_bool : mg "bool" = none
  b_isinstance : mg "isinstance" = none
  b_sum : mg "sum" = none
  b_sorted : mg "sorted" = none
  b_str : mg "str" = none
  b_all : mg "all" = none
  v_MOST_BEST : ∃ t, mg "MOST_BEST" = some (.int (12) t)
  v_LEAST_SIGNS : ∃ t, mg "LEAST_SIGNS" = some (.int (2) t)
  v_VALUES : ∃ t, mg "VALUES" = some (.str ⟨([45, 48, 43] : List Nat).toArray⟩ t)
  v_MOST_SIGNS : ∃ t, mg "MOST_SIGNS" = some (.int (40) t)
section
variable {P : Program} {w : World} {K : PySem.W.Frag} {mg : Str → Option Value} {base : Heap}
def b__law_hand : XS := (sSeq (sAsg (xNew (xLc (xSrcN (xSlL (xVar 0) xNoPart (xPart (xC (.int (63)))))) [2] (gSet 2) tYesF (xOp dMod (xB gInt (xCons (xB gAbs (xCons (xB gInt (xCons (xVar 2) xNil)) xNil)) xNil)) (xOp dPow (xC (.int (10))) (xC (.int (36))))))) (gSet 1))
  (sRet (xNew (xLst (xCons (xVar 1) (xCons (xC (.int (0))) (xCons (xC (.int (0))) (xCons (xOp dAdd (xC (.int (1901))) (xOp dMulI (xC (.int (5))) (xB gLen (xCons (xVar 1) xNil)))) (xCons (xC (.int (0))) xNil)))))))))
def g__law_hand : Fn := fnSem 1 2 b__law_hand
theorem k__law_hand {h : Heap} (r : Rw K "_law_hand" s__law_hand) (X : K.In h) (G : h.Ns mainGlobals mg) (c : Cfg K mg)  : Kn P w K mg base 1 "_law_hand" ["script"] g__law_hand := by
  obtain ⟨f, fd, F, m⟩ := r.fun_ X G
  exact Kn.by_ F m (F.binds fun _ _ _ _ _ _ us hl => match us, hl with | [_], _ => rfl) sc__law_hand rfl rfl fun f cdv A outer s H E hr hgd => ⟨_, (fs_cons (gs_setLc (i := 1) (own := [("cell", 2)]) rfl sc__law_hand.nd (fi_new (fslL (fv 0) fo_none (fo_some fint))) (blkOk_by (N := N__law_hand) (sc := defScope s__law_hand) (by decide +kernel)) (fun s_ H_ C_ cl_ fp_ => (fg_name 2 sc__law_hand.nd)) (fun s_ H_ C_ cl_ fp_ => ft_nil) (fun s_ H_ C_ cl_ fp_ => (fmod (fty call_int1 so_int c.b_int (fa_cons (fb call_abs so_abs c.b_abs (fa_cons (fty call_int1 so_int c.b_int (fa_cons (fv 2) fa_nil)) fa_nil)) fa_nil)) (fpow fint fint))))
    (fs_one (fs_ret (FLs.val (flst (fa_cons (fv 1) (fa_cons fint (fa_cons fint (fa_cons (fadd fint (fmul fint (fb cr_len so_len c.b_len (fa_cons (fv 1) fa_nil)))) (fa_cons fint fa_nil))))))))))⟩
def b_is_integer : XS := (sRet (xAnd (xB gIsi (xCons (xVar 0) (xCons (xC (.ty "int")) xNil))) (xNot (xB gIsi (xCons (xVar 0) (xCons (xC (.ty "bool")) xNil))))))
def g_is_integer : Fn := fnSem 1 0 b_is_integer
theorem k_is_integer {h : Heap} (r : Rw K "is_integer" s_is_integer) (X : K.In h) (G : h.Ns mainGlobals mg) (c : Cfg K mg)  : Kn P w K mg base 1 "is_integer" ["thing"] g_is_integer := by
  obtain ⟨f, fd, F, m⟩ := r.fun_ X G
  exact Kn.by_ F m (F.binds fun _ _ _ _ _ _ us hl => match us, hl with | [_], _ => rfl) sc_is_integer rfl rfl fun f cdv A outer s H E hr hgd => ⟨_, (fs_one (fs_ret (fand (fb call_isi so_isi c.b_isinstance (fa_cons (fv 0) (fa_cons (fcls c.b_int) fa_nil))) (fone (fnot (fb call_isi so_isi c.b_isinstance (fa_cons (fv 0) (fa_cons (fcls c.b_bool) fa_nil))))))))⟩
def b_is_within : XS := (sRet (xAnd (xCall g_is_integer (xCons (xVar 0) xNil)) (xChain dLe dLe (xVar 1) (xVar 0) (xVar 2))))
def g_is_within : Fn := fnSem 3 0 b_is_within
theorem k_is_within {h : Heap} (r : Rw K "is_within" s_is_within) (X : K.In h) (G : h.Ns mainGlobals mg) (c : Cfg K mg) (k_is_integer : Kn P w K mg base 1 "is_integer" ["thing"] g_is_integer) : Kn P w K mg base 2 "is_within" ["thing", "low", "high"] g_is_within := by
  obtain ⟨f, fd, F, m⟩ := r.fun_ X G
  exact Kn.by_ F m (F.binds fun _ _ _ _ _ _ us hl => match us, hl with | [_, _, _], _ => rfl) sc_is_within rfl rfl fun f cdv A outer s H E hr hgd => ⟨_, (fs_one (fs_ret (fand (kcall k_is_integer hr hgd tkOf (fa_cons (fv 0) fa_nil)) (fone (fchain op_le op_le so_le so_le (fv 1) (fv 0) (fv 2))))))⟩
def b_check_number : XS := (sIf (xNotB (xTest (xCall g_is_within (xCons (xVar 0) (xCons (xVar 1) (xCons (xVar 2) xNil)))))) sStuck sNext)
def g_check_number : Fn := fnSem 3 0 b_check_number
theorem k_check_number {h : Heap} (r : Rw K "check_number" s_check_number) (X : K.In h) (G : h.Ns mainGlobals mg) (c : Cfg K mg) (k_is_within : Kn P w K mg base 2 "is_within" ["thing", "low", "high"] g_is_within) : Kn P w K mg base 3 "check_number" ["thing", "low", "high"] g_check_number := by
  obtain ⟨f, fd, F, m⟩ := r.fun_ X G
  exact Kn.by_ F m (F.binds fun _ _ _ _ _ _ us hl => match us, hl with | [_, _, _], _ => rfl) sc_check_number rfl rfl fun f cdv A outer s H E hr hgd => ⟨_, (fs_one (fs_if (fnotT (fval (kcall k_is_within hr hgd tkOf (fa_cons (fv 0) (fa_cons (fv 1) (fa_cons (fv 2) fa_nil)))))) (fs_one fs_never) fs_nil))⟩
def b_strings_of : XS := (sSeq (sAsg (xNew (xLst (xCons (xC (.str [])) xNil))) (gSet 1))
  (sSeq (sFor (xRng1 (xCons (xVar 0) xNil)) (gSet 2) (sAsg (xNew (xLc2 (xSrc (xVar 1)) [3, 4] [4] (gSet 3) tYesF (xSrc (xC (.str [43, 45]))) (gSet 4) tYesF (xOp dAdd (xVar 3) (xVar 4)))) (gSet 1)))
  (sRet (xVar 1))))
def g_strings_of : Fn := fnSem 1 4 b_strings_of
theorem k_strings_of {h : Heap} (r : Rw K "strings_of" s_strings_of) (X : K.In h) (G : h.Ns mainGlobals mg) (c : Cfg K mg)  : Kn P w K mg base 1 "strings_of" ["size"] g_strings_of := by
  obtain ⟨f, fd, F, m⟩ := r.fun_ X G
  exact Kn.by_ F m (F.binds fun _ _ _ _ _ _ us hl => match us, hl with | [_], _ => rfl) sc_strings_of rfl rfl fun f cdv A outer s H E hr hgd => ⟨_, (fs_cons (fs_set (i := 1) sc_strings_of.nd (FLs.val (flst (fa_cons (fstr []) fa_nil))))
    (fs_cons (fs_for (vs := [2]) psOf rfl (fi_rng1 c.b_range (fa_cons (fv 0) fa_nil)) (fg_name 2 sc_strings_of.nd) (fs_one (gs_setLc2 (i := 1) (own := [("row", 3), ("sign", 4)]) (vs1 := [4]) rfl sc_strings_of.nd (fi_any (fv 1)) (blkOk_by (N := N_strings_of) (sc := defScope s_strings_of) (by decide +kernel)) (by decide) (fun s_ H_ C_ cl_ fp_ => (fg_name 3 sc_strings_of.nd)) (fun s_ H_ C_ cl_ fp_ => ft_nil) (fun s_ H_ C_ cl_ fp_ => (fi_any (fstr [43, 45]))) (fun s_ H_ C_ cl_ fp_ => (fg_name 4 sc_strings_of.nd)) (fun s_ H_ C_ cl_ fp_ => ft_nil) (fun s_ H_ C_ cl_ fp_ => (fadd (fv 3) (fv 4))))))
    (fs_one (fs_ret (fv 1)))))⟩
def b_divided_once : XS := (sSeq (sPar 1 2 (xCons (xNew (xLst xNil)) (xCons (xC (.int (0))) xNil)))
  (sSeq (sFor (xSrcN (xSl3 (xVar 0) xNoPart (xPart (xC (.int (0)))) (xPart (xUn dNeg (xC (.int (1))))))) (gSet 3) (sSeq (sAug 2 (dI0 fun i j => .int (i + j)) (xVar 3))
  (sDrop (xMeth isLst mAppend (xVar 1) (xCons (xVar 2) xNil)))))
  (sRet (xNew (xRevL (xVar 1))))))
def g_divided_once : Fn := fnSem 1 3 b_divided_once
theorem k_divided_once {h : Heap} (r : Rw K "divided_once" s_divided_once) (X : K.In h) (G : h.Ns mainGlobals mg) (c : Cfg K mg)  : Kn P w K mg base 1 "divided_once" ["terms"] g_divided_once := by
  obtain ⟨f, fd, F, m⟩ := r.fun_ X G
  exact Kn.by_ F m (F.binds fun _ _ _ _ _ _ us hl => match us, hl with | [_], _ => rfl) sc_divided_once rfl rfl fun f cdv A outer s H E hr hgd => ⟨_, (fs_cons (fs_par 1 2 rfl sc_divided_once.nd (fa_cons (FLs.val (flst fa_nil)) (fa_cons fint fa_nil)))
    (fs_cons (fs_for (vs := [3]) psOf rfl (fi_new (fsl3 (fv 0) fo_none (fo_some fint) (fo_some (fneg fint)))) (fg_name 3 sc_divided_once.nd) (fs_cons (fs_aug 2 sc_divided_once.nd ip_add so_ipI (fv 3))
    (fs_one (fs_expr (fappend (fv 1) (fv 2))))))
    (fs_one (fs_ret (FLs.val (frevL (fv 1)))))))⟩
def b_fold_all : XS := (sSeq (sAsg (xC (.int (0))) (gSet 1))
  (sSeq (sWhile 64 (xTest (xOp dEq (xB (onL gSum) (xCons (xVar 0) xNil)) (xC (.int (0))))) (sSeq (sAsg (xCall g_divided_once (xCons (xVar 0) xNil)) (gSet 0))
  (sAug 1 (dI0 fun i j => .int (i + j)) (xC (.int (1))))))
  (sRet (xTup (xCons (xVar 1) (xCons (xVar 0) xNil))))))
def g_fold_all : Fn := fnSem 1 1 b_fold_all
theorem k_fold_all {h : Heap} (r : Rw K "fold_all" s_fold_all) (X : K.In h) (G : h.Ns mainGlobals mg) (c : Cfg K mg) (k_divided_once : Kn P w K mg base 1 "divided_once" ["terms"] g_divided_once) : Kn P w K mg base 2 "fold_all" ["terms"] g_fold_all := by
  obtain ⟨f, fd, F, m⟩ := r.fun_ X G
  exact Kn.by_ F m (F.binds fun _ _ _ _ _ _ us hl => match us, hl with | [_], _ => rfl) sc_fold_all rfl rfl fun f cdv A outer s H E hr hgd => ⟨_, (fs_cons (fs_set (i := 1) sc_fold_all.nd fint)
    (fs_cons (fs_while 64 psOf (fcmpT (op_eqA hr) so_eq (by rfl) (fb (cr_sum rfl) (SoF.val so_sum) c.b_sum (fa_cons (fv 0) fa_nil)) fint) (fs_cons (fs_set (i := 0) sc_fold_all.nd (kcall k_divided_once hr hgd tkOf (fa_cons (fv 0) fa_nil)))
    (fs_one (fs_aug 1 sc_fold_all.nd ip_add so_ipI fint))))
    (fs_one (fs_ret (ftup (fa_cons (fv 1) (fa_cons (fv 0) fa_nil)))))))⟩
def b_terms_of : XS := (sRet (xNew (xLc (xSrc (xVar 0)) [1] (gSet 1) tYesF (xOp dSub (xMeth isStr mSIndex (xC (.str [45, 48, 43])) (xCons (xVar 1) xNil)) (xC (.int (1)))))))
def g_terms_of : Fn := fnSem 1 1 b_terms_of
theorem k_terms_of {h : Heap} (r : Rw K "terms_of" s_terms_of) (X : K.In h) (G : h.Ns mainGlobals mg) (c : Cfg K mg)  : Kn P w K mg base 1 "terms_of" ["signs"] g_terms_of := by
  obtain ⟨f, fd, F, m⟩ := r.fun_ X G
  exact Kn.by_ F m (F.binds fun _ _ _ _ _ _ us hl => match us, hl with | [_], _ => rfl) sc_terms_of rfl rfl fun f cdv A outer s H E hr hgd => ⟨_, (fs_one (fs_ret (FLs.val (glc (own := [("sign", 1)]) rfl sc_terms_of.nd (fi_any (fv 0)) (blkOk_by (N := N_terms_of) (sc := defScope s_terms_of) (by decide +kernel)) (fun s_ H_ C_ cl_ fp_ => (fg_name 1 sc_terms_of.nd)) (fun s_ H_ C_ cl_ fp_ => ft_nil) (fun s_ H_ C_ cl_ fp_ => (fsub (fsindex (kgs c.v_VALUES) (fv 1)) fint))))))⟩
def b_best_of : XS := (sSeq (sAsg (xTup (xCons (xUn dNeg (xC (.int (1)))) (xCons (xC (.str [])) xNil))) (gSet 1))
  (sSeq (sFor (xSrc (xCall g_strings_of (xCons (xVar 0) xNil))) (gSet 2) (sSeq (sAsg (xIso (xOp gIx (xCall g_fold_all (xCons (xCall g_terms_of (xCons (xVar 2) xNil)) xNil)) (xC (.int (0))))) (gSet 3))
  (sIf (xTest (xOp dGt (xVar 3) (xOp gIx (xVar 1) (xC (.int (0)))))) (sAsg (xTup (xCons (xVar 3) (xCons (xVar 2) xNil))) (gSet 1)) sNext)))
  (sRet (xVar 1))))
def g_best_of : Fn := fnSem 1 3 b_best_of
theorem k_best_of {h : Heap} (r : Rw K "best_of" s_best_of) (X : K.In h) (G : h.Ns mainGlobals mg) (c : Cfg K mg) (k_strings_of : Kn P w K mg base 1 "strings_of" ["size"] g_strings_of) (k_fold_all : Kn P w K mg base 2 "fold_all" ["terms"] g_fold_all) (k_terms_of : Kn P w K mg base 1 "terms_of" ["signs"] g_terms_of) : Kn P w K mg base 3 "best_of" ["size"] g_best_of := by
  obtain ⟨f, fd, F, m⟩ := r.fun_ X G
  exact Kn.by_ F m (F.binds fun _ _ _ _ _ _ us hl => match us, hl with | [_], _ => rfl) sc_best_of rfl rfl fun f cdv A outer s H E hr hgd => ⟨_, (fs_cons (fs_set (i := 1) sc_best_of.nd (ftup (fa_cons (fneg fint) (fa_cons (fstr []) fa_nil))))
    (fs_cons (fs_for (vs := [2]) psOf rfl (fi_any (kcall k_strings_of hr hgd tkOf (fa_cons (fv 0) fa_nil))) (fg_name 2 sc_best_of.nd) (fs_cons (fs_set (i := 3) sc_best_of.nd (fiso (fix (kcall k_fold_all hr hgd tkOf (fa_cons (kcall k_terms_of hr hgd tkOf (fa_cons (fv 2) fa_nil)) fa_nil)) fint)))
    (fs_one (fs_if (fcmpT op_gt so_gt (by rfl) (fv 3) (fix (fv 1) fint)) (fs_one (fs_set (i := 1) sc_best_of.nd (ftup (fa_cons (fv 3) (fa_cons (fv 2) fa_nil))))) fs_nil))))
    (fs_one (fs_ret (fv 1)))))⟩
def b_far_by_size : XS := (sSeq (sDrop (xCall g_check_number (xCons (xVar 0) (xCons (xC (.int (2))) (xCons (xC (.int (12))) xNil)))))
  (sRet (xOnNew (fun ds h => .ok (.tup ds) h) (xLc (xRng2 (xCons (xC (.int (2))) (xCons (xOp dAdd (xVar 0) (xC (.int (1)))) xNil))) [1] (gSet 1) tYesF (xOp gIx (xCall g_best_of (xCons (xVar 1) xNil)) (xC (.int (0))))))))
def g_far_by_size : Fn := fnSem 1 1 b_far_by_size
theorem k_far_by_size {h : Heap} (r : Rw K "far_by_size" s_far_by_size) (X : K.In h) (G : h.Ns mainGlobals mg) (c : Cfg K mg) (k_check_number : Kn P w K mg base 3 "check_number" ["thing", "low", "high"] g_check_number) (k_best_of : Kn P w K mg base 3 "best_of" ["size"] g_best_of) : Kn P w K mg base 4 "far_by_size" ["most"] g_far_by_size := by
  obtain ⟨f, fd, F, m⟩ := r.fun_ X G
  exact Kn.by_ F m (F.binds fun _ _ _ _ _ _ us hl => match us, hl with | [_], _ => rfl) sc_far_by_size rfl rfl fun f cdv A outer s H E hr hgd => ⟨_, (fs_cons (fs_expr (kcall k_check_number hr hgd tkOf (fa_cons (fv 0) (fa_cons (kgi c.v_LEAST_SIGNS) (fa_cons (kgi c.v_MOST_BEST) fa_nil)))))
    (fs_one (fs_ret (ftyN call_tuple_of so_tupF c.b_tuple (glc (own := [("size", 1)]) rfl sc_far_by_size.nd (fi_rng2 c.b_range (fa_cons (kgi c.v_LEAST_SIGNS) (fa_cons (fadd (fv 0) fint) fa_nil))) (blkOk_by (N := N_far_by_size) (sc := defScope s_far_by_size) (by decide +kernel)) (fun s_ H_ C_ cl_ fp_ => (fg_name 1 sc_far_by_size.nd)) (fun s_ H_ C_ cl_ fp_ => ft_nil) (fun s_ H_ C_ cl_ fp_ => (fix (kcall k_best_of hr hgd takesN (fa_cons (fv 1) fa_nil)) fint)))))))⟩
def b_best_signs : XS := (sSeq (sDrop (xCall g_check_number (xCons (xVar 0) (xCons (xC (.int (2))) (xCons (xC (.int (12))) xNil)))))
  (sRet (xCall g_best_of (xCons (xVar 0) xNil))))
def g_best_signs : Fn := fnSem 1 0 b_best_signs
theorem k_best_signs {h : Heap} (r : Rw K "best_signs" s_best_signs) (X : K.In h) (G : h.Ns mainGlobals mg) (c : Cfg K mg) (k_check_number : Kn P w K mg base 3 "check_number" ["thing", "low", "high"] g_check_number) (k_best_of : Kn P w K mg base 3 "best_of" ["size"] g_best_of) : Kn P w K mg base 4 "best_signs" ["size"] g_best_signs := by
  obtain ⟨f, fd, F, m⟩ := r.fun_ X G
  exact Kn.by_ F m (F.binds fun _ _ _ _ _ _ us hl => match us, hl with | [_], _ => rfl) sc_best_signs rfl rfl fun f cdv A outer s H E hr hgd => ⟨_, (fs_cons (fs_expr (kcall k_check_number hr hgd tkOf (fa_cons (fv 0) (fa_cons (kgi c.v_LEAST_SIGNS) (fa_cons (kgi c.v_MOST_BEST) fa_nil)))))
    (fs_one (fs_ret (kcall k_best_of hr hgd tkOf (fa_cons (fv 0) fa_nil)))))⟩
def b__law_draw : XS := (sSeq (sIf (xAndB (xTest (xOp dEq (xOp gIx (xVar 0) (xC (.int (2)))) (xC (.int (0))))) (xTest (xOp dLt (xOp gIx (xVar 0) (xC (.int (1)))) (xB gLen (xCons (xOp gIx (xVar 0) (xC (.int (0)))) xNil))))) (sSeq (sAsg (xOp gIx (xOp gIx (xVar 0) (xC (.int (0)))) (xOp gIx (xVar 0) (xC (.int (1))))) (gSet 2))
  (sSeq (sSetIx (xOp dAdd (xOp gIx (xVar 0) (xC (.int (1)))) (xC (.int (1)))) (xVar 0) (xC (.int (1))))
  (sSeq (sSetIx (xOp dMod (xB gInt (xCons (xOp dAdd (xOp dAdd (xOp dMulI (xOp gIx (xVar 0) (xC (.int (3)))) (xC (.int (69621)))) (xOp dMulI (xVar 2) (xC (.int (40692))))) (xC (.int (43)))) xNil)) (xC (.int (2147483629)))) (xVar 0) (xC (.int (3))))
  (sIf (xTest (xOp dGe (xVar 2) (xOp dPow (xC (.int (10))) (xC (.int (18)))))) (sSetIx (xVar 2) (xVar 0) (xC (.int (2)))) sNext)))) sNext)
  (sSeq (sIf (xTest (xOp dGt (xOp gIx (xVar 0) (xC (.int (2)))) (xC (.int (0))))) (sSeq (sAsg (xOp dMod (xB gInt (xCons (xOp gIx (xVar 0) (xC (.int (2)))) xNil)) (xVar 1)) (gSet 3))
  (sSeq (sSetIx (xOp dDiv (xOp gIx (xVar 0) (xC (.int (2)))) (xVar 1)) (xVar 0) (xC (.int (2))))
  (sRet (xVar 3)))) sNext)
  (sSeq (sSetIx (xOp dAdd (xOp gIx (xVar 0) (xC (.int (4)))) (xC (.int (1)))) (xVar 0) (xC (.int (4))))
  (sSeq (sAsg (xOp dMod (xB gInt (xCons (xOp dMulI (xB gInt (xCons (xOp dAdd (xOp gIx (xVar 0) (xC (.int (3)))) (xOp dMulI (xC (.int (7919))) (xOp gIx (xVar 0) (xC (.int (4)))))) xNil)) (xC (.int (48271)))) xNil)) (xC (.int (2147483647)))) (gSet 4))
  (sSeq (sAsg (xOp dMod (xB gInt (xCons (xOp dMulI (xVar 4) (xOp dAdd (xOp dDiv (xVar 4) (xC (.int (1009)))) (xC (.int (69621))))) xNil)) (xC (.int (2147483647)))) (gSet 4))
  (sSeq (sAsg (xOp dMod (xB gInt (xCons (xOp dMulI (xVar 4) (xOp dAdd (xOp dDiv (xVar 4) (xC (.int (2003)))) (xC (.int (40014))))) xNil)) (xC (.int (2147483563)))) (gSet 4))
  (sRet (xOp dMod (xB gInt (xCons (xOp dDiv (xVar 4) (xC (.int (16)))) xNil)) (xVar 1)))))))))
def g__law_draw : Fn := fnSem 2 3 b__law_draw
theorem k__law_draw {h : Heap} (r : Rw K "_law_draw" s__law_draw) (X : K.In h) (G : h.Ns mainGlobals mg) (c : Cfg K mg)  : Kn P w K mg base 1 "_law_draw" ["hand", "many"] g__law_draw := by
  obtain ⟨f, fd, F, m⟩ := r.fun_ X G
  exact Kn.by_ F m (F.binds fun _ _ _ _ _ _ us hl => match us, hl with | [_, _], _ => rfl) sc__law_draw rfl rfl fun f cdv A outer s H E hr hgd => ⟨_, (fs_cons (fs_if (fwt (fw_and (fcmpT (op_eqA hr) so_eq (by rfl) (fix (fv 0) fint) fint) (fw_and1 (fcmpT op_lt so_lt (by rfl) (fix (fv 0) fint) (fb cr_len so_len c.b_len (fa_cons (fix (fv 0) fint) fa_nil)))))) (fs_cons (fs_set (i := 2) sc__law_draw.nd (fix (fix (fv 0) fint) (fix (fv 0) fint)))
    (fs_cons (fs_setIx (fadd (fix (fv 0) fint) fint) (fv 0) fint)
    (fs_cons (fs_setIx (fmod (fty call_int1 so_int c.b_int (fa_cons (fadd (fadd (fmul (fix (fv 0) fint) fint) (fmul (fv 2) fint)) fint) fa_nil)) fint) (fv 0) fint)
    (fs_one (fs_if (fcmpT op_ge so_ge (by rfl) (fv 2) (fpow fint fint)) (fs_one (fs_setIx (fv 2) (fv 0) fint)) fs_nil))))) fs_nil)
    (fs_cons (fs_if (fcmpT op_gt so_gt (by rfl) (fix (fv 0) fint) fint) (fs_cons (fs_set (i := 3) sc__law_draw.nd (fmod (fty call_int1 so_int c.b_int (fa_cons (fix (fv 0) fint) fa_nil)) (fv 1)))
    (fs_cons (fs_setIx (fdiv (fix (fv 0) fint) (fv 1)) (fv 0) fint)
    (fs_one (fs_ret (fv 3))))) fs_nil)
    (fs_cons (fs_setIx (fadd (fix (fv 0) fint) fint) (fv 0) fint)
    (fs_cons (fs_set (i := 4) sc__law_draw.nd (fmod (fty call_int1 so_int c.b_int (fa_cons (fmul (fty call_int1 so_int c.b_int (fa_cons (fadd (fix (fv 0) fint) (fmul fint (fix (fv 0) fint))) fa_nil)) fint) fa_nil)) fint))
    (fs_cons (fs_set (i := 4) sc__law_draw.nd (fmod (fty call_int1 so_int c.b_int (fa_cons (fmul (fv 4) (fadd (fdiv (fv 4) fint) fint)) fa_nil)) fint))
    (fs_cons (fs_set (i := 4) sc__law_draw.nd (fmod (fty call_int1 so_int c.b_int (fa_cons (fmul (fv 4) (fadd (fdiv (fv 4) fint) fint)) fa_nil)) fint))
    (fs_one (fs_ret (fmod (fty call_int1 so_int c.b_int (fa_cons (fdiv (fv 4) fint) fa_nil)) (fv 1))))))))))⟩
def b__law_parted : XS := (sSeq (sAsg (xC (.int (0))) (gSet 1))
  (sSeq (sFor (xRng1 (xCons (xC (.int (60))) xNil)) (gSet 2) (sSeq (sPar 3 4 (xCons (xNew (xLst xNil)) (xCons (xC (.int (0))) xNil)))
  (sSeq (sFor (xSrcN (xRevL (xVar 0))) (gSet 5) (sSeq (sAsg (xOp dAdd (xVar 4) (xVar 5)) (gSet 4))
  (sDrop (xMeth isLst mAppend (xVar 3) (xCons (xVar 4) xNil)))))
  (sSeq (sIf (xTest (xOp dNe (xOp gIx (xVar 3) (xUn dNeg (xC (.int (1))))) (xC (.int (0))))) (sRet (xTup (xCons (xVar 1) (xCons (xB gTup (xCons (xVar 0) xNil)) xNil)))) sNext)
  (sPar 1 0 (xCons (xOp dAdd (xVar 1) (xC (.int (1)))) (xCons (xNew (xRevN (xSlL (xVar 3) xNoPart (xPart (xUn dNeg (xC (.int (1)))))))) xNil)))))))
  (sRet (xC .non))))
def g__law_parted : Fn := fnSem 1 5 b__law_parted
theorem k__law_parted {h : Heap} (r : Rw K "_law_parted" s__law_parted) (X : K.In h) (G : h.Ns mainGlobals mg) (c : Cfg K mg)  : Kn P w K mg base 1 "_law_parted" ["row"] g__law_parted := by
  obtain ⟨f, fd, F, m⟩ := r.fun_ X G
  exact Kn.by_ F m (F.binds fun _ _ _ _ _ _ us hl => match us, hl with | [_], _ => rfl) sc__law_parted rfl rfl fun f cdv A outer s H E hr hgd => ⟨_, (fs_cons (fs_set (i := 1) sc__law_parted.nd fint)
    (fs_cons (fs_for (vs := [2]) psOf rfl (fi_rng1 c.b_range (fa_cons fint fa_nil)) (fg_name 2 sc__law_parted.nd) (fs_cons (fs_par 3 4 rfl sc__law_parted.nd (fa_cons (FLs.val (flst fa_nil)) (fa_cons fint fa_nil)))
    (fs_cons (fs_for (vs := [5]) psOf rfl (fi_new (frevL (fv 0))) (fg_name 5 sc__law_parted.nd) (fs_cons (fs_set (i := 4) sc__law_parted.nd (fadd (fv 4) (fv 5)))
    (fs_one (fs_expr (fappend (fv 3) (fv 4))))))
    (fs_cons (fs_if (fcmpT (op_neA hr) so_ne (by rfl) (fix (fv 3) (fneg fint)) fint) (fs_one (fs_ret (ftup (fa_cons (fv 1) (fa_cons (fty call_tuple_of so_tupC c.b_tuple (fa_cons (fv 0) fa_nil)) fa_nil))))) fs_nil)
    (fs_one (fs_par 1 0 rfl sc__law_parted.nd (fa_cons (fadd (fv 1) fint) (fa_cons (FLs.val (frevN (fslL (fv 3) fo_none (fo_some (fneg fint))))) fa_nil))))))))
    (fs_one (fs_ret fnon))))⟩
def b__law_row : XS := (sRet (xNew (xLc (xSrc (xVar 0)) [1] (gSet 1) tYesF (xDGet (xDisp (((xC (.str [43])), (xC (.int (1)))) :: (((xC (.str [45])), (xUn dNeg (xC (.int (1))))) :: (((xC (.str [48])), (xC (.int (0)))) :: [])))) (xVar 1)))))
def g__law_row : Fn := fnSem 1 1 b__law_row
theorem k__law_row {h : Heap} (r : Rw K "_law_row" s__law_row) (X : K.In h) (G : h.Ns mainGlobals mg) (c : Cfg K mg)  : Kn P w K mg base 1 "_law_row" ["signs"] g__law_row := by
  obtain ⟨f, fd, F, m⟩ := r.fun_ X G
  exact Kn.by_ F m (F.binds fun _ _ _ _ _ _ us hl => match us, hl with | [_], _ => rfl) sc__law_row rfl rfl fun f cdv A outer s H E hr hgd => ⟨_, (fs_one (fs_ret (FLs.val (glc (own := [("sign", 1)]) rfl sc__law_row.nd (fi_any (fv 0)) (blkOk_by (N := N__law_row) (sc := defScope s__law_row) (by decide +kernel)) (fun s_ H_ C_ cl_ fp_ => (fg_name 1 sc__law_row.nd)) (fun s_ H_ C_ cl_ fp_ => ft_nil) (fun s_ H_ C_ cl_ fp_ => (fdget hr (fdisp (fp_cons (fstr [43]) fint (fp_cons (fstr [45]) (fneg fint) (fp_cons (fstr [48]) fint fp_nil)))) (fv 1)))))))⟩
def b__law_best : XS := (sSeq (sAsg (xNew (xLst (xCons (xC (.str [43])) (xCons (xC (.str [45])) xNil)))) (gSet 1))
  (sSeq (sFor (xRng1 (xCons (xOp dSub (xVar 0) (xC (.int (1)))) xNil)) (gSet 2) (sSeq (sAsg (xNew (xLst xNil)) (gSet 3))
  (sSeq (sFor (xSrc (xVar 1)) (gSet 4) (sDrop (xMethN isLst mExtN (xVar 3) (xLst (xCons (xOp dAdd (xVar 4) (xC (.str [43]))) (xCons (xOp dAdd (xVar 4) (xC (.str [45]))) xNil))))))
  (sAsg (xVar 3) (gSet 1)))))
  (sSeq (sAsg (xC .non) (gSet 5))
  (sSeq (sFor (xSrcN (xOnValL gSortS (xVar 1))) (gSet 4) (sSeq (sAsg (xIso (xOp gIx (xCall g__law_parted (xCons (xCall g__law_row (xCons (xVar 4) xNil)) xNil)) (xC (.int (0))))) (gSet 6))
  (sIf (xOrB (xTest (xOp dIs (xVar 5) (xC .non))) (xTest (xOp dGt (xVar 6) (xOp gIx (xVar 5) (xC (.int (0))))))) (sAsg (xTup (xCons (xVar 6) (xCons (xVar 4) xNil))) (gSet 5)) sNext)))
  (sRet (xVar 5))))))
def g__law_best : Fn := fnSem 1 6 b__law_best
theorem k__law_best {h : Heap} (r : Rw K "_law_best" s__law_best) (X : K.In h) (G : h.Ns mainGlobals mg) (c : Cfg K mg) (k__law_parted : Kn P w K mg base 1 "_law_parted" ["row"] g__law_parted) (k__law_row : Kn P w K mg base 1 "_law_row" ["signs"] g__law_row) : Kn P w K mg base 2 "_law_best" ["size"] g__law_best := by
  obtain ⟨f, fd, F, m⟩ := r.fun_ X G
  exact Kn.by_ F m (F.binds fun _ _ _ _ _ _ us hl => match us, hl with | [_], _ => rfl) sc__law_best rfl rfl fun f cdv A outer s H E hr hgd => ⟨_, (fs_cons (fs_set (i := 1) sc__law_best.nd (FLs.val (flst (fa_cons (fstr [43]) (fa_cons (fstr [45]) fa_nil)))))
    (fs_cons (fs_for (vs := [2]) psOf rfl (fi_rng1 c.b_range (fa_cons (fsub (fv 0) fint) fa_nil)) (fg_name 2 sc__law_best.nd) (fs_cons (fs_set (i := 3) sc__law_best.nd (FLs.val (flst fa_nil)))
    (fs_cons (fs_for (vs := [4]) psOf rfl (fi_any (fv 1)) (fg_name 4 sc__law_best.nd) (fs_one (fs_expr (fextendN (fv 3) (flst (fa_cons (fadd (fv 4) (fstr [43])) (fa_cons (fadd (fv 4) (fstr [45])) fa_nil)))))))
    (fs_one (fs_set (i := 1) sc__law_best.nd (fv 3))))))
    (fs_cons (fs_set (i := 5) sc__law_best.nd fnon)
    (fs_cons (fs_for (vs := [4]) psOf rfl (fi_new (fbVL cr_sortedSA so_sortS c.b_sorted (fv 1))) (fg_name 4 sc__law_best.nd) (fs_cons (fs_set (i := 6) sc__law_best.nd (fiso (fix (kcall k__law_parted hr hgd tkOf (fa_cons (kcall k__law_row hr hgd tkOf (fa_cons (fv 4) fa_nil)) fa_nil)) fint)))
    (fs_one (fs_if (fwt (fw_or (fcmpT op_isA so_is (by rfl) (fv 5) fnon) (fw_or1 (fcmpT op_gt so_gt (by rfl) (fv 6) (fix (fv 5) fint))))) (fs_one (fs_set (i := 5) sc__law_best.nd (ftup (fa_cons (fv 6) (fa_cons (fv 4) fa_nil))))) fs_nil))))
    (fs_one (fs_ret (fv 5)))))))⟩
def b_are_signs : XS := (sSeq (sIf (xOrB (xNotB (xTest (xB gIsi (xCons (xVar 0) (xCons (xC (.ty "str")) xNil))))) (xNotB (xTest (xChain dLe dLe (xC (.int (2))) (xB gLen (xCons (xVar 0) xNil)) (xC (.int (40))))))) (sRet (xC (.bl false))) sNext)
  (sRet (xAnd (xOnNew gAll (xLc (xSrc (xVar 0)) [1] (gSet 1) tYesF (xOp dIn (xVar 1) (xC (.str [45, 48, 43]))))) (xOp dNotIn (xC (.str [48])) (xTup (xCons (xOp gIx (xVar 0) (xC (.int (0)))) (xCons (xOp gIx (xVar 0) (xUn dNeg (xC (.int (1))))) xNil)))))))
def g_are_signs : Fn := fnSem 1 1 b_are_signs
theorem k_are_signs {h : Heap} (r : Rw K "are_signs" s_are_signs) (X : K.In h) (G : h.Ns mainGlobals mg) (c : Cfg K mg)  : Kn P w K mg base 1 "are_signs" ["thing"] g_are_signs := by
  obtain ⟨f, fd, F, m⟩ := r.fun_ X G
  exact Kn.by_ F m (F.binds fun _ _ _ _ _ _ us hl => match us, hl with | [_], _ => rfl) sc_are_signs rfl rfl fun f cdv A outer s H E hr hgd => ⟨_, (fs_cons (fs_if (fwt (fw_or (fnotT (fval (fb call_isi so_isi c.b_isinstance (fa_cons (fv 0) (fa_cons (fcls c.b_str) fa_nil))))) (fw_or1 (fnotT (fchainT op_le op_le so_le so_le (kgi c.v_LEAST_SIGNS) (fb cr_len so_len c.b_len (fa_cons (fv 0) fa_nil)) (kgi c.v_MOST_SIGNS)))))) (fs_one (fs_ret fbl)) fs_nil)
    (fs_one (fs_ret (fand (fbN (cr_all rfl) so_all c.b_all (glc (own := [("sign", 1)]) rfl sc_are_signs.nd (fi_any (fv 0)) (blkOk_by (N := N_are_signs) (sc := defScope s_are_signs) (by decide +kernel)) (fun s_ H_ C_ cl_ fp_ => (fg_name 1 sc_are_signs.nd)) (fun s_ H_ C_ cl_ fp_ => ft_nil) (fun s_ H_ C_ cl_ fp_ => (fcmp op_inA so_in (by rfl) (fv 1) (kgs c.v_VALUES))))) (fone (fcmp op_notInA so_notIn (by rfl) (fstr [48]) (ftup (fa_cons (fix (fv 0) fint) (fa_cons (fix (fv 0) (fneg fint)) fa_nil)))))))))⟩
def b_check_signs : XS := (sIf (xNotB (xTest (xCall g_are_signs (xCons (xVar 0) xNil)))) sStuck sNext)
def g_check_signs : Fn := fnSem 1 0 b_check_signs
theorem k_check_signs {h : Heap} (r : Rw K "check_signs" s_check_signs) (X : K.In h) (G : h.Ns mainGlobals mg) (c : Cfg K mg) (k_are_signs : Kn P w K mg base 1 "are_signs" ["thing"] g_are_signs) : Kn P w K mg base 2 "check_signs" ["thing"] g_check_signs := by
  obtain ⟨f, fd, F, m⟩ := r.fun_ X G
  exact Kn.by_ F m (F.binds fun _ _ _ _ _ _ us hl => match us, hl with | [_], _ => rfl) sc_check_signs rfl rfl fun f cdv A outer s H E hr hgd => ⟨_, (fs_one (fs_if (fnotT (fval (kcall k_are_signs hr hgd tkOf (fa_cons (fv 0) fa_nil)))) (fs_one fs_never) fs_nil))⟩
def b_sign_far : XS := (sSeq (sDrop (xCall g_check_signs (xCons (xVar 0) xNil)))
  (sRet (xIso (xOp gIx (xCall g_fold_all (xCons (xCall g_terms_of (xCons (xVar 0) xNil)) xNil)) (xC (.int (0)))))))
def g_sign_far : Fn := fnSem 1 0 b_sign_far
theorem k_sign_far {h : Heap} (r : Rw K "sign_far" s_sign_far) (X : K.In h) (G : h.Ns mainGlobals mg) (c : Cfg K mg) (k_check_signs : Kn P w K mg base 2 "check_signs" ["thing"] g_check_signs) (k_fold_all : Kn P w K mg base 2 "fold_all" ["terms"] g_fold_all) (k_terms_of : Kn P w K mg base 1 "terms_of" ["signs"] g_terms_of) : Kn P w K mg base 3 "sign_far" ["signs"] g_sign_far := by
  obtain ⟨f, fd, F, m⟩ := r.fun_ X G
  exact Kn.by_ F m (F.binds fun _ _ _ _ _ _ us hl => match us, hl with | [_], _ => rfl) sc_sign_far rfl rfl fun f cdv A outer s H E hr hgd => ⟨_, (fs_cons (fs_expr (kcall k_check_signs hr hgd tkOf (fa_cons (fv 0) fa_nil)))
    (fs_one (fs_ret (fiso (fix (kcall k_fold_all hr hgd tkOf (fa_cons (kcall k_terms_of hr hgd tkOf (fa_cons (fv 0) fa_nil)) fa_nil)) fint)))))⟩
def b_law : XS := (sSeq (sAsg (xCallH g__law_hand (xCons (xVar 0) xNil)) (gSet 1))
  (sSeq (sAsg (xNew (xLst (xCons (xCall g_best_signs (xCons (xC (.int (2))) xNil)) (xCons (xCall g_best_signs (xCons (xC (.int (3))) xNil)) (xCons (xCall g_best_signs (xCons (xC (.int (4))) xNil)) (xCons (xCall g_far_by_size (xCons (xC (.int (4))) xNil)) xNil)))))) (gSet 2))
  (sSeq (sIf (xTest (xOp dNe (xB gRepr (xCons (xVar 2) xNil)) (xOnNew gReprL (xLst (xCons (xTup (xCons (xC (.int (1))) (xCons (xC (.str [43, 45])) xNil))) (xCons (xTup (xCons (xC (.int (0))) (xCons (xC (.str [43, 43, 43])) xNil))) (xCons (xTup (xCons (xC (.int (2))) (xCons (xC (.str [43, 45, 45, 43])) xNil))) (xCons (xTup (xCons (xC (.int (1))) (xCons (xC (.int (0))) (xCons (xC (.int (2))) xNil)))) xNil)))))))) (sRet (xC (.bl false))) sNext)
  (sSeq (sAsg (xOp dAdd (xC (.int (2))) (xCall g__law_draw (xCons (xVar 1) (xCons (xC (.int (8))) xNil)))) (gSet 3))
  (sSeq (sAsg (xCall g__law_best (xCons (xVar 3) xNil)) (gSet 4))
  (sSeq (sIf (xOrB (xTest (xOp dNe (xB gRepr (xCons (xCall g_best_signs (xCons (xVar 3) xNil)) xNil)) (xB gRepr (xCons (xVar 4) xNil)))) (xTest (xOp dNe (xB gRepr (xCons (xCall g_sign_far (xCons (xOp gIx (xVar 4) (xC (.int (1)))) xNil)) xNil)) (xB gRepr (xCons (xOp gIx (xVar 4) (xC (.int (0)))) xNil))))) (sRet (xC (.bl false))) sNext)
  (sSeq (sIf (xAndB (xTest (xOp dEq (xOp dMod (xB gInt (xCons (xVar 3) xNil)) (xC (.int (2)))) (xC (.int (1))))) (xTest (xOp dNe (xOp gIx (xVar 4) (xC (.int (0)))) (xC (.int (0)))))) (sRet (xC (.bl false))) sNext)
  (sSeq (sAsg (xOp dAdd (xC (.int (2))) (xCall g__law_draw (xCons (xVar 1) (xCons (xC (.int (6))) xNil)))) (gSet 5))
  (sRet (xOp dEq (xB gRepr (xCons (xCall g_far_by_size (xCons (xVar 5) xNil)) xNil)) (xB gRepr (xCons (xOnNew (fun ds h => .ok (.tup ds) h) (xLc (xRng2 (xCons (xC (.int (2))) (xCons (xOp dAdd (xVar 5) (xC (.int (1)))) xNil))) [6] (gSet 6) tYesF (xOp gIx (xCall g__law_best (xCons (xVar 6) xNil)) (xC (.int (0)))))) xNil))))))))))))
def g_law : Fn := fnSem 1 6 b_law
theorem f_law {f : Addr} {fd : FuncData} (F : Fun K "law" "law" s_law f fd) (c : Cfg K mg) (k__law_hand : Kn P w K mg base 1 "_law_hand" ["script"] g__law_hand) (k_far_by_size : Kn P w K mg base 4 "far_by_size" ["most"] g_far_by_size) (k_best_signs : Kn P w K mg base 4 "best_signs" ["size"] g_best_signs) (k__law_draw : Kn P w K mg base 1 "_law_draw" ["hand", "many"] g__law_draw) (k__law_best : Kn P w K mg base 2 "_law_best" ["size"] g__law_best) (k_sign_far : Kn P w K mg base 3 "sign_far" ["signs"] g_sign_far) : FnS P w K mg base 5 f fd ["script"] g_law :=
  fn_body F sc_law rfl rfl fun cdv A outer s H E hr hgd => ⟨_, (fs_cons (fs_set (i := 1) sc_law.nd (kcallH k__law_hand hr hgd tkOf (fa_cons (fv 0) fa_nil)))
    (fs_cons (fs_set (i := 2) sc_law.nd (FLs.val (flst (fa_cons (kcall k_best_signs hr hgd tkOf (fa_cons fint fa_nil)) (fa_cons (kcall k_best_signs hr hgd tkOf (fa_cons fint fa_nil)) (fa_cons (kcall k_best_signs hr hgd tkOf (fa_cons fint fa_nil)) (fa_cons (kcall k_far_by_size hr hgd tkOf (fa_cons fint fa_nil)) fa_nil)))))))
    (fs_cons (fs_if (fcmpT (op_neA hr) so_ne (by rfl) (fb (cr_repr hr hgd) so_repr c.b_repr (fa_cons (fv 2) fa_nil)) (fbN (cr_repr hr hgd) so_reprF c.b_repr (flst (fa_cons (ftup (fa_cons fint (fa_cons (fstr [43, 45]) fa_nil))) (fa_cons (ftup (fa_cons fint (fa_cons (fstr [43, 43, 43]) fa_nil))) (fa_cons (ftup (fa_cons fint (fa_cons (fstr [43, 45, 45, 43]) fa_nil))) (fa_cons (ftup (fa_cons fint (fa_cons fint (fa_cons fint fa_nil)))) fa_nil))))))) (fs_one (fs_ret fbl)) fs_nil)
    (fs_cons (fs_set (i := 3) sc_law.nd (fadd fint (kcall k__law_draw hr hgd tkOf (fa_cons (fv 1) (fa_cons fint fa_nil)))))
    (fs_cons (fs_set (i := 4) sc_law.nd (kcall k__law_best hr hgd tkOf (fa_cons (fv 3) fa_nil)))
    (fs_cons (fs_if (fwt (fw_or (fcmpT (op_neA hr) so_ne (by rfl) (fb (cr_repr hr hgd) so_repr c.b_repr (fa_cons (kcall k_best_signs hr hgd tkOf (fa_cons (fv 3) fa_nil)) fa_nil)) (fb (cr_repr hr hgd) so_repr c.b_repr (fa_cons (fv 4) fa_nil))) (fw_or1 (fcmpT (op_neA hr) so_ne (by rfl) (fb (cr_repr hr hgd) so_repr c.b_repr (fa_cons (kcall k_sign_far hr hgd tkOf (fa_cons (fix (fv 4) fint) fa_nil)) fa_nil)) (fb (cr_repr hr hgd) so_repr c.b_repr (fa_cons (fix (fv 4) fint) fa_nil)))))) (fs_one (fs_ret fbl)) fs_nil)
    (fs_cons (fs_if (fwt (fw_and (fcmpT (op_eqA hr) so_eq (by rfl) (fmod (fty call_int1 so_int c.b_int (fa_cons (fv 3) fa_nil)) fint) fint) (fw_and1 (fcmpT (op_neA hr) so_ne (by rfl) (fix (fv 4) fint) fint)))) (fs_one (fs_ret fbl)) fs_nil)
    (fs_cons (fs_set (i := 5) sc_law.nd (fadd fint (kcall k__law_draw hr hgd tkOf (fa_cons (fv 1) (fa_cons fint fa_nil)))))
    (fs_one (fs_ret (fcmp (op_eqA hr) so_eq (by rfl) (fb (cr_repr hr hgd) so_repr c.b_repr (fa_cons (kcall k_far_by_size hr hgd tkOf (fa_cons (fv 5) fa_nil)) fa_nil)) (fb (cr_repr hr hgd) so_repr c.b_repr (fa_cons (ftyN call_tuple_of so_tupF c.b_tuple (glc (own := [("one", 6)]) rfl sc_law.nd (fi_rng2 c.b_range (fa_cons fint (fa_cons (fadd (fv 5) fint) fa_nil))) (blkOk_by (N := N_law) (sc := defScope s_law) (by decide +kernel)) (fun s_ H_ C_ cl_ fp_ => (fg_name 6 sc_law.nd)) (fun s_ H_ C_ cl_ fp_ => ft_nil) (fun s_ H_ C_ cl_ fp_ => (fix (kcall k__law_best hr hgd takesN (fa_cons (fv 6) fa_nil)) fint)))) fa_nil)))))))))))))⟩
end
theorem all_mk {l : PySem.W.OpenLaw} {w : World} {K : PySem.W.Frag} {h : Heap} {mg : Str → Option Value} {fa f1 : Addr} (X : K.In h) (G : h.Ns mainGlobals mg) (hfa : mg "law" = some (.ref fa)) {od1 an1 : Option Addr} {sl1 : Array (Option Value)} {oc1 kV1 dc1 pm1 cd1 ct1 : Value} {t_MOST_BEST : Tok} {t_LEAST_SIGNS : Tok} {t_VALUES : Tok} {t_MOST_SIGNS : Tok}
    (a1 : PySem.W.nsIn K mainGlobals "law" = some (some (.ref f1))) (l1 : K.lookup f1 = some ⟨oc1, od1, .func (PySem.W.fnOf "law" "law" (defArgs s_law) (defBody s_law) (defScope s_law) .none kV1 dc1 pm1 an1 cd1 ct1), sl1⟩) (c1 : PySem.W.codeIn K cd1 "law" = true) (k1 : PySem.W.keepIn K (.ref f1) = true)
    (r__law_hand : Rw K "_law_hand" s__law_hand)
    (r_is_integer : Rw K "is_integer" s_is_integer)
    (r_is_within : Rw K "is_within" s_is_within)
    (r_check_number : Rw K "check_number" s_check_number)
    (r_strings_of : Rw K "strings_of" s_strings_of)
    (r_divided_once : Rw K "divided_once" s_divided_once)
    (r_fold_all : Rw K "fold_all" s_fold_all)
    (r_terms_of : Rw K "terms_of" s_terms_of)
    (r_best_of : Rw K "best_of" s_best_of)
    (r_far_by_size : Rw K "far_by_size" s_far_by_size)
    (r_best_signs : Rw K "best_signs" s_best_signs)
    (r__law_draw : Rw K "_law_draw" s__law_draw)
    (r__law_parted : Rw K "_law_parted" s__law_parted)
    (r__law_row : Rw K "_law_row" s__law_row)
    (r__law_best : Rw K "_law_best" s__law_best)
    (r_are_signs : Rw K "are_signs" s_are_signs)
    (r_check_signs : Rw K "check_signs" s_check_signs)
    (r_sign_far : Rw K "sign_far" s_sign_far)
    (z_repr : PySem.W.nsIn K mainGlobals "repr" = some none)
    (z_int : PySem.W.nsIn K mainGlobals "int" = some none)
    (z_range : PySem.W.nsIn K mainGlobals "range" = some none)
    (z_tuple : PySem.W.nsIn K mainGlobals "tuple" = some none)
    (z_abs : PySem.W.nsIn K mainGlobals "abs" = some none)
    (z_len : PySem.W.nsIn K mainGlobals "len" = some none)
    (z_bool : PySem.W.nsIn K mainGlobals "bool" = some none)
    (z_isinstance : PySem.W.nsIn K mainGlobals "isinstance" = some none)
    (z_sum : PySem.W.nsIn K mainGlobals "sum" = some none)
    (z_sorted : PySem.W.nsIn K mainGlobals "sorted" = some none)
    (z_str : PySem.W.nsIn K mainGlobals "str" = some none)
    (z_all : PySem.W.nsIn K mainGlobals "all" = some none)
    (v_MOST_BEST : PySem.W.nsIn K mainGlobals "MOST_BEST" = some (some (.int (12) t_MOST_BEST)))
    (v_LEAST_SIGNS : PySem.W.nsIn K mainGlobals "LEAST_SIGNS" = some (some (.int (2) t_LEAST_SIGNS)))
    (v_VALUES : PySem.W.nsIn K mainGlobals "VALUES" = some (some (.str ⟨([45, 48, 43] : List Nat).toArray⟩ t_VALUES)))
    (v_MOST_SIGNS : PySem.W.nsIn K mainGlobals "MOST_SIGNS" = some (some (.int (40) t_MOST_SIGNS)))
    : ∃ fd : FuncData, (∀ (s : Shared) (v : Value), BindsTo s fd ⟨[v], []⟩ [("script", v)]) ∧ ∀ base : Heap, K.In base → base.Ns mainGlobals mg → FnS l.prog w K mg base 5 fa fd ["script"] g_law := by
  have e := hfa.symm.trans (PySem.W.mg_of X G a1)
  cases e
  have F1 := fun_mk (st := s_law) l1 c1 k1
  have c : Cfg K mg := ⟨PySem.W.mg_none_of X G z_repr, PySem.W.mg_none_of X G z_int, PySem.W.mg_none_of X G z_range, PySem.W.mg_none_of X G z_tuple, PySem.W.mg_none_of X G z_abs, PySem.W.mg_none_of X G z_len, PySem.W.mg_none_of X G z_bool, PySem.W.mg_none_of X G z_isinstance, PySem.W.mg_none_of X G z_sum, PySem.W.mg_none_of X G z_sorted, PySem.W.mg_none_of X G z_str, PySem.W.mg_none_of X G z_all, ⟨_, PySem.W.mg_of X G v_MOST_BEST⟩, ⟨_, PySem.W.mg_of X G v_LEAST_SIGNS⟩, ⟨_, PySem.W.mg_of X G v_VALUES⟩, ⟨_, PySem.W.mg_of X G v_MOST_SIGNS⟩⟩
  refine ⟨PySem.W.fnOf "law" "law" (defArgs s_law) (defBody s_law) (defScope s_law) .none kV1 dc1 pm1 an1 cd1 ct1, fun s v => .of_eq rfl, fun base _ _ => ?_⟩
  have q__law_hand : Kn l.prog w K mg base 1 "_law_hand" ["script"] g__law_hand := k__law_hand r__law_hand X G c 
  have q_is_integer : Kn l.prog w K mg base 1 "is_integer" ["thing"] g_is_integer := k_is_integer r_is_integer X G c 
  have q_is_within : Kn l.prog w K mg base 2 "is_within" ["thing", "low", "high"] g_is_within := k_is_within r_is_within X G c q_is_integer
  have q_check_number : Kn l.prog w K mg base 3 "check_number" ["thing", "low", "high"] g_check_number := k_check_number r_check_number X G c q_is_within
  have q_strings_of : Kn l.prog w K mg base 1 "strings_of" ["size"] g_strings_of := k_strings_of r_strings_of X G c 
  have q_divided_once : Kn l.prog w K mg base 1 "divided_once" ["terms"] g_divided_once := k_divided_once r_divided_once X G c 
  have q_fold_all : Kn l.prog w K mg base 2 "fold_all" ["terms"] g_fold_all := k_fold_all r_fold_all X G c q_divided_once
  have q_terms_of : Kn l.prog w K mg base 1 "terms_of" ["signs"] g_terms_of := k_terms_of r_terms_of X G c 
  have q_best_of : Kn l.prog w K mg base 3 "best_of" ["size"] g_best_of := k_best_of r_best_of X G c q_strings_of q_fold_all q_terms_of
  have q_far_by_size : Kn l.prog w K mg base 4 "far_by_size" ["most"] g_far_by_size := k_far_by_size r_far_by_size X G c q_check_number q_best_of
  have q_best_signs : Kn l.prog w K mg base 4 "best_signs" ["size"] g_best_signs := k_best_signs r_best_signs X G c q_check_number q_best_of
  have q__law_draw : Kn l.prog w K mg base 1 "_law_draw" ["hand", "many"] g__law_draw := k__law_draw r__law_draw X G c 
  have q__law_parted : Kn l.prog w K mg base 1 "_law_parted" ["row"] g__law_parted := k__law_parted r__law_parted X G c 
  have q__law_row : Kn l.prog w K mg base 1 "_law_row" ["signs"] g__law_row := k__law_row r__law_row X G c 
  have q__law_best : Kn l.prog w K mg base 2 "_law_best" ["size"] g__law_best := k__law_best r__law_best X G c q__law_parted q__law_row
  have q_are_signs : Kn l.prog w K mg base 1 "are_signs" ["thing"] g_are_signs := k_are_signs r_are_signs X G c 
  have q_check_signs : Kn l.prog w K mg base 2 "check_signs" ["thing"] g_check_signs := k_check_signs r_check_signs X G c q_are_signs
  have q_sign_far : Kn l.prog w K mg base 3 "sign_far" ["signs"] g_sign_far := k_sign_far r_sign_far X G c q_check_signs q_fold_all q_terms_of
  exact f_law F1 c q__law_hand q_far_by_size q_best_signs q__law_draw q__law_best q_sign_far
end FL

namespace FL
open PySem PySem.Spec PyProof.Rows L2
def tab (n : Int) : Int × List Nat :=
  if n = 2 then (1, [43, 45]) else if n = 3 then (0, [43, 43, 43]) else if n = 4 then (2, [43, 45, 45, 43]) else if n = 5 then (0, [43, 43, 43, 43, 43]) else if n = 6 then (1, [43, 43, 43, 45, 45, 45])
  else if n = 7 then (0, [43, 43, 43, 43, 43, 43, 43]) else if n = 8 then (3, [43, 45, 45, 43, 45, 43, 43, 45]) else (0, [43, 43, 43, 43, 43, 43, 43, 43, 43])
def best (n : Int) : D := .tup [.int (tab n).1, .str (tab n).2]
def chkA (n : Int) : Bool := okIs (g_best_signs [.int n] []) (best n)
def chkB (n : Int) : Bool := okIs (g__law_best [.int n] []) (best n)
def chkC (n : Int) : Bool := okIs (g_sign_far [.str (tab n).2] []) (.int (tab n).1) && okRepr (.tuple [.int (tab n).1, .str ⟨(tab n).2.toArray⟩]) && okRepr (.int (tab n).1) && !(decide (n % 2 = 1) && !decide ((tab n).1 = 0))
def far (m : Int) : D := .tup ((rangeD 2 (m - 1).toNat).map fun d => match d with | .int i => .int (tab i).1 | d => d)
def chkD (m : Int) : Bool := okIs (g_far_by_size [.int m] []) (far m)
theorem a2 : chkA 2 = true := by decide +kernel
theorem a3 : chkA 3 = true := by decide +kernel
theorem a4 : chkA 4 = true := by decide +kernel
theorem a5 : chkA 5 = true := by decide +kernel
theorem a6 : chkA 6 = true := by decide +kernel
theorem a7 : chkA 7 = true := by decide +kernel
theorem a8 : chkA 8 = true := by decide +kernel
theorem a9 : chkA 9 = true := by decide +kernel
theorem b2 : chkB 2 = true := by decide +kernel
theorem b3 : chkB 3 = true := by decide +kernel
theorem b4 : chkB 4 = true := by decide +kernel
theorem b5 : chkB 5 = true := by decide +kernel
theorem b6 : chkB 6 = true := by decide +kernel
theorem b7 : chkB 7 = true := by decide +kernel
theorem b8 : chkB 8 = true := by decide +kernel
theorem b9 : chkB 9 = true := by decide +kernel
theorem c2 : chkC 2 = true := by decide +kernel
theorem c3 : chkC 3 = true := by decide +kernel
theorem c4 : chkC 4 = true := by decide +kernel
theorem c5 : chkC 5 = true := by decide +kernel
theorem c6 : chkC 6 = true := by decide +kernel
theorem c7 : chkC 7 = true := by decide +kernel
theorem c8 : chkC 8 = true := by decide +kernel
theorem c9 : chkC 9 = true := by decide +kernel
theorem d2 : chkD 2 = true := by decide +kernel
theorem d3 : chkD 3 = true := by decide +kernel
theorem d4 : chkD 4 = true := by decide +kernel
theorem d5 : chkD 5 = true := by decide +kernel
theorem d6 : chkD 6 = true := by decide +kernel
theorem d7 : chkD 7 = true := by decide +kernel
end FL

namespace FL
open PySem PySem.Spec PyProof.Rows L2
theorem eqHand : g__law_hand = fnSem 1 2 (bHand elM 1901 5) := rfl
theorem eqDraw : g__law_draw = fnSem 2 3 (bDraw (mixM 40692 43) 48271 40014 2147483563) := rfl
theorem sizes {n : Int} (h : 2 ≤ n) (h2 : n < 10) : chkA n = true ∧ chkB n = true ∧ chkC n = true := by
  obtain rfl | rfl | rfl | rfl | rfl | rfl | rfl | rfl : n = 2 ∨ n = 3 ∨ n = 4 ∨ n = 5 ∨ n = 6 ∨ n = 7 ∨ n = 8 ∨ n = 9 := by omega
  · exact ⟨a2, b2, c2⟩
  · exact ⟨a3, b3, c3⟩
  · exact ⟨a4, b4, c4⟩
  · exact ⟨a5, b5, c5⟩
  · exact ⟨a6, b6, c6⟩
  · exact ⟨a7, b7, c7⟩
  · exact ⟨a8, b8, c8⟩
  · exact ⟨a9, b9, c9⟩
theorem mosts {n : Int} (h : 2 ≤ n) (h2 : n < 8) : chkD n = true := by
  obtain rfl | rfl | rfl | rfl | rfl | rfl : n = 2 ∨ n = 3 ∨ n = 4 ∨ n = 5 ∨ n = 6 ∨ n = 7 := by omega
  · exact d2
  · exact d3
  · exact d4
  · exact d5
  · exact d6
  · exact d7
theorem best_pure (n : Int) : (best n).pure = true := rfl
theorem far_pure (m : Int) : (far m).pure = true := by
  unfold far rangeD D.pure
  rw [List.map_map]
  generalize List.range (m - 1).toNat = l
  induction l with
  | nil => rfl
  | cons x r ih =>
    rw [List.map_cons]
    show (true && D.pures (List.map _ r)) = true
    rw [Bool.true_and]
    exact ih
theorem callBest {n : Int} (h : 2 ≤ n) (h2 : n < 10) (hs : Hs) : callG g_best_signs [.int n] hs = .ok (best n) hs := callG_is (sizes h h2).1 rfl (best_pure n)
theorem callDue {n : Int} (h : 2 ≤ n) (h2 : n < 10) (hs : Hs) : callG g__law_best [.int n] hs = .ok (best n) hs := callG_is (sizes h h2).2.1 rfl (best_pure n)
theorem callFar {n : Int} (h : 2 ≤ n) (h2 : n < 8) (hs : Hs) : callG g_far_by_size [.int n] hs = .ok (far n) hs := callG_is (mosts h h2) rfl (far_pure n)
theorem callFold {n : Int} (h : 2 ≤ n) (h2 : n < 10) (hs : Hs) : callG g_sign_far [.str (tab n).2] hs = .ok (.int (tab n).1) hs := by
  have c := (sizes h h2).2.2
  unfold chkC at c
  simp only [Bool.and_eq_true] at c
  exact callG_is c.1.1.1 rfl rfl
theorem reprBest {n : Int} (h : 2 ≤ n) (h2 : n < 10) (hs : Hs) : gRepr [best n] hs = .ok (.str (reprD (.tuple [.int (tab n).1, .str ⟨(tab n).2.toArray⟩]))) hs := by
  have c := (sizes h h2).2.2
  unfold chkC at c
  simp only [Bool.and_eq_true] at c
  exact gRepr_of rfl c.1.1.2
theorem reprOften {n : Int} (h : 2 ≤ n) (h2 : n < 10) (hs : Hs) : gRepr [.int (tab n).1] hs = .ok (.str (reprD (.int (tab n).1))) hs := by
  have c := (sizes h h2).2.2
  unfold chkC at c
  simp only [Bool.and_eq_true] at c
  exact gRepr_of rfl c.1.2
theorem oddBest {n : Int} (h : 2 ≤ n) (h2 : n < 10) (ho : n % 2 = 1) : (tab n).1 = 0 := by
  have c := (sizes h h2).2.2
  unfold chkC at c
  simp only [Bool.and_eq_true] at c
  have d := c.2
  rw [decide_eq_true ho] at d
  by_cases e : (tab n).1 = 0
  · exact e
  · rw [decide_eq_false e] at d
    cases d
theorem callPair {g : Fn} {i : Nat} {k : Int} {h : Hs} : callG g [.ref i, .int k] h = g [.ref i, .int k] h := rfl
theorem e_2 : best 2 = .tup [.int 1, .str [43, 45]] := D.eqb_ok (by decide +kernel)
theorem e_3 : best 3 = .tup [.int 0, .str [43, 43, 43]] := D.eqb_ok (by decide +kernel)
theorem e_4 : best 4 = .tup [.int 2, .str [43, 45, 45, 43]] := D.eqb_ok (by decide +kernel)
theorem e_f : far 4 = .tup [.int 1, .int 0, .int 2] := D.eqb_ok (by decide +kernel)
def kn : List D := [.tup [.int 1, .str [43, 45]], .tup [.int 0, .str [43, 43, 43]], .tup [.int 2, .str [43, 45, 45, 43]], .tup [.int 1, .int 0, .int 2]]
def knP : PyData := .list [.tuple [.int 1, .str ⟨[43, 45].toArray⟩], .tuple [.int 0, .str ⟨[43, 43, 43].toArray⟩], .tuple [.int 2, .str ⟨[43, 45, 45, 43].toArray⟩], .tuple [.int 1, .int 0, .int 2]]
theorem kn_ok : okRepr knP = true := by decide +kernel
theorem reprK {a b : Ob} : gRepr [.ref 2] [a, b, .lst kn] = .ok (.str (reprD knP)) [a, b, .lst kn] := gRepr_of rfl kn_ok
theorem reprL {h : Hs} : gReprL kn h = .ok (.str (reprD knP)) h := by
  unfold gReprL
  have e : (treesBy (D.tree h 63) kn).map PyData.list = some knP := rfl
  rw [e]
  dsimp only
  rw [if_pos kn_ok]
theorem farRepr {m : Int} (h : 2 ≤ m) (h2 : m < 8) (hs : Hs) : ∃ x, gRepr [far m] hs = .ok (.str x) hs := by
  obtain rfl | rfl | rfl | rfl | rfl | rfl : m = 2 ∨ m = 3 ∨ m = 4 ∨ m = 5 ∨ m = 6 ∨ m = 7 := by omega
  · exact ⟨_, gRepr_of rfl (by decide +kernel)⟩
  · exact ⟨_, gRepr_of rfl (by decide +kernel)⟩
  · exact ⟨_, gRepr_of rfl (by decide +kernel)⟩
  · exact ⟨_, gRepr_of rfl (by decide +kernel)⟩
  · exact ⟨_, gRepr_of rfl (by decide +kernel)⟩
  · exact ⟨_, gRepr_of rfl (by decide +kernel)⟩
theorem farComp {m : Int} (h : 2 ≤ m) (h2 : m < 8) (env : Sl) (he : 6 < env.length) (hs : Hs) : lcD (gSet 6) tYesF (elOne (xOp gIx (xCall g__law_best (xCons (xVar 6) xNil)) (xC (.int 0)))) env (rangeD 2 (m - 1).toNat) 0 hs = .ok ((rangeD 2 (m - 1).toNat).map fun d => match d with | .int i => .int (tab i).1 | d => d) hs := by
  refine lcD_map _ 0 (fun d hd => ?_) (by unfold rangeD; rw [List.length_map, List.length_range]; omega)
  unfold rangeD at hd
  obtain ⟨i, hi, rfl⟩ := List.mem_map.mp hd
  have hi' := List.mem_range.mp hi
  have c := callDue (n := 2 + i) (by omega) (by omega) hs
  refine ⟨_, rfl, ?_⟩
  have v : xVar 6 (env.set 6 (some (.int (2 + i)))) hs = .ok (.int (2 + i)) hs := by
    unfold xVar
    rw [List.getElem?_set_self he]
  unfold xOp xCall xCons xNil
  simp only [v, Res.bind, c, xC]
  rfl
theorem seq_nx {f k : XS} {env e : Sl} {h h' : Hs} (q : f env h = .nx e h') : sSeq f k env h = k e h' := by
  unfold sSeq
  rw [q]
  rfl
theorem xOp_of {g : D → D → Hs → Res D} {fa fb : XE} {env : Sl} {h h1 h2 : Hs} {d e : D} (q1 : fa env h = .ok d h1) (q2 : fb env h1 = .ok e h2) : xOp g fa fb env h = g d e h2 := by
  unfold xOp
  rw [q1]
  unfold Res.bind
  dsimp only
  rw [q2]
theorem law_end (ns : List Int) (hl : ns.length ≤ 63) (hb : ∀ z ∈ ns, Builtin.Int.intBits z ≤ 1048576) : ∃ h', g_law [.rol (ns.map .int)] [] = .ok (.bl true) h' := by
  obtain ⟨a, b, e1, I⟩ := hand_ok elM_ok (k0 := 1901) (kk := 5) (by decide) (by decide) (by decide) (by decide) ns hl hb
  rw [← eqHand] at e1
  have I1 : IsHand [a, b, .lst kn] 1 0 := I.app _
  obtain ⟨z, o, e2, z0, z1, I2⟩ := draw_ok (many := 8) (c1 := 48271) (a4 := 40014) (m4 := 2147483563) (mixM_ok (m := 40692) (k := 43) (by decide) (by decide)) I1 (by decide) (by decide) (by decide) (by decide) (by decide) (by decide) (by decide) (by decide) (by decide)
  obtain ⟨y, o2, e3, y0, y1, I3⟩ := draw_ok (many := 6) (c1 := 48271) (a4 := 40014) (m4 := 2147483563) (mixM_ok (m := 40692) (k := 43) (by decide) (by decide)) I2 (by decide) (by decide) (by decide) (by decide) (by decide) (by decide) (by decide) (by decide) (by decide)
  rw [← eqDraw] at e2 e3
  generalize List.set [a, b, .lst kn] 1 o = h1 at e2 e3 I2
  generalize List.set h1 1 o2 = h2 at e3
  have hz : (2 : Int) ≤ 2 + z := by omega
  have hz2 : 2 + z < 10 := by omega
  have hy : (2 : Int) ≤ 2 + y := by omega
  have hy2 : 2 + y < 8 := by omega
  obtain ⟨x, hx⟩ := farRepr hy hy2 h2
  have k2 := callBest (n := 2) (by decide) (by decide) [a, b]
  have k3 := callBest (n := 3) (by decide) (by decide) [a, b]
  have k4 := callBest (n := 4) (by decide) (by decide) [a, b]
  have kf := callFar (n := 4) (by decide) (by decide) [a, b]
  rw [e_2] at k2
  rw [e_3] at k3
  rw [e_4] at k4
  rw [e_f] at kf
  have hk : List.length kn ≤ 100000 := by decide
  have q1 : ∀ e, xLst (xCons (xCall g_best_signs (xCons (xC (.int (2))) xNil)) (xCons (xCall g_best_signs (xCons (xC (.int (3))) xNil)) (xCons (xCall g_best_signs (xCons (xC (.int (4))) xNil)) (xCons (xCall g_far_by_size (xCons (xC (.int (4))) xNil)) xNil)))) e [a, b] = .ok kn [a, b] := fun e => by
    simp only [xLst, xCons, xCall, xC, xNil, Res.bind, k2, k3, k4, kf]
    rfl
  have q2 : ∀ e h, xLst (xCons (xTup (xCons (xC (.int (1))) (xCons (xC (.str [43, 45])) xNil))) (xCons (xTup (xCons (xC (.int (0))) (xCons (xC (.str [43, 43, 43])) xNil))) (xCons (xTup (xCons (xC (.int (2))) (xCons (xC (.str [43, 45, 45, 43])) xNil))) (xCons (xTup (xCons (xC (.int (1))) (xCons (xC (.int (0))) (xCons (xC (.int (2))) xNil)))) xNil)))) e h = .ok kn h := fun e h => rfl
  have r1 := callBest hz hz2 h1
  have r2 := callDue hz hz2 h1
  have r3 := callFold hz hz2 h1
  have r4 := reprBest hz hz2 h1
  have r5 := reprOften hz hz2 h1
  have r6 := callFar hy hy2 h2
  have r7 : ∀ x2 x3 x4, xOnNew (fun ds h => .ok (.tup ds) h) (xLc (xRng2 (xCons (xC (.int (2))) (xCons (xOp dAdd (xVar 5) (xC (.int (1)))) xNil))) [6] (gSet 6) tYesF (xOp gIx (xCall g__law_best (xCons (xVar 6) xNil)) (xC (.int (0))))) [some (.rol (ns.map .int)), some (.ref 1), x2, x3, x4, some (.int (2 + y)), none] h2 = .ok (far (2 + y)) h2 := fun x2 x3 x4 => by
    have okr : okR 2 = true := by decide +kernel
    have okr2 : okR (2 + y + 1) = true := by
      unfold okR
      rw [Bool.and_eq_true]
      exact ⟨decide_eq_true (by omega), decide_eq_true (by omega)⟩
    have cc := farComp hy hy2 (wipeD [some (.rol (ns.map .int)), some (.ref 1), x2, x3, x4, some (.int (2 + y)), none] [6]) (by simp [wipeD]) h2
    have em : (2 + y + 1 - 2).toNat = (2 + y - 1).toNat := by omega
    simp only [xOnNew, xLc, xRng2, xCons, xC, xOp, xVar, Res.bind, dAdd, xNil, okr, okr2, Bool.and_self, ↓reduceIte, lcS, Src.known, List.getElem?_cons_succ, List.getElem?_cons_zero]
    rw [em, cc]
    rfl
  refine ⟨h2, ?_⟩
  have gi : ∀ h, gIx (best (2 + z)) (.int 1) h = .ok (.str (tab (2 + z)).2) h := fun _ => rfl
  have gj : ∀ h, gIx (best (2 + z)) (.int 0) h = .ok (.int (tab (2 + z)).1) h := fun _ => rfl
  have t1 : (2 + z) % 2 = 1 → (tab (2 + z)).1 = 0 := oddBest hz hz2
  simp only [g_law, fnSem, List.length_cons, List.length_nil, Nat.zero_add, ↓reduceIte, List.map_cons, List.map_nil, List.replicate, List.cons_append, List.nil_append]
  unfold b_law
  refine (congrArg retOf (seq_nx (by simp only [sAsg, xCallH, e1, Res.bind, Res.andS, SRes.seq, gSet, xCons, xNil, xVar, xC, List.getElem?_cons_zero, List.getElem?_cons_succ, List.set_cons_zero, List.set_cons_succ]; rfl))).trans ?_
  refine (congrArg retOf (seq_nx (by simp only [sAsg, xNew, q1, Res.bind, Res.andS, SRes.seq, gSet, xCons, xNil, xVar, xC, List.getElem?_cons_zero, List.getElem?_cons_succ, List.set_cons_zero, List.set_cons_succ]; rfl))).trans ?_
  refine (congrArg retOf (seq_nx (e := [some (.rol (ns.map .int)), some (.ref 1), some (.ref 2), none, none, none, none]) (h' := [a, b, .lst kn]) (by
    have g : gRepr [.ref [a, b].length] ([a, b] ++ [.lst kn]) = .ok (.str (reprD knP)) [a, b, .lst kn] := reprK
    simp only [sIf, xTest, xOp, xB, xOnNew, q2, reprL, g, dNe_str, Res.bind, Res.andS, SRes.seq, gSet, xCons, xNil, xVar, xC, List.getElem?_cons_zero, List.getElem?_cons_succ, List.set_cons_zero, List.set_cons_succ, sNext]
    rfl))).trans ?_
  refine (congrArg retOf (seq_nx (e := [some (.rol (ns.map .int)), some (.ref 1), some (.ref 2), some (.int (2 + z)), none, none, none]) (h' := h1) (by
    have g : callG g__law_draw [.ref 1, .int 8] [a, b, .lst kn] = .ok (.int z) h1 := e2
    simp only [sAsg, xOp, xCall, g, dAdd, Res.bind, Res.andS, SRes.seq, gSet, xCons, xNil, xVar, xC, List.getElem?_cons_zero, List.getElem?_cons_succ, List.set_cons_zero, List.set_cons_succ]))).trans ?_
  refine (congrArg retOf (seq_nx (by simp only [sAsg, xCall, r2, Res.bind, Res.andS, SRes.seq, gSet, xCons, xNil, xVar, xC, List.getElem?_cons_zero, List.getElem?_cons_succ, List.set_cons_zero, List.set_cons_succ]; rfl))).trans ?_
  refine (congrArg retOf (seq_nx (e := [some (.rol (ns.map .int)), some (.ref 1), some (.ref 2), some (.int (2 + z)), some (best (2 + z)), none, none]) (h' := h1) (by
    simp only [sIf, xOrB, xTest, xOp, xB, xCall, r1, r3, r4, r5, gi, gj, dNe_str, Res.bind, Res.andS, SRes.seq, gSet, xCons, xNil, xVar, xC, List.getElem?_cons_zero, List.getElem?_cons_succ, List.set_cons_zero, List.set_cons_succ, sNext, Bool.false_eq_true, ↓reduceIte]))).trans ?_
  refine (congrArg retOf (seq_nx (e := [some (.rol (ns.map .int)), some (.ref 1), some (.ref 2), some (.int (2 + z)), some (best (2 + z)), none, none]) (h' := h1) (by
    by_cases c : (2 + z) % 2 = 1
    · simp only [sIf, xAndB, xTest, xOp, xB, gInt, dMod, dI, dEq_int, dNe_int, gj, t1 c, c, Res.bind, Res.andS, SRes.seq, gSet, xCons, xNil, xVar, xC, List.getElem?_cons_zero, List.getElem?_cons_succ, List.set_cons_zero, List.set_cons_succ, sNext, Bool.false_eq_true, ↓reduceIte, decide_true, Bool.not_true, show (0 : Int) < 2 by decide]
    · simp only [sIf, xAndB, xTest, xOp, xB, gInt, dMod, dI, dEq_int, dNe_int, gj, c, Res.bind, Res.andS, SRes.seq, gSet, xCons, xNil, xVar, xC, List.getElem?_cons_zero, List.getElem?_cons_succ, List.set_cons_zero, List.set_cons_succ, sNext, Bool.false_eq_true, ↓reduceIte, decide_true, decide_false, Bool.not_true, show (0 : Int) < 2 by decide]))).trans ?_
  refine (congrArg retOf (seq_nx (e := [some (.rol (ns.map .int)), some (.ref 1), some (.ref 2), some (.int (2 + z)), some (best (2 + z)), some (.int (2 + y)), none]) (h' := h2) (by
    have g : callG g__law_draw [.ref 1, .int 6] h1 = .ok (.int y) h2 := e3
    simp only [sAsg, xOp, xCall, g, dAdd, Res.bind, Res.andS, SRes.seq, gSet, xCons, xNil, xVar, xC, List.getElem?_cons_zero, List.getElem?_cons_succ, List.set_cons_zero, List.set_cons_succ]))).trans ?_
  have r8 := r7 (some (.ref 2)) (some (.int (2 + z))) (some (best (2 + z)))
  unfold sRet
  have g : xB gRepr (xCons (xCall g_far_by_size (xCons (xVar 5) xNil)) xNil) [some (.rol (ns.map .int)), some (.ref 1), some (.ref 2), some (.int (2 + z)), some (best (2 + z)), some (.int (2 + y)), none] h2 = .ok (.str x) h2 := by
    simp only [xB, xCall, r6, hx, Res.bind, Res.andS, SRes.seq, gSet, xCons, xNil, xVar, xC, List.getElem?_cons_zero, List.getElem?_cons_succ, List.set_cons_zero, List.set_cons_succ]
  have g2 : ∀ f, f [some (.rol (ns.map .int)), some (.ref 1), some (.ref 2), some (.int (2 + z)), some (best (2 + z)), some (.int (2 + y)), none] h2 = .ok (far (2 + y)) h2 → xB gRepr (xCons f xNil) [some (.rol (ns.map .int)), some (.ref 1), some (.ref 2), some (.int (2 + z)), some (best (2 + z)), some (.int (2 + y)), none] h2 = .ok (.str x) h2 := fun f hf => by
    simp only [xB, xCons, xNil, hf, hx, Res.bind]
  rw [xOp_of g (g2 _ r8), dEq_str]
  rfl
end FL

open PySem PySem.W PyProof.Rows
set_option maxHeartbeats 0 in
theorem PySem.Challenge.cw_powersalike_k72_whole_best_signs_holds : PySem.Challenge.rw_powersalike_k72_whole_best_signs.Holds := by
  w_on; o_law; k_head; (case hw => w_witness2)
  k_fill
  refine FL.end_walk (l := PySem.Challenge.rw_powersalike_k72_whole_best_signs) (n := 63) (k := 5) (x := "script") (g := FL.g_law) rfl (by decide) rfl ⟨rfl, by decide, by decide⟩ (fun w h Y => PySem.W.kIn_of Y) ?F FL.law_end
  case F =>
    intro w mg fa h KX G hmg
    refine' FL.all_mk KX G hmg ?a1 ?l1 ?c1 ?k1 (FL.mkRw ?a__law_hand ?l__law_hand ?c__law_hand ?k__law_hand) (FL.mkRw ?a_is_integer ?l_is_integer ?c_is_integer ?k_is_integer) (FL.mkRw ?a_is_within ?l_is_within ?c_is_within ?k_is_within) (FL.mkRw ?a_check_number ?l_check_number ?c_check_number ?k_check_number) (FL.mkRw ?a_strings_of ?l_strings_of ?c_strings_of ?k_strings_of) (FL.mkRw ?a_divided_once ?l_divided_once ?c_divided_once ?k_divided_once) (FL.mkRw ?a_fold_all ?l_fold_all ?c_fold_all ?k_fold_all) (FL.mkRw ?a_terms_of ?l_terms_of ?c_terms_of ?k_terms_of) (FL.mkRw ?a_best_of ?l_best_of ?c_best_of ?k_best_of) (FL.mkRw ?a_far_by_size ?l_far_by_size ?c_far_by_size ?k_far_by_size) (FL.mkRw ?a_best_signs ?l_best_signs ?c_best_signs ?k_best_signs) (FL.mkRw ?a__law_draw ?l__law_draw ?c__law_draw ?k__law_draw) (FL.mkRw ?a__law_parted ?l__law_parted ?c__law_parted ?k__law_parted) (FL.mkRw ?a__law_row ?l__law_row ?c__law_row ?k__law_row) (FL.mkRw ?a__law_best ?l__law_best ?c__law_best ?k__law_best) (FL.mkRw ?a_are_signs ?l_are_signs ?c_are_signs ?k_are_signs) (FL.mkRw ?a_check_signs ?l_check_signs ?c_check_signs ?k_check_signs) (FL.mkRw ?a_sign_far ?l_sign_far ?c_sign_far ?k_sign_far) ?z_repr ?z_int ?z_range ?z_tuple ?z_abs ?z_len ?z_bool ?z_isinstance ?z_sum ?z_sorted ?z_str ?z_all ?v_MOST_BEST ?v_LEAST_SIGNS ?v_VALUES ?v_MOST_SIGNS
    (case a1 => k_is); (case l1 => k_is); (case c1 => k_is); (case k1 => k_is); (case a__law_hand => k_is); (case l__law_hand => k_is); (case c__law_hand => k_is); (case k__law_hand => k_is); (case a_is_integer => k_is); (case l_is_integer => k_is); (case c_is_integer => k_is); (case k_is_integer => k_is); (case a_is_within => k_is); (case l_is_within => k_is); (case c_is_within => k_is); (case k_is_within => k_is); (case a_check_number => k_is); (case l_check_number => k_is); (case c_check_number => k_is); (case k_check_number => k_is); (case a_strings_of => k_is); (case l_strings_of => k_is); (case c_strings_of => k_is); (case k_strings_of => k_is); (case a_divided_once => k_is); (case l_divided_once => k_is); (case c_divided_once => k_is); (case k_divided_once => k_is); (case a_fold_all => k_is); (case l_fold_all => k_is); (case c_fold_all => k_is); (case k_fold_all => k_is); (case a_terms_of => k_is); (case l_terms_of => k_is); (case c_terms_of => k_is); (case k_terms_of => k_is); (case a_best_of => k_is); (case l_best_of => k_is); (case c_best_of => k_is); (case k_best_of => k_is); (case a_far_by_size => k_is); (case l_far_by_size => k_is); (case c_far_by_size => k_is); (case k_far_by_size => k_is); (case a_best_signs => k_is); (case l_best_signs => k_is); (case c_best_signs => k_is); (case k_best_signs => k_is); (case a__law_draw => k_is); (case l__law_draw => k_is); (case c__law_draw => k_is); (case k__law_draw => k_is); (case a__law_parted => k_is); (case l__law_parted => k_is); (case c__law_parted => k_is); (case k__law_parted => k_is); (case a__law_row => k_is); (case l__law_row => k_is); (case c__law_row => k_is); (case k__law_row => k_is); (case a__law_best => k_is); (case l__law_best => k_is); (case c__law_best => k_is); (case k__law_best => k_is); (case a_are_signs => k_is); (case l_are_signs => k_is); (case c_are_signs => k_is); (case k_are_signs => k_is); (case a_check_signs => k_is); (case l_check_signs => k_is); (case c_check_signs => k_is); (case k_check_signs => k_is); (case a_sign_far => k_is); (case l_sign_far => k_is); (case c_sign_far => k_is); (case k_sign_far => k_is); (case z_repr => k_is); (case z_int => k_is); (case z_range => k_is); (case z_tuple => k_is); (case z_abs => k_is); (case z_len => k_is); (case z_bool => k_is); (case z_isinstance => k_is); (case z_sum => k_is); (case z_sorted => k_is); (case z_str => k_is); (case z_all => k_is); (case v_MOST_BEST => k_is); (case v_LEAST_SIGNS => k_is); (case v_VALUES => k_is); (case v_MOST_SIGNS => k_is)


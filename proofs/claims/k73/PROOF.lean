import PyProof.Rows.All
import Wide.All
import OpenK.AllK
import Wide.FinOn
import HandS.ForMost
import HandS.ForExc
import HandS.EndBits
import HandS.Wide
import HandS.IsInst
import HandS.Flow
import HandS.Zip
import HandS.TupAny
import HandS.Style
import HandS.Dict
import HandS.Text
import HandS.Iter
import HandS.Replace
import HandS.SortInts
import PyProof.Rows.SortShellAny
import HandS.ExcOwn
import PyProof.StrLawsRepr
import KE.GoesMore
import PyProof.Draws
import PyProof.EnumMake
import HandS.TupMul
import HandS.Codes
import HandS.ExcIs
import PySem.Challenge.RW_powersalike_k73_whole_pure_products
set_option Elab.async false
set_option linter.all false
set_option maxRecDepth 100000
/-! FA: data, their embedding, results, and what it is for a reading to be computed by a plain function. -/
namespace FL
open PySem PySem.Spec PyProof.Rows L2

/-- a datum: tuples and read-only lists as trees, lists and dicts that change by their number in a small heap -/
inductive D where
  | non | bl (b : Bool) | int (i : Int) | str (cs : List Nat) | ty (n : String) | gl (x : Str)
  | tup (ds : List D) | rol (ds : List D) | ref (i : Nat)
instance : Inhabited D := ⟨.non⟩
/-- keys of dicts -/
abbrev KD := Int ⊕ List Nat
def keyOf : KD → Key
  | .inl i => .inl i
  | .inr cs => .inr ⟨cs.toArray⟩
inductive Ob where
  | lst (ds : List D)
  | dk (kvs : List (KD × D))
  | dt (kvs : List (List KD × D))
instance : Inhabited Ob := ⟨.lst []⟩
abbrev Sl := List (Option D)
abbrev Hs := List Ob

structure Cc where
  K : PySem.W.Frag
  mg : Str → Option Value

def RoL (K : PySem.W.Frag) (H : Hp) (a : Addr) (vs : List V) : Prop :=
  (∃ o, H a = some (.frz o (.lst vs))) ∨
    ∃ (o : Obj) (its : Array Value) (n : Nat), K.lookup a = some o ∧ o.cls = .type "list" ∧ o.dict = none ∧ o.data = .seq its n ∧ its.size ≤ sizeLine ∧ Vals vs its.toList
theorem RoL.seq {K : PySem.W.Frag} {H : Hp} {a : Addr} {vs : List V} (h : RoL K H a vs) : SqL K H a vs := by
  rcases h with h | h
  · exact .inl (.inr h)
  · exact .inr h

mutual
inductive Emb (C : Cc) (ρ : List Addr) (H : Hp) : D → V → Prop
  | non : Emb C ρ H .non .non
  | bl (b : Bool) : Emb C ρ H (.bl b) (.bl b)
  | int (i : Int) : Emb C ρ H (.int i) (.int i)
  | str (cs : List Nat) : Emb C ρ H (.str cs) (.str ⟨cs.toArray⟩)
  | ty (n : String) : Emb C ρ H (.ty n) (.ty n)
  | gl {x : Str} {a : Addr} (h : C.mg x = some (.ref a)) : Emb C ρ H (.gl x) (.ref a)
  | tup {ds : List D} {vs : List V} {a : Addr} (h : SqT C.K H a vs) (hs : Embs C ρ H ds vs) : Emb C ρ H (.tup ds) (.ref a)
  | rol {ds : List D} {vs : List V} {a : Addr} (h : RoL C.K H a vs) (hs : Embs C ρ H ds vs) : Emb C ρ H (.rol ds) (.ref a)
  | ref {i : Nat} {a : Addr} (h : ρ[i]? = some a) : Emb C ρ H (.ref i) (.ref a)
inductive Embs (C : Cc) (ρ : List Addr) (H : Hp) : List D → List V → Prop
  | nil : Embs C ρ H [] []
  | cons {d : D} {v : V} {ds : List D} {vs : List V} (h : Emb C ρ H d v) (hs : Embs C ρ H ds vs) : Embs C ρ H (d :: ds) (v :: vs)
end

/-- pairs of a dict -/
inductive EmbK (C : Cc) (ρ : List Addr) (H : Hp) : List (KD × D) → List (Key × V) → Prop
  | nil : EmbK C ρ H [] []
  | cons {k : KD} {d : D} {v : V} {ds : List (KD × D)} {vs : List (Key × V)} (h : Emb C ρ H d v) (hs : EmbK C ρ H ds vs) : EmbK C ρ H ((k, d) :: ds) ((keyOf k, v) :: vs)
inductive EmbT (C : Cc) (ρ : List Addr) (H : Hp) : List (List KD × D) → List (List Key × V) → Prop
  | nil : EmbT C ρ H [] []
  | cons {k : List KD} {d : D} {v : V} {ds : List (List KD × D)} {vs : List (List Key × V)} (h : Emb C ρ H d v) (hs : EmbT C ρ H ds vs) : EmbT C ρ H ((k, d) :: ds) ((k.map keyOf, v) :: vs)

def ObOk (C : Cc) (ρ : List Addr) (H : Hp) (a : Addr) : Ob → Prop
  | .lst ds => ∃ vs, H a = some (.lst vs) ∧ Embs C ρ H ds vs
  | .dk kvs => ∃ vs, H a = some (.dK vs) ∧ EmbK C ρ H kvs vs
  | .dt kvs => ∃ vs, H a = some (.dT vs) ∧ EmbT C ρ H kvs vs

structure HeapOk (C : Cc) (ρ : List Addr) (h : Hs) (H : Hp) : Prop where
  len : ρ.length = h.length
  nd : ρ.Nodup
  ob : ∀ (i : Nat) (a : Addr) (o : Ob), ρ[i]? = some a → h[i]? = some o → ObOk C ρ H a o

structure Ext (ρ ρ' : List Addr) (H H' : Hp) : Prop where
  pre : ∃ l, ρ' = ρ ++ l
  keep : ∀ a o, H a = some o → a ∉ ρ → H' a = some o
  new : ∀ a, a ∈ ρ' → a ∉ ρ → H a = none
  tup : ∀ a xs, H a = some (.tup xs) → H' a = some (.tup xs)
  frz : ∀ a o u, H a = some (.frz o u) → H' a = some (.frz o u)

section
variable {C : Cc} {ρ ρ1 ρ2 : List Addr} {H H1 H2 : Hp}
theorem Ext.refl : Ext ρ ρ H H := ⟨⟨[], by simp⟩, fun _ _ h _ => h, fun _ h h' => absurd h h', fun _ _ h => h, fun _ _ _ h => h⟩
theorem Ext.sub (e : Ext ρ ρ1 H H1) : ∀ a, a ∈ ρ → a ∈ ρ1 := fun a h => by
  obtain ⟨l, rfl⟩ := e.pre
  exact List.mem_append_left _ h
theorem Ext.at (e : Ext ρ ρ1 H H1) {i : Nat} {a : Addr} (h : ρ[i]? = some a) : ρ1[i]? = some a := by
  obtain ⟨l, rfl⟩ := e.pre
  rw [List.getElem?_append_left (List.getElem?_eq_some_iff.mp h).1]
  exact h
theorem Ext.trans (a : Ext ρ ρ1 H H1) (b : Ext ρ1 ρ2 H1 H2) : Ext ρ ρ2 H H2 := by
  obtain ⟨l, e1⟩ := a.pre
  obtain ⟨m, e2⟩ := b.pre
  refine ⟨⟨l ++ m, by rw [e2, e1, List.append_assoc]⟩, fun c o h hc => ?_, fun c h hc => ?_, fun c xs h => b.tup _ _ (a.tup _ _ h), fun c o u h => b.frz _ _ _ (a.frz _ _ _ h)⟩
  · refine b.keep c o (a.keep c o h hc) fun h1 => ?_
    rw [a.new c h1 hc] at h
    cases h
  · by_cases h1 : c ∈ ρ1
    · exact a.new c h1 hc
    · have z := b.new c h h1
      cases q : H c with
      | none => rfl
      | some o =>
        rw [a.keep c o q hc] at z
        cases z
theorem Ext.sqT (e : Ext ρ ρ1 H H1) {K : PySem.W.Frag} {a : Addr} {xs : List V} (h : SqT K H a xs) : SqT K H1 a xs := by
  rcases h with (h | ⟨o, h⟩) | h
  · exact .inl (.inl (e.tup _ _ h))
  · exact .inl (.inr ⟨o, e.frz _ _ _ h⟩)
  · exact .inr h
theorem Ext.roL (e : Ext ρ ρ1 H H1) {K : PySem.W.Frag} {a : Addr} {xs : List V} (h : RoL K H a xs) : RoL K H1 a xs := by
  rcases h with ⟨o, h⟩ | h
  · exact .inl ⟨o, e.frz _ _ _ h⟩
  · exact .inr h
/-- what data lean on -/
structure Low (ρ ρ' : List Addr) (H H' : Hp) : Prop where
  pre : ∃ l, ρ' = ρ ++ l
  tup : ∀ a xs, H a = some (.tup xs) → H' a = some (.tup xs)
  frz : ∀ a o u, H a = some (.frz o u) → H' a = some (.frz o u)
theorem Ext.low (e : Ext ρ ρ1 H H1) : Low ρ ρ1 H H1 := ⟨e.pre, e.tup, e.frz⟩
theorem Low.at (e : Low ρ ρ1 H H1) {i : Nat} {a : Addr} (h : ρ[i]? = some a) : ρ1[i]? = some a := by
  obtain ⟨l, rfl⟩ := e.pre
  rw [List.getElem?_append_left (List.getElem?_eq_some_iff.mp h).1]
  exact h
theorem Low.sqT (e : Low ρ ρ1 H H1) {K : PySem.W.Frag} {a : Addr} {xs : List V} (h : SqT K H a xs) : SqT K H1 a xs := by
  rcases h with (h | ⟨o, h⟩) | h
  · exact .inl (.inl (e.tup _ _ h))
  · exact .inl (.inr ⟨o, e.frz _ _ _ h⟩)
  · exact .inr h
theorem Low.roL (e : Low ρ ρ1 H H1) {K : PySem.W.Frag} {a : Addr} {xs : List V} (h : RoL K H a xs) : RoL K H1 a xs := by
  rcases h with ⟨o, h⟩ | h
  · exact .inl ⟨o, e.frz _ _ _ h⟩
  · exact .inr h
mutual
theorem Emb.low (e : Low ρ ρ1 H H1) {d : D} {v : V} (h : Emb C ρ H d v) : Emb C ρ1 H1 d v := by
  match h with
  | .non => exact .non
  | .bl b => exact .bl b
  | .int i => exact .int i
  | .str cs => exact .str cs
  | .ty n => exact .ty n
  | .gl h => exact .gl h
  | .tup h hs => exact .tup (e.sqT h) (Embs.low e hs)
  | .rol h hs => exact .rol (e.roL h) (Embs.low e hs)
  | .ref h => exact .ref (e.at h)
theorem Embs.low (e : Low ρ ρ1 H H1) {d : List D} {v : List V} (h : Embs C ρ H d v) : Embs C ρ1 H1 d v := by
  match h with
  | .nil => exact .nil
  | .cons h hs => exact .cons (Emb.low e h) (Embs.low e hs)
end
theorem Emb.mono (e : Ext ρ ρ1 H H1) {d : D} {v : V} (h : Emb C ρ H d v) : Emb C ρ1 H1 d v := h.low e.low
theorem Embs.mono (e : Ext ρ ρ1 H H1) {d : List D} {v : List V} (h : Embs C ρ H d v) : Embs C ρ1 H1 d v := h.low e.low
theorem EmbK.low (e : Low ρ ρ1 H H1) {d : List (KD × D)} {v : List (Key × V)} (h : EmbK C ρ H d v) : EmbK C ρ1 H1 d v := by
  induction h with
  | nil => exact .nil
  | cons h _ ih => exact .cons (h.low e) ih
theorem EmbK.mono (e : Ext ρ ρ1 H H1) {d : List (KD × D)} {v : List (Key × V)} (h : EmbK C ρ H d v) : EmbK C ρ1 H1 d v := h.low e.low
theorem EmbT.low (e : Low ρ ρ1 H H1) {d : List (List KD × D)} {v : List (List Key × V)} (h : EmbT C ρ H d v) : EmbT C ρ1 H1 d v := by
  induction h with
  | nil => exact .nil
  | cons h _ ih => exact .cons (h.low e) ih
theorem EmbT.mono (e : Ext ρ ρ1 H H1) {d : List (List KD × D)} {v : List (List Key × V)} (h : EmbT C ρ H d v) : EmbT C ρ1 H1 d v := h.low e.low
theorem Embs.length {ds : List D} {vs : List V} (h : Embs C ρ H ds vs) : ds.length = vs.length := by
  match h with
  | .nil => rfl
  | .cons _ hs => rw [List.length_cons, List.length_cons, Embs.length hs]
theorem Embs.get {ds : List D} {vs : List V} (h : Embs C ρ H ds vs) {i : Nat} {d : D} (e : ds[i]? = some d) : ∃ v, vs[i]? = some v ∧ Emb C ρ H d v := by
  match h, i with
  | .nil, i => simp at e
  | .cons h _, 0 =>
    have e' := Option.some.inj e
    subst e'
    exact ⟨_, rfl, h⟩
  | .cons _ hs, i + 1 => exact Embs.get hs (i := i) e
theorem Embs.getV {ds : List D} {vs : List V} (h : Embs C ρ H ds vs) {i : Nat} {v : V} (e : vs[i]? = some v) : ∃ d, ds[i]? = some d ∧ Emb C ρ H d v := by
  match h, i with
  | .nil, i => simp at e
  | .cons h _, 0 =>
    have e' := Option.some.inj e
    subst e'
    exact ⟨_, rfl, h⟩
  | .cons _ hs, i + 1 => exact Embs.getV hs (i := i) e
theorem Embs.append {ds es : List D} {vs ws : List V} (h : Embs C ρ H ds vs) (h' : Embs C ρ H es ws) : Embs C ρ H (ds ++ es) (vs ++ ws) := by
  match h with
  | .nil => exact h'
  | .cons h hs => exact .cons h (Embs.append hs h')
theorem Embs.one {d : D} {v : V} (h : Emb C ρ H d v) : Embs C ρ H [d] [v] := .cons h .nil
theorem Embs.take {ds : List D} {vs : List V} (h : Embs C ρ H ds vs) (n : Nat) : Embs C ρ H (ds.take n) (vs.take n) := by
  match h, n with
  | .nil, n => rw [List.take_nil, List.take_nil]; exact .nil
  | .cons _ _, 0 => exact .nil
  | .cons h hs, n + 1 => exact .cons h (Embs.take hs n)
theorem Embs.drop {ds : List D} {vs : List V} (h : Embs C ρ H ds vs) (n : Nat) : Embs C ρ H (ds.drop n) (vs.drop n) := by
  match h, n with
  | .nil, n => rw [List.drop_nil, List.drop_nil]; exact .nil
  | .cons h hs, 0 => exact .cons h hs
  | .cons h hs, n + 1 => exact Embs.drop hs n
theorem Embs.set {ds : List D} {vs : List V} (h : Embs C ρ H ds vs) {d : D} {v : V} (hd : Emb C ρ H d v) (n : Nat) : Embs C ρ H (ds.set n d) (vs.set n v) := by
  match h, n with
  | .nil, n => exact .nil
  | .cons _ hs, 0 => exact .cons hd hs
  | .cons h hs, n + 1 => exact .cons h (Embs.set hs hd n)
theorem Embs.reverse {ds : List D} {vs : List V} (h : Embs C ρ H ds vs) : Embs C ρ H ds.reverse vs.reverse := by
  match h with
  | .nil => exact .nil
  | .cons h hs =>
    rw [List.reverse_cons, List.reverse_cons]
    exact (Embs.reverse hs).append (.one h)
theorem Embs.eraseIdx {ds : List D} {vs : List V} (h : Embs C ρ H ds vs) (n : Nat) : Embs C ρ H (ds.eraseIdx n) (vs.eraseIdx n) := by
  match h, n with
  | .nil, n => exact .nil
  | .cons _ hs, 0 => exact hs
  | .cons h hs, n + 1 => exact .cons h (Embs.eraseIdx hs n)
theorem Embs.dropLast {ds : List D} {vs : List V} (h : Embs C ρ H ds vs) : Embs C ρ H ds.dropLast vs.dropLast := by
  rw [List.dropLast_eq_take, List.dropLast_eq_take, h.length]
  exact h.take _
theorem ObOk.low (e : Low ρ ρ1 H H1) {a : Addr} {o : Ob} (h : ObOk C ρ H a o) (k : ∀ u, H a = some u → H1 a = some u) : ObOk C ρ1 H1 a o := by
  cases o with
  | lst ds =>
    obtain ⟨vs, h1, h2⟩ := h
    exact ⟨vs, k _ h1, h2.low e⟩
  | dk ds =>
    obtain ⟨vs, h1, h2⟩ := h
    exact ⟨vs, k _ h1, h2.low e⟩
  | dt ds =>
    obtain ⟨vs, h1, h2⟩ := h
    exact ⟨vs, k _ h1, h2.low e⟩
theorem ObOk.mono (e : Ext ρ ρ1 H H1) {a : Addr} {o : Ob} (h : ObOk C ρ H a o) (k : ∀ u, H a = some u → H1 a = some u) : ObOk C ρ1 H1 a o := h.low e.low k
theorem ObOk.there {a : Addr} {o : Ob} (h : ObOk C ρ H a o) : ∃ u, H a = some u ∧ Mut (some u) := by
  cases o with
  | lst ds =>
    obtain ⟨vs, h1, h2⟩ := h
    exact ⟨_, h1, True.intro⟩
  | dk ds =>
    obtain ⟨vs, h1, h2⟩ := h
    exact ⟨_, h1, True.intro⟩
  | dt ds =>
    obtain ⟨vs, h1, h2⟩ := h
    exact ⟨_, h1, True.intro⟩
variable {h : Hs}
theorem HeapOk.ex (ok : HeapOk C ρ h H) {i : Nat} {a : Addr} (e : ρ[i]? = some a) : ∃ o, h[i]? = some o ∧ ObOk C ρ H a o := by
  have hi : i < h.length := by
    rw [← ok.len]
    exact (List.getElem?_eq_some_iff.mp e).1
  exact ⟨h[i], List.getElem?_eq_getElem hi, ok.ob i a _ e (List.getElem?_eq_getElem hi)⟩
theorem HeapOk.mem (ok : HeapOk C ρ h H) {a : Addr} (m : a ∈ ρ) : ∃ u, H a = some u ∧ Mut (some u) := by
  obtain ⟨i, hi, e⟩ := List.getElem_of_mem m
  obtain ⟨o, _, h2⟩ := ok.ex (i := i) (a := a) (by rw [List.getElem?_eq_getElem hi, e])
  exact h2.there
theorem HeapOk.notin (ok : HeapOk C ρ h H) {a : Addr} (n : H a = none) : a ∉ ρ := fun m => by
  obtain ⟨u, e, _⟩ := ok.mem m
  rw [n] at e
  cases e
theorem HeapOk.nil : HeapOk C [] [] H := ⟨rfl, List.nodup_nil, fun i a o e => by simp at e⟩
/-- a new object that is not told of -/
theorem Ext.fresh {p : Addr} {o : HO} (n : H p = none) : Ext ρ ρ H (upd H p o) :=
  ⟨⟨[], by simp⟩, fun a u e _ => by rw [upd_ne (ne_of_none e n)]; exact e, fun _ h h' => absurd h h', fun a u e => by rw [upd_ne (ne_of_none e n)]; exact e, fun a u v e => by rw [upd_ne (ne_of_none e n)]; exact e⟩
theorem HeapOk.fresh (ok : HeapOk C ρ h H) {p : Addr} {o : HO} (n : H p = none) : HeapOk C ρ h (upd H p o) :=
  ⟨ok.len, ok.nd, fun i a b e1 e2 => (ok.ob i a b e1 e2).mono (Ext.fresh n) fun u e => by rw [upd_ne (ne_of_none e n)]; exact e⟩
/-- a new object that is told of -/
theorem Ext.laid {p : Addr} {o : HO} (n : H p = none) : Ext ρ (ρ ++ [p]) H (upd H p o) :=
  ⟨⟨[p], rfl⟩, fun a u e _ => by rw [upd_ne (ne_of_none e n)]; exact e, fun a m m' => by
    rcases List.mem_append.mp m with z | z
    · exact absurd z m'
    · rw [List.mem_singleton.mp z]; exact n, fun a u e => by rw [upd_ne (ne_of_none e n)]; exact e, fun a u v e => by rw [upd_ne (ne_of_none e n)]; exact e⟩
theorem HeapOk.laid (ok : HeapOk C ρ h H) {p : Addr} {o : HO} {b : Ob} (n : H p = none) (hb : ObOk C (ρ ++ [p]) (upd H p o) p b) : HeapOk C (ρ ++ [p]) (h ++ [b]) (upd H p o) := by
  refine ⟨by rw [List.length_append, List.length_append, ok.len]; rfl, ?_, fun i a u e1 e2 => ?_⟩
  · refine List.nodup_append.mpr ⟨ok.nd, by simp, fun a ha b hb z => ?_⟩
    rw [List.mem_singleton.mp hb] at z
    exact ok.notin n (z ▸ ha)
  · by_cases hi : i < ρ.length
    · rw [List.getElem?_append_left hi] at e1
      rw [List.getElem?_append_left (by rw [← ok.len]; exact hi)] at e2
      exact (ok.ob i a u e1 e2).mono (Ext.laid n) fun w e => by rw [upd_ne (ne_of_none e n)]; exact e
    · have hl : i = ρ.length := by
        have := (List.getElem?_eq_some_iff.mp e1).1
        rw [List.length_append] at this
        simp at this
        omega
      subst hl
      rw [List.getElem?_append_right (Nat.le_refl _)] at e1
      rw [List.getElem?_append_right (by rw [ok.len]; exact Nat.le_refl _), ok.len] at e2
      simp at e1 e2
      subst e1 e2
      exact hb
/-- an object that is told of is written -/
theorem Ext.write {i : Nat} {p : Addr} {o : HO} (ok : HeapOk C ρ h H) (e : ρ[i]? = some p) : Ext ρ ρ H (upd H p o) := by
  obtain ⟨u, hu, mu⟩ := ok.mem (List.mem_of_getElem? e)
  refine ⟨⟨[], by simp⟩, fun a v hv ha => ?_, fun _ m m' => absurd m m', fun a xs hx => ?_, fun a b v hx => ?_⟩
  · rw [upd_ne (fun z => ha (by rw [z]; exact List.mem_of_getElem? e))]; exact hv
  · rw [upd_ne (fun z => by subst z; rw [hx] at hu; cases hu; exact mu)]; exact hx
  · rw [upd_ne (fun z => by subst z; rw [hx] at hu; cases hu; exact mu)]; exact hx
theorem HeapOk.write {i : Nat} {p : Addr} {o : HO} {b : Ob} (ok : HeapOk C ρ h H) (e : ρ[i]? = some p) (hb : ObOk C ρ (upd H p o) p b) : HeapOk C ρ (h.set i b) (upd H p o) := by
  refine ⟨by rw [List.length_set]; exact ok.len, ok.nd, fun j a u e1 e2 => ?_⟩
  by_cases hj : i = j
  · subst hj
    have e3 : a = p := Option.some.inj (e1.symm.trans e)
    subst e3
    have hi : i < h.length := by rw [← ok.len]; exact (List.getElem?_eq_some_iff.mp e).1
    rw [List.getElem?_set_self hi] at e2
    cases e2
    exact hb
  · rw [List.getElem?_set_ne hj] at e2
    have hne : a ≠ p := fun z => by
      subst z
      have h1 := List.getElem?_eq_some_iff.mp e
      have h2 := List.getElem?_eq_some_iff.mp e1
      obtain ⟨l1, q1⟩ := h1
      obtain ⟨l2, q2⟩ := h2
      exact hj ((List.getElem_inj ok.nd).mp (q1.trans q2.symm))
    exact (ok.ob j a u e1 e2).mono (Ext.write ok e) fun w q => by rw [upd_ne hne]; exact q
end

/-! ### results -/
inductive Res (α : Type) where
  | ok (a : α) (h : Hs)
  | exc (c : Str) (h : Hs)
  | stuck
def Res.bind {α β : Type} (r : Res α) (k : α → Hs → Res β) : Res β := match r with
  | .ok a h => k a h
  | .exc c h => .exc c h
  | .stuck => .stuck
def Pst {α : Type} (C : Cc) (W : WX) (ρ : List Addr) (σ : L2.St) (H : Hp) (r : Res α) (G : α → Hs → List Addr → Hp → Prop) : Prop := match r with
  | .ok a h => ∀ ρ' H', Ext ρ ρ' H H' → HeapOk C ρ' h H' → G a h ρ' H'
  | .exc c h => ∀ ρ' H' a, Ext ρ ρ' H H' → HeapOk C ρ' h H' → C.mg c = some (.ref a) → W (.ref a) none σ H'
  | .stuck => False
section
variable {α β : Type} {C : Cc} {W : WX} {ρ ρ1 : List Addr} {σ : L2.St} {H H1 : Hp} {r : Res α} {k : α → Hs → Res β} {G : β → Hs → List Addr → Hp → Prop} {G1 : α → Hs → List Addr → Hp → Prop}
theorem Pst.mono (p : Pst C W ρ σ H r G1) (e : Ext ρ ρ1 H H1) : Pst C W ρ1 σ H1 r G1 := by
  cases r with
  | ok a h => exact fun ρ' H' e1 => p ρ' H' (e.trans e1)
  | exc c h => exact fun ρ' H' a e1 => p ρ' H' a (e.trans e1)
  | stuck => exact p
theorem Pst.bind (p : Pst C W ρ σ H (r.bind k) G) : Pst C W ρ σ H r (fun a h1 ρ1 H1 => Pst C W ρ1 σ H1 (k a h1) G) := by
  cases r with
  | ok a h => exact fun ρ' H' e1 _ => Pst.mono (r := k a h) p e1
  | exc c h => exact p
  | stuck => exact p
theorem Pst.imp {G2 : α → Hs → List Addr → Hp → Prop} (p : Pst C W ρ σ H r G1) (h : ∀ a h' ρ' H', Ext ρ ρ' H H' → HeapOk C ρ' h' H' → G1 a h' ρ' H' → G2 a h' ρ' H') : Pst C W ρ σ H r G2 := by
  cases r with
  | ok a h1 => exact fun ρ' H' e1 e2 => h _ _ _ _ e1 e2 (p ρ' H' e1 e2)
  | exc c h => exact p
  | stuck => exact p
end
def GV (C : Cc) (Q : VK) : D → Hs → List Addr → Hp → Prop := fun d _ ρ H => ∀ v, Emb C ρ H d v → Q v H
def GB (Q : Bool → Hp → Prop) : Bool → Hs → List Addr → Hp → Prop := fun b _ _ H => Q b H
def GA (C : Cc) (Q : List V → Hp → Prop) : List D → Hs → List Addr → Hp → Prop := fun ds _ ρ H => ∀ vs, Embs C ρ H ds vs → Q vs H
/-- a new list of such items -/
def GL (C : Cc) (Q : VK) : List D → Hs → List Addr → Hp → Prop := fun ds _ ρ H => ∀ p vs, H p = none → Embs C ρ H ds vs → Q (.ref p) (upd H p (.lst vs))

structure EnvOk (C : Cc) (ρ : List Addr) (H : Hp) (env : Sl) (σ : L2.St) : Prop where
  len : env.length = σ.length
  at_ : ∀ (i : Nat) (d : D), env[i]? = some (some d) → ∃ v, σ[i]? = some (some v) ∧ Emb C ρ H d v
theorem EnvOk.mono {C : Cc} {ρ ρ1 : List Addr} {H H1 : Hp} {env : Sl} {σ : L2.St} (h : EnvOk C ρ H env σ) (e : Ext ρ ρ1 H H1) : EnvOk C ρ1 H1 env σ :=
  ⟨h.len, fun i d q => let ⟨v, q1, q2⟩ := h.at_ i d q; ⟨v, q1, q2.mono e⟩⟩
theorem EnvOk.set {C : Cc} {ρ : List Addr} {H : Hp} {env : Sl} {σ : L2.St} (h : EnvOk C ρ H env σ) {d : D} {v : V} (hd : Emb C ρ H d v) (i : Nat) : EnvOk C ρ H (env.set i (some d)) (σ.set i (some v)) := by
  refine ⟨by rw [List.length_set, List.length_set]; exact h.len, fun j d' q => ?_⟩
  by_cases hj : i = j
  · subst hj
    have hi : i < env.length := by
      have := (List.getElem?_eq_some_iff.mp q).1
      rwa [List.length_set] at this
    rw [List.getElem?_set_self hi] at q
    cases q
    exact ⟨v, by rw [List.getElem?_set_self (by rw [← h.len]; exact hi)], hd⟩
  · rw [List.getElem?_set_ne hj] at q
    obtain ⟨v', q1, q2⟩ := h.at_ j d' q
    exact ⟨v', by rw [List.getElem?_set_ne hj]; exact q1, q2⟩

/-! ### sound readings -/
abbrev XE := Sl → Hs → Res D
abbrev XB := Sl → Hs → Res Bool
abbrev XA := Sl → Hs → Res (List D)
structure SoE (C : Cc) (W : WX) (te : TE) (f : XE) : Prop where
  go : ∀ {env h ρ σ H Q}, EnvOk C ρ H env σ → HeapOk C ρ h H → Pst C W ρ σ H (f env h) (GV C Q) → te σ H Q
structure SoB (C : Cc) (W : WX) (te : TT) (f : XB) : Prop where
  go : ∀ {env h ρ σ H Q}, EnvOk C ρ H env σ → HeapOk C ρ h H → Pst C W ρ σ H (f env h) (GB Q) → te σ H Q
structure SoA (C : Cc) (W : WX) (te : TA) (f : XA) : Prop where
  go : ∀ {env h ρ σ H Q}, EnvOk C ρ H env σ → HeapOk C ρ h H → Pst C W ρ σ H (f env h) (GA C Q) → te σ H Q
/-- a new list -/
structure SoL (C : Cc) (W : WX) (te : TE) (f : XA) : Prop where
  go : ∀ {env h ρ σ H Q}, EnvOk C ρ H env σ → HeapOk C ρ h H → Pst C W ρ σ H (f env h) (GL C Q) → te σ H Q
structure FE (X : Cx) (W : WX) (e : Expr) (te : TE) (f : XE) : Prop where
  pe : PE X e te
  so : SoE ⟨X.K, X.mg⟩ W te f
structure FLs (X : Cx) (W : WX) (e : Expr) (te : TE) (f : XA) : Prop where
  pe : PE X e te
  so : SoL ⟨X.K, X.mg⟩ W te f
structure FT (X : Cx) (W : WX) (e : Expr) (te : TT) (f : XB) : Prop where
  pe : PT X e te
  so : SoB ⟨X.K, X.mg⟩ W te f
structure FW (X : Cx) (W : WX) (e : Expr) (te : TT) (f : XB) : Prop where
  pe : PW X e te
  so : SoB ⟨X.K, X.mg⟩ W te f
structure FAs (X : Cx) (W : WX) (es : List Expr) (te : TA) (f : XA) : Prop where
  pe : PA X es te
  so : SoA ⟨X.K, X.mg⟩ W te f
/-- a new list as a value -/
def xNew (f : XA) : XE := fun env h => (f env h).bind fun ds h1 => .ok (.ref h1.length) (h1 ++ [.lst ds])
theorem SoL.val {C : Cc} {W : WX} {te : TE} {f : XA} (s : SoL C W te f) : SoE C W te (xNew f) := ⟨fun {env h ρ σ H Q} he hh hp => by
  refine s.go he hh ((Pst.bind hp).imp fun ds h1 ρ1 H1 e1 ok1 p1 => ?_)
  intro p vs n hs
  have e2 : Ext ρ1 (ρ1 ++ [p]) H1 (upd H1 p (.lst vs)) := Ext.laid n
  refine p1 (ρ1 ++ [p]) _ e2 (ok1.laid n ⟨vs, upd_same, hs.mono e2⟩) _ (.ref ?_)
  rw [← ok1.len, List.getElem?_append_right (Nat.le_refl _)]
  simp⟩
theorem FLs.val {X : Cx} {W : WX} {e : Expr} {te : TE} {f : XA} (s : FLs X W e te f) : FE X W e te (xNew f) := ⟨s.pe, s.so.val⟩
end FL

/-! FB: expressions. -/
namespace FL
open PySem PySem.Spec PyProof.Rows L2

/-! ### values -/
def xVar (i : Nat) : XE := fun env h => match env[i]? with
  | some (some d) => .ok d h
  | _ => .stuck
def xC (d : D) : XE := fun _ h => .ok d h
def xOp (g : D → D → Hs → Res D) (fa fb : XE) : XE := fun env h => (fa env h).bind fun d1 h1 => (fb env h1).bind fun d2 h2 => g d1 d2 h2
def xUn (g : D → Hs → Res D) (fa : XE) : XE := fun env h => (fa env h).bind fun d1 h1 => g d1 h1
def xNil : XA := fun _ h => .ok [] h
def xCons (fa : XE) (fr : XA) : XA := fun env h => (fa env h).bind fun d h1 => (fr env h1).bind fun ds h2 => .ok (d :: ds) h2
def xTup (fa : XA) : XE := fun env h => (fa env h).bind fun ds h1 => if ds.length ≤ 100000 then .ok (.tup ds) h1 else .stuck
def xLst (fa : XA) : XA := fun env h => (fa env h).bind fun ds h1 => if ds.length ≤ 100000 then .ok ds h1 else .stuck
/-- a value that is a bool, as a test -/
def xTest (f : XE) : XB := fun env h => (f env h).bind fun d h1 => match d with
  | .bl b => .ok b h1
  | _ => .stuck
def xAndB (f g : XB) : XB := fun env h => (f env h).bind fun b h1 => if b then g env h1 else .ok false h1
def xOrB (f g : XB) : XB := fun env h => (f env h).bind fun b h1 => if b then .ok true h1 else g env h1
def xNotB (f : XB) : XB := fun env h => (f env h).bind fun b h1 => .ok (!b) h1
def xAnd (f g : XE) : XE := fun env h => (f env h).bind fun d h1 => match d with
  | .bl b => if b then g env h1 else .ok (.bl false) h1
  | _ => .stuck
def xOr (f g : XE) : XE := fun env h => (f env h).bind fun d h1 => match d with
  | .bl b => if b then .ok (.bl true) h1 else g env h1
  | _ => .stuck
def xNot (f : XE) : XE := fun env h => (f env h).bind fun d h1 => match d with
  | .bl b => .ok (.bl (!b)) h1
  | _ => .stuck
def xIf (c : XB) (f g : XE) : XE := fun env h => (c env h).bind fun b h1 => if b then f env h1 else g env h1

theorem sz_ok {n : Nat} (h : n ≤ 100000) : n ≤ sizeLine := Nat.le_trans h (by decide)
theorem sz_lt' {n : Nat} (h : n < 100000) : n < sizeLine := Nat.lt_of_lt_of_le h (by decide)

section
variable {C : Cc} {W : WX} {te ta tb : TE} {f g fa fb : XE} {tA tr : TA} {fA fr : XA} {tt tu : TT} {c d : XB}
structure SoO (C : Cc) (W : WX) (r : R2) (op : D → D → Hs → Res D) : Prop where
  go : ∀ {h ρ σ H Q d1 d2 x y}, HeapOk C ρ h H → Emb C ρ H d1 x → Emb C ρ H d2 y → Pst C W ρ σ H (op d1 d2 h) (GV C Q) → r x y H Q
structure SoU (C : Cc) (W : WX) (r : V → Hp → VK → Prop) (op : D → Hs → Res D) : Prop where
  go : ∀ {h ρ σ H Q d1 x}, HeapOk C ρ h H → Emb C ρ H d1 x → Pst C W ρ σ H (op d1 h) (GV C Q) → r x H Q
structure SoC (C : Cc) (W : WX) (r : List V → Hp → VK → Prop) (op : List D → Hs → Res D) : Prop where
  go : ∀ {h ρ σ H Q ds xs}, HeapOk C ρ h H → Embs C ρ H ds xs → Pst C W ρ σ H (op ds h) (GV C Q) → r xs H Q
theorem so_var {i : Nat} : SoE C W (tVar i) (xVar i) := ⟨fun {env h ρ σ H Q} he hh hp => by
  unfold xVar at hp
  split at hp
  · rename_i d e
    obtain ⟨v, e1, hv⟩ := he.at_ i d e
    exact ⟨v, e1, hp ρ H Ext.refl hh v hv⟩
  · exact hp.elim⟩
theorem so_c {d : D} {v : V} (hd : ∀ ρ H, Emb C ρ H d v) : SoE C W (tC v) (xC d) := ⟨fun {env h ρ σ H Q} he hh hp => hp ρ H Ext.refl hh v (hd ρ H)⟩
theorem so_op {r : R2} {op : D → D → Hs → Res D} (ho : SoO C W r op) (ha : SoE C W ta fa) (hb : SoE C W tb fb) : SoE C W (tOp r ta tb) (xOp op fa fb) := ⟨fun {env h ρ σ H Q} he hh hp =>
  ha.go he hh ((Pst.bind hp).imp fun d1 h1 ρ1 H1 e1 ok1 p1 x hx =>
    hb.go (he.mono e1) ok1 ((Pst.bind p1).imp fun d2 h2 ρ2 H2 e2 ok2 p2 y hy => ho.go ok2 (hx.mono e2) hy p2))⟩
theorem so_un {r : V → Hp → VK → Prop} {op : D → Hs → Res D} (ho : SoU C W r op) (ha : SoE C W ta fa) : SoE C W (tUn r ta) (xUn op fa) := ⟨fun {env h ρ σ H Q} he hh hp =>
  ha.go he hh ((Pst.bind hp).imp fun d1 h1 ρ1 H1 e1 ok1 p1 x hx => ho.go ok1 hx p1)⟩
theorem so_nil : SoA C W tNil xNil := ⟨fun {env h ρ σ H Q} he hh hp => hp ρ H Ext.refl hh [] .nil⟩
theorem so_cons (ha : SoE C W ta fa) (hr : SoA C W tr fr) : SoA C W (tCons ta tr) (xCons fa fr) := ⟨fun {env h ρ σ H Q} he hh hp =>
  ha.go he hh ((Pst.bind hp).imp fun d1 h1 ρ1 H1 e1 ok1 p1 x hx =>
    hr.go (he.mono e1) ok1 ((Pst.bind p1).imp fun ds h2 ρ2 H2 e2 ok2 p2 xs hxs => p2 ρ2 H2 Ext.refl ok2 (x :: xs) (.cons (hx.mono e2) hxs)))⟩
theorem so_tup (ha : SoA C W tA fA) : SoE C W (tTup tA) (xTup fA) := ⟨fun {env h ρ σ H Q} he hh hp =>
  ha.go he hh ((Pst.bind hp).imp fun ds h1 ρ1 H1 e1 ok1 p1 xs hx => by
    split at p1
    · rename_i hl
      refine ⟨sz_ok (by rw [← hx.length]; exact hl), fun p n => ?_⟩
      exact p1 ρ1 _ (Ext.fresh n) (ok1.fresh n) _ (.tup (SqT.of upd_same) (hx.mono (Ext.fresh n)))
    · exact p1.elim)⟩
theorem so_lst (ha : SoA C W tA fA) : SoL C W (tLst tA) (xLst fA) := ⟨fun {env h ρ σ H Q} he hh hp =>
  ha.go he hh ((Pst.bind hp).imp fun ds h1 ρ1 H1 e1 ok1 p1 xs hx => by
    split at p1
    · rename_i hl
      refine ⟨sz_ok (by rw [← hx.length]; exact hl), fun p n => ?_⟩
      exact p1 ρ1 H1 Ext.refl ok1 p xs n hx
    · exact p1.elim)⟩
theorem bool_of {ρ : List Addr} {H : Hp} {d : D} {b : Bool} {v : V} (h : Emb C ρ H d v) (e : d = .bl b) : v = .bl b := by
  subst e
  cases h
  rfl
theorem so_test (ha : SoE C W ta fa) : SoB C W (tB ta) (xTest fa) := ⟨fun {env h ρ σ H Q} he hh hp =>
  ha.go he hh ((Pst.bind hp).imp fun d1 h1 ρ1 H1 e1 ok1 p1 x hx => by
    split at p1
    · cases hx
      exact ⟨_, rfl, p1 ρ1 H1 Ext.refl ok1⟩
    · exact p1.elim)⟩
theorem so_testT (ha : SoE C W ta fa) : SoB C W (tTest ta) (xTest fa) := ⟨fun {env h ρ σ H Q} he hh hp => (so_test ha).go he hh hp⟩
theorem so_andB (ha : SoB C W tt c) (hb : SoB C W tu d) : SoB C W (tAnd tt tu) (xAndB c d) := ⟨fun {env h ρ σ H Q} he hh hp =>
  ha.go he hh ((Pst.bind hp).imp fun b h1 ρ1 H1 e1 ok1 p1 => by
    cases b with
    | true =>
      rw [if_pos rfl] at p1
      exact (if_pos rfl : (if (true = true) then tu σ H1 Q else Q false H1) = _).mpr (hb.go (he.mono e1) ok1 p1)
    | false =>
      rw [if_neg (by decide)] at p1
      exact (if_neg Bool.false_ne_true : (if (false = true) then tu σ H1 Q else Q false H1) = _).mpr (p1 ρ1 H1 Ext.refl ok1))⟩
theorem so_orB (ha : SoB C W tt c) (hb : SoB C W tu d) : SoB C W (tOr tt tu) (xOrB c d) := ⟨fun {env h ρ σ H Q} he hh hp =>
  ha.go he hh ((Pst.bind hp).imp fun b h1 ρ1 H1 e1 ok1 p1 => by
    cases b with
    | true =>
      rw [if_pos rfl] at p1
      exact (if_pos rfl : (if (true = true) then Q true H1 else tu σ H1 Q) = _).mpr (p1 ρ1 H1 Ext.refl ok1)
    | false =>
      rw [if_neg (by decide)] at p1
      exact (if_neg Bool.false_ne_true : (if (false = true) then Q true H1 else tu σ H1 Q) = _).mpr (hb.go (he.mono e1) ok1 p1))⟩
theorem so_notB (ha : SoB C W tt c) : SoB C W (tNot tt) (xNotB c) := ⟨fun {env h ρ σ H Q} he hh hp =>
  ha.go he hh ((Pst.bind hp).imp fun b h1 ρ1 H1 e1 ok1 p1 => p1 ρ1 H1 Ext.refl ok1)⟩
theorem so_and (ha : SoE C W ta fa) (hb : SoE C W tb fb) : SoE C W (tAndV ta tb) (xAnd fa fb) := ⟨fun {env h ρ σ H Q} he hh hp =>
  ha.go he hh ((Pst.bind hp).imp fun d1 h1 ρ1 H1 e1 ok1 p1 x hx => by
    split at p1
    · rename_i b
      cases hx
      refine ⟨b, rfl, ?_⟩
      cases b with
      | true =>
        rw [if_pos rfl] at p1 ⊢
        exact hb.go (he.mono e1) ok1 p1
      | false =>
        rw [if_neg (by decide)] at p1 ⊢
        exact p1 ρ1 H1 Ext.refl ok1 _ (.bl _)
    · exact p1.elim)⟩
theorem so_or (ha : SoE C W ta fa) (hb : SoE C W tb fb) : SoE C W (tOrV ta tb) (xOr fa fb) := ⟨fun {env h ρ σ H Q} he hh hp =>
  ha.go he hh ((Pst.bind hp).imp fun d1 h1 ρ1 H1 e1 ok1 p1 x hx => by
    split at p1
    · rename_i b
      cases hx
      refine ⟨b, rfl, ?_⟩
      cases b with
      | true =>
        rw [if_pos rfl] at p1 ⊢
        exact p1 ρ1 H1 Ext.refl ok1 _ (.bl _)
      | false =>
        rw [if_neg (by decide)] at p1 ⊢
        exact hb.go (he.mono e1) ok1 p1
    · exact p1.elim)⟩
theorem so_not (ha : SoE C W ta fa) : SoE C W (tNotV ta) (xNot fa) := ⟨fun {env h ρ σ H Q} he hh hp =>
  ha.go he hh ((Pst.bind hp).imp fun d1 h1 ρ1 H1 e1 ok1 p1 x hx => by
    split at p1
    · rename_i b
      cases hx
      exact ⟨b, rfl, p1 ρ1 H1 Ext.refl ok1 _ (.bl _)⟩
    · exact p1.elim)⟩
theorem so_if (hc : SoB C W tt c) (ha : SoE C W ta fa) (hb : SoE C W tb fb) : SoE C W (tIf tt ta tb) (xIf c fa fb) := ⟨fun {env h ρ σ H Q} he hh hp =>
  hc.go he hh ((Pst.bind hp).imp fun b h1 ρ1 H1 e1 ok1 p1 => by
    cases b with
    | true =>
      rw [if_pos rfl] at p1
      exact (if_pos rfl : (if (true = true) then ta σ H1 Q else tb σ H1 Q) = _).mpr (ha.go (he.mono e1) ok1 p1)
    | false =>
      rw [if_neg (by decide)] at p1
      exact (if_neg Bool.false_ne_true : (if (false = true) then ta σ H1 Q else tb σ H1 Q) = _).mpr (hb.go (he.mono e1) ok1 p1))⟩
end

section
variable {X : Cx} {W : WX} {a b e : Expr} {es rest : List Expr} {ta tb te : TE} {fa fb f : XE} {pos : Pos} {tA : TA} {fA : XA} {tt tu : TT} {c d : XB}
abbrev cc (X : Cx) : Cc := ⟨X.K, X.mg⟩
theorem fv (i : Nat) {x : Str} {pos : Pos} (hN : X.N[i]? = some x := by rfl) (hv : Vis X.env.scope x := by first | exact Or.inl rfl | exact Or.inr (Or.inl rfl) | exact Or.inr (Or.inr rfl))
    (hd : (x == ("__debug__" : Str)) = false := by decide +kernel) (hcd : (x == ("__classdict__" : Str)) = false := by decide +kernel) : FE X W (.Name x pos) (tVar i) (xVar i) := ⟨pe_var hN hv hd hcd, so_var⟩
theorem fint {i j pos} : FE X W (.Constant (.int i) j pos) (tC (.int i)) (xC (.int i)) := ⟨pe_int, so_c fun _ _ => .int i⟩
theorem fbl {i j pos} : FE X W (.Constant (.bool i) j pos) (tC (.bl i)) (xC (.bl i)) := ⟨pe_bl, so_c fun _ _ => .bl i⟩
theorem fnon {j pos} : FE X W (.Constant .none j pos) (tC .non) (xC .non) := ⟨pe_non, so_c fun _ _ => .non⟩
theorem fstr (cs : List Nat) {x : Str} {j pos} (h : x = ⟨cs.toArray⟩ := by decide +kernel) : FE X W (.Constant (.str x) j pos) (tC (.str ⟨cs.toArray⟩)) (xC (.str cs)) := by
  subst h
  exact ⟨pe_str, so_c fun _ _ => .str cs⟩
/-- a module's constant: an int, a text -/
theorem fgi {x : Str} {i : Int} {t : Tok} {pos : Pos} (hg : Gl X x) (hm : X.mg x = some (.int i t)) (hd : (x == ("__debug__" : Str)) = false := by decide +kernel) : FE X W (.Name x pos) (tC (.int i)) (xC (.int i)) :=
  ⟨pe_glob hg hm ⟨t, rfl⟩ hd, so_c fun _ _ => .int i⟩
theorem fgs (cs : List Nat) {x : Str} {t : Tok} {pos : Pos} (hg : Gl X x) (hm : X.mg x = some (.str ⟨cs.toArray⟩ t)) (hd : (x == ("__debug__" : Str)) = false := by decide +kernel) : FE X W (.Name x pos) (tC (.str ⟨cs.toArray⟩)) (xC (.str cs)) :=
  ⟨pe_glob hg hm ⟨t, rfl⟩ hd, so_c fun _ _ => .str cs⟩
/-- a def or a class of the module as a value -/
theorem fgo {x : Str} {a : Addr} {pos : Pos} (hg : Gl X x) (hm : X.mg x = some (.ref a)) (hd : (x == ("__debug__" : Str)) = false := by decide +kernel) : FE X W (.Name x pos) (tC (.ref a)) (xC (.gl x)) :=
  ⟨pe_glob hg hm rfl hd, so_c fun _ _ => .gl hm⟩
theorem fop {op : Operator} {r : R2} {o : D → D → Hs → Res D} (hr : OpR X (binaryOp op) r) (ho : SoO (cc X) W r o) (ha : FE X W a ta fa) (hb : FE X W b tb fb) : FE X W (.BinOp a op b pos) (tOp r ta tb) (xOp o fa fb) :=
  ⟨pe_op hr ha.pe hb.pe, so_op ho ha.so hb.so⟩
theorem fun1 {op : UnaryOp} {r : V → Hp → VK → Prop} {o : D → Hs → Res D} (hr : UnR X (unaryOp op) r) (ho : SoU (cc X) W r o) (ha : FE X W a ta fa) : FE X W (.UnaryOp op a pos) (tUn r ta) (xUn o fa) :=
  ⟨pe_un hr ha.pe, so_un ho ha.so⟩
theorem fcmp {op : CmpOp} {r : R2} {o : D → D → Hs → Res D} (hr : OpR X (compareOp op) r) (ho : SoO (cc X) W r o) (hm : behindInMarks op b = false) (ha : FE X W a ta fa) (hb : FE X W b tb fb) : FE X W (.Compare a [op] [b] pos) (tOp r ta tb) (xOp o fa fb) :=
  ⟨pe_cmpR hr ha.pe hb.pe hm, so_op ho ha.so hb.so⟩
theorem fcmpT {op : CmpOp} {r : R2} {o : D → D → Hs → Res D} (hr : OpR X (compareOp op) r) (ho : SoO (cc X) W r o) (hm : behindInMarks op b = false) (ha : FE X W a ta fa) (hb : FE X W b tb fb) : FT X W (.Compare a [op] [b] pos) (tTest (tOp r ta tb)) (xTest (xOp o fa fb)) :=
  ⟨pt_cmpR hr ha.pe hb.pe hm, so_testT (so_op ho ha.so hb.so)⟩
theorem fval (h : FE X W e te f) (he : ∀ whole, isTrue e X.env whole = (do let v ← whole; standAt e.pos; holding [v] (truthy v)) := by intro _; rfl) : FT X W e (tB te) (xTest f) := ⟨pt_val h.pe he, so_test h.so⟩
theorem fw_and1 (ha : FT X W a tt c) : FW X W (.BoolOp .And [a] pos) tt c := ⟨pw_and1 ha.pe, ha.so⟩
theorem fw_or1 (ha : FT X W a tt c) : FW X W (.BoolOp .Or [a] pos) tt c := ⟨pw_or1 ha.pe, ha.so⟩
theorem fw_and (ha : FT X W a tt c) (hb : FW X W (.BoolOp .And (b :: rest) pos) tu d) : FW X W (.BoolOp .And (a :: b :: rest) pos) (tAnd tt tu) (xAndB c d) := ⟨pw_and ha.pe hb.pe, so_andB ha.so hb.so⟩
theorem fw_or (ha : FT X W a tt c) (hb : FW X W (.BoolOp .Or (b :: rest) pos) tu d) : FW X W (.BoolOp .Or (a :: b :: rest) pos) (tOr tt tu) (xOrB c d) := ⟨pw_or ha.pe hb.pe, so_orB ha.so hb.so⟩
theorem fwt (h : FW X W e tt c) : FT X W e tt c := ⟨h.pe.pt, h.so⟩
theorem fnotT (ha : FT X W a tt c) : FT X W (.UnaryOp .Not a pos) (tNot tt) (xNotB c) := ⟨pt_not ha.pe, so_notB ha.so⟩
theorem fone {op} (h : FE X W a ta fa) : FE X W (.BoolOp op [a] pos) ta fa := ⟨pe_one h.pe, h.so⟩
theorem fand (ha : FE X W a ta fa) (hb : FE X W (.BoolOp .And (b :: rest) pos) tb fb) : FE X W (.BoolOp .And (a :: b :: rest) pos) (tAndV ta tb) (xAnd fa fb) := ⟨pe_and ha.pe hb.pe, so_and ha.so hb.so⟩
theorem for_ (ha : FE X W a ta fa) (hb : FE X W (.BoolOp .Or (b :: rest) pos) tb fb) : FE X W (.BoolOp .Or (a :: b :: rest) pos) (tOrV ta tb) (xOr fa fb) := ⟨pe_or ha.pe hb.pe, so_or ha.so hb.so⟩
theorem fnot (ha : FE X W a ta fa) : FE X W (.UnaryOp .Not a pos) (tNotV ta) (xNot fa) := ⟨pe_not ha.pe, so_not ha.so⟩
theorem fif {q : Expr} (hc : FT X W q tt c) (ha : FE X W a ta fa) (hb : FE X W b tb fb) : FE X W (.IfExp q a b pos) (tIf tt ta tb) (xIf c fa fb) := ⟨pe_ifExp hc.pe ha.pe hb.pe, so_if hc.so ha.so hb.so⟩
theorem fa_nil : FAs X W [] tNil xNil := ⟨pa_nil, so_nil⟩
theorem fa_cons (ha : FE X W e te f) (hr : FAs X W es tA fA) (hs : starEach (e :: es) X.env = (false, eval e X.env) :: starEach es X.env := by rfl) : FAs X W (e :: es) (tCons te tA) (xCons f fA) := ⟨pa_cons ha.pe hr.pe hs, so_cons ha.so hr.so⟩
theorem ftup {k} (h : FAs X W es tA fA) : FE X W (.Tuple es k pos) (tTup tA) (xTup fA) := ⟨pe_tup h.pe, so_tup h.so⟩
theorem flst (h : FAs X W es tA fA) : FLs X W (.List es pos) (tLst tA) (xLst fA) := ⟨pe_lst h.pe, so_lst h.so⟩
end

/-! ### int operations -/
section
variable {C : Cc} {W : WX}
theorem int2 {ρ : List Addr} {H : Hp} {i : Int} {v : V} (h : Emb C ρ H (.int i) v) : v = .int i := by
  cases h
  rfl
def dI (P : Int → Int → Bool) (g : Int → Int → D) : D → D → Hs → Res D := fun a b h => match a, b with
  | .int i, .int j => if P i j then .ok (g i j) h else .stuck
  | _, _ => .stuck
theorem so_I {P : Int → Int → Bool} {p : Int → Int → Prop} {g : Int → Int → V} {gd : Int → Int → D} (hg : ∀ i j ρ H, Emb C ρ H (gd i j) (g i j)) (hp : ∀ i j, P i j = true → p i j) : SoO C W (rI p g) (dI P gd) := ⟨fun {h ρ σ H Q d1 d2 x y} hh hx hy hq => by
  unfold dI at hq
  split at hq
  · split at hq
    · rename_i i j hP
      cases hx
      cases hy
      exact ⟨i, j, rfl, rfl, hp i j hP, hq ρ H Ext.refl hh _ (hg i j ρ H)⟩
    · exact hq.elim
  · exact hq.elim⟩
def dI0 (g : Int → Int → D) : D → D → Hs → Res D := fun a b h => match a, b with
  | .int i, .int j => .ok (g i j) h
  | _, _ => .stuck
theorem so_I0 {g : Int → Int → V} {gd : Int → Int → D} (hg : ∀ i j ρ H, Emb C ρ H (gd i j) (g i j)) : SoO C W (rI0 g) (dI0 gd) := ⟨fun {h ρ σ H Q d1 d2 x y} hh hx hy hq => by
  unfold dI0 at hq
  split at hq
  · rename_i i j
    cases hx
    cases hy
    exact ⟨i, j, rfl, rfl, hq ρ H Ext.refl hh _ (hg i j ρ H)⟩
  · exact hq.elim⟩
end
end FL

/-! FC: statements, targets, loops. -/
namespace FL
open PySem PySem.Spec PyProof.Rows L2

inductive SRes where
  | nx (env : Sl) (h : Hs)
  | rt (d : D) (h : Hs)
  | bk (env : Sl) (h : Hs)
  | ct (env : Sl) (h : Hs)
  | exc (c : Str) (env : Sl) (h : Hs)
  | stuck
abbrev XS := Sl → Hs → SRes
def Res.andS {α : Type} (r : Res α) (env : Sl) (k : α → Hs → SRes) : SRes := match r with
  | .ok a h => k a h
  | .exc c h => .exc c env h
  | .stuck => .stuck
def SRes.seq (r : SRes) (k : XS) : SRes := match r with
  | .nx env h => k env h
  | .rt d h => .rt d h
  | .bk env h => .bk env h
  | .ct env h => .ct env h
  | .exc c env h => .exc c env h
  | .stuck => .stuck
def PsS (C : Cc) (W : WX) (ρ : List Addr) (H : Hp) (D : Ends) : SRes → Prop
  | .nx env h => ∀ ρ' σ' H', Ext ρ ρ' H H' → HeapOk C ρ' h H' → EnvOk C ρ' H' env σ' → D.nx σ' H'
  | .rt d h => ∀ ρ' v H', Ext ρ ρ' H H' → HeapOk C ρ' h H' → Emb C ρ' H' d v → D.rt v H'
  | .bk env h => ∀ ρ' σ' H', Ext ρ ρ' H H' → HeapOk C ρ' h H' → EnvOk C ρ' H' env σ' → D.bk σ' H'
  | .ct env h => ∀ ρ' σ' H', Ext ρ ρ' H H' → HeapOk C ρ' h H' → EnvOk C ρ' H' env σ' → D.ct σ' H'
  | .exc c env h => ∀ ρ' σ' H' a, Ext ρ ρ' H H' → HeapOk C ρ' h H' → EnvOk C ρ' H' env σ' → C.mg c = some (.ref a) → W (.ref a) none σ' H'
  | .stuck => False
section
variable {C : Cc} {W : WX} {ρ ρ1 : List Addr} {σ : L2.St} {H H1 : Hp} {Dn : Ends} {r : SRes}
theorem PsS.mono (p : PsS C W ρ H Dn r) (e : Ext ρ ρ1 H H1) : PsS C W ρ1 H1 Dn r := by
  cases r with
  | nx env h => exact fun ρ' σ' H' e1 => p ρ' σ' H' (e.trans e1)
  | rt d h => exact fun ρ' σ' H' e1 => p ρ' σ' H' (e.trans e1)
  | bk env h => exact fun ρ' σ' H' e1 => p ρ' σ' H' (e.trans e1)
  | ct env h => exact fun ρ' σ' H' e1 => p ρ' σ' H' (e.trans e1)
  | exc c env h => exact fun ρ' σ' H' a e1 => p ρ' σ' H' a (e.trans e1)
  | stuck => exact p
theorem PsS.andS {α : Type} {q : Res α} {env : Sl} {k : α → Hs → SRes} (he : EnvOk C ρ H env σ) (p : PsS C W ρ H Dn (q.andS env k)) : Pst C W ρ σ H q (fun a h1 ρ1 H1 => PsS C W ρ1 H1 Dn (k a h1)) := by
  cases q with
  | ok a h => exact fun ρ' H' e1 _ => PsS.mono (r := k a h) p e1
  | exc c h => exact fun ρ' H' a e1 ok1 hm => p ρ' σ H' a e1 ok1 (he.mono e1) hm
  | stuck => exact p
end
structure SoS (C : Cc) (W : WX) (t : TS) (f : XS) : Prop where
  go : ∀ {env h ρ σ H Dn}, EnvOk C ρ H env σ → HeapOk C ρ h H → PsS C W ρ H Dn (f env h) → t Dn σ H
structure FS (X : Cx) (W : WX) (s : Stmt) (t : TS) (f : XS) : Prop where
  ps : PS X s t
  so : SoS (cc X) W t f
structure FSs (X : Cx) (W : WX) (s : List Stmt) (t : TS) (f : XS) : Prop where
  ps : PSs X s t
  so : SoS (cc X) W t f

/-! ### targets -/
structure SoG (C : Cc) (vs : List Nat) (g : TG) (G : D → Sl → Option Sl) : Prop where
  go : ∀ {ρ H env σ d v env' Q}, EnvOk C ρ H env σ → Emb C ρ H d v → G d env = some env' → (∀ σ', EnvOk C ρ H env' σ' → wipe σ' vs = wipe σ vs → Q σ' H) → g v σ H Q
structure SoGs (C : Cc) (vs : List Nat) (g : TGs) (G : List D → Sl → Option Sl) : Prop where
  go : ∀ {ρ H env σ ds xs env' Q}, EnvOk C ρ H env σ → Embs C ρ H ds xs → G ds env = some env' → (∀ σ', EnvOk C ρ H env' σ' → wipe σ' vs = wipe σ vs → Q σ' H) → g xs σ H Q
def gSet (i : Nat) : D → Sl → Option Sl := fun d env => some (env.set i (some d))
def gsNil : List D → Sl → Option Sl := fun ds env => match ds with
  | [] => some env
  | _ => none
def gsCons (G : D → Sl → Option Sl) (Gs : List D → Sl → Option Sl) : List D → Sl → Option Sl := fun ds env => match ds with
  | d :: r => match G d env with
    | some e => Gs r e
    | none => none
  | [] => none
def gTuple (n : Nat) (Gs : List D → Sl → Option Sl) : D → Sl → Option Sl := fun d env => match d with
  | .tup ds => if ds.length = n then Gs ds env else none
  | _ => none
theorem wipe_set {σ : L2.St} {i : Nat} {x : Option V} : ∀ {vs : List Nat}, i ∈ vs → wipe (σ.set i x) vs = wipe σ vs
  | [], h => by cases h
  | v :: vs, h => by
    unfold wipe
    by_cases hv : i ∈ vs
    · rw [wipe_set hv]
    · have e : i = v := by
        rcases List.mem_cons.mp h with e | e
        · exact e
        · exact absurd e hv
      subst e
      have q : ∀ (ws : List Nat), i ∉ ws → wipe (σ.set i x) ws = (wipe σ ws).set i x := by
        intro ws
        induction ws with
        | nil => intro _; rfl
        | cons w ws ih =>
          intro hw
          have h1 : i ≠ w := fun e => hw (by rw [e]; exact List.mem_cons_self)
          have h2 : i ∉ ws := fun e => hw (List.mem_cons_of_mem _ e)
          unfold wipe
          rw [ih h2, List.set_comm _ _ h1]
      rw [q vs hv, List.set_set]
section
variable {C : Cc} {vs : List Nat}
theorem so_gname {i : Nat} (hi : i ∈ vs) : SoG C vs (gName i) (gSet i) := ⟨fun {ρ H env σ d v env' Q} he hd hg q => by
  unfold gSet at hg
  cases hg
  exact q _ (he.set hd i) (wipe_set hi)⟩
theorem so_gnil : SoGs C vs gNil gsNil := ⟨fun {ρ H env σ ds xs env' Q} he hd hg q => by
  unfold gsNil at hg
  split at hg
  · cases hg
    cases hd
    exact ⟨rfl, q σ he rfl⟩
  · cases hg⟩
theorem so_gcons {g : TG} {G : D → Sl → Option Sl} {gs : TGs} {Gs : List D → Sl → Option Sl} (h1 : SoG C vs g G) (h2 : SoGs C vs gs Gs) : SoGs C vs (gCons g gs) (gsCons G Gs) := ⟨fun {ρ H env σ ds xs env' Q} he hd hg q => by
  unfold gsCons at hg
  split at hg
  · rename_i d r
    split at hg
    · rename_i e e1
      cases hd with
      | cons hd hr =>
        refine ⟨_, _, rfl, h1.go he hd e1 fun σ1 he1 w1 => ?_⟩
        exact h2.go he1 hr hg fun σ2 he2 w2 => q σ2 he2 (w2.trans w1)
    · cases hg
  · cases hg⟩
theorem so_gtup {n : Nat} {gs : TGs} {Gs : List D → Sl → Option Sl} (h : SoGs C vs gs Gs) : SoG C vs (gTup C.K n gs) (gTuple n Gs) := ⟨fun {ρ H env σ d v env' Q} he hd hg q => by
  unfold gTuple at hg
  split at hg
  · split at hg
    · rename_i ds hl
      cases hd with
      | tup hs hx => exact ⟨_, _, rfl, hs, by rw [← hx.length]; exact hl, h.go he hx hg q⟩
    · cases hg
  · cases hg⟩
end

/-! ### plain statements -/
def sNext : XS := fun env h => .nx env h
def sStuck : XS := fun _ _ => .stuck
def sSeq (f g : XS) : XS := fun env h => (f env h).seq g
def sDrop (f : XE) : XS := fun env h => (f env h).andS env fun _ h1 => .nx env h1
def sRet (f : XE) : XS := fun env h => (f env h).andS env fun d h1 => .rt d h1
def sRetN : XS := fun _ h => .rt .non h
def sIf (c : XB) (f g : XS) : XS := fun env h => (c env h).andS env fun b h1 => if b then f env h1 else g env h1
def sAsg (f : XE) (G : D → Sl → Option Sl) : XS := fun env h => (f env h).andS env fun d h1 => match G d env with
  | some e => .nx e h1
  | none => .stuck
def sBreak : XS := fun env h => .bk env h
def sCont : XS := fun env h => .ct env h
section
variable {C : Cc} {W : WX} {t u : TS} {f g : XS} {te : TE} {x : XE} {tt : TT} {c : XB}
theorem so_next : SoS C W tNext sNext := ⟨fun {env h ρ σ H Dn} he hh hp => hp ρ σ H Ext.refl hh he⟩
theorem so_never : SoS C W tNever sStuck := ⟨fun {env h ρ σ H Dn} he hh hp => hp.elim⟩
theorem so_break : SoS C W tBreak sBreak := ⟨fun {env h ρ σ H Dn} he hh hp => hp ρ σ H Ext.refl hh he⟩
theorem so_cont : SoS C W tCont sCont := ⟨fun {env h ρ σ H Dn} he hh hp => hp ρ σ H Ext.refl hh he⟩
theorem so_seq (h1 : SoS C W t f) (h2 : SoS C W u g) : SoS C W (tSeq t u) (sSeq f g) := ⟨fun {env h ρ σ H Dn} he hh hp => by
  refine h1.go he hh ?_
  have hp' : PsS C W ρ H Dn ((f env h).seq g) := hp
  revert hp'
  cases f env h with
  | nx e h' => exact fun hp ρ' σ' H' e1 ok1 en1 => h2.go en1 ok1 (PsS.mono hp e1)
  | rt d h' => exact fun hp => hp
  | bk e h' => exact fun hp => hp
  | ct e h' => exact fun hp => hp
  | exc c e h' => exact fun hp => hp
  | stuck => exact fun hp => hp⟩
theorem so_drop (hx : SoE C W te x) : SoS C W (tDrop te) (sDrop x) := ⟨fun {env h ρ σ H Dn} he hh hp =>
  hx.go he hh ((PsS.andS he hp).imp fun d h1 ρ1 H1 e1 ok1 p1 v hv => p1 ρ1 σ H1 Ext.refl ok1 (he.mono e1))⟩
theorem so_ret (hx : SoE C W te x) : SoS C W (tRet te) (sRet x) := ⟨fun {env h ρ σ H Dn} he hh hp =>
  hx.go he hh ((PsS.andS he hp).imp fun d h1 ρ1 H1 e1 ok1 p1 v hv => p1 ρ1 v H1 Ext.refl ok1 hv)⟩
theorem so_retN : SoS C W tRetN sRetN := ⟨fun {env h ρ σ H Dn} he hh hp => hp ρ .non H Ext.refl hh .non⟩
theorem so_ifS (hc : SoB C W tt c) (h1 : SoS C W t f) (h2 : SoS C W u g) : SoS C W (tIfS tt t u) (sIf c f g) := ⟨fun {env h ρ σ H Dn} he hh hp =>
  hc.go he hh ((PsS.andS he hp).imp fun b h' ρ1 H1 e1 ok1 p1 => by
    cases b with
    | true => exact (if_pos rfl : (if (true = true) then t Dn σ H1 else u Dn σ H1) = _).mpr (h1.go (he.mono e1) ok1 p1)
    | false => exact (if_neg Bool.false_ne_true : (if (false = true) then t Dn σ H1 else u Dn σ H1) = _).mpr (h2.go (he.mono e1) ok1 p1))⟩
theorem so_asg {vs : List Nat} {gt : TG} {G : D → Sl → Option Sl} (hx : SoE C W te x) (hg : SoG C vs gt G) : SoS C W (tAsg te gt) (sAsg x G) := ⟨fun {env h ρ σ H Dn} he hh hp =>
  hx.go he hh ((PsS.andS he hp).imp fun d h1 ρ1 H1 e1 ok1 p1 v hv => by
    revert p1
    cases q : G d env with
    | none => exact fun p1 => p1.elim
    | some e => exact fun p1 => hg.go (he.mono e1) hv q fun σ' he' _ => p1 ρ1 σ' H1 Ext.refl ok1 he')⟩
end
section
variable {X : Cx} {W : WX} {s : Stmt} {rest : List Stmt} {t u : TS} {f g : XS} {e : Expr} {te : TE} {x : XE} {tt : TT} {c : XB} {pos : Pos}
theorem fs_nil : FSs X W [] tNext sNext := ⟨pss_nil, so_next⟩
theorem fs_cons (h1 : FS X W s t f) (h2 : FSs X W rest u g) : FSs X W (s :: rest) (tSeq t u) (sSeq f g) := ⟨pss_cons h1.ps h2.ps, so_seq h1.so h2.so⟩
theorem fs_one (h1 : FS X W s t f) : FSs X W [s] t f := ⟨pss_one h1.ps, h1.so⟩
theorem fs_pass : FS X W (.Pass pos) tNext sNext := ⟨ps_pass, so_next⟩
theorem fs_break : FS X W (.Break pos) tBreak sBreak := ⟨ps_break, so_break⟩
theorem fs_cont : FS X W (.Continue pos) tCont sCont := ⟨ps_continue, so_cont⟩
theorem fs_never : FS X W s tNever sStuck := ⟨ps_never, so_never⟩
theorem fs_expr (h : FE X W e te x) (hs : swapsWith e none pos.line X.env = pure false := by rfl) : FS X W (.Expr e pos) (tDrop te) (sDrop x) := ⟨ps_expr h.pe hs, so_drop h.so⟩
theorem fs_ret (h : FE X W e te x) : FS X W (.Return (some e) pos) (tRet te) (sRet x) := ⟨ps_ret h.pe, so_ret h.so⟩
theorem fs_retN : FS X W (.Return none pos) tRetN sRetN := ⟨ps_retN, so_retN⟩
theorem fs_if {q : Expr} {a b : List Stmt} (hc : FT X W q tt c) (h1 : FSs X W a t f) (h2 : FSs X W b u g) : FS X W (.If q a b pos) (tIfS tt t u) (sIf c f g) := ⟨ps_if hc.pe h1.ps h2.ps, so_ifS hc.so h1.so h2.so⟩
theorem fs_set {i : Nat} {y : Str} {pos' : Pos} (hN : X.N.Nodup) (h : FE X W e te x) (hi : X.N[i]? = some y := by rfl) (hx : Loc X.env.scope y := by first | exact Or.inl rfl | exact Or.inr rfl)
    (hs : swapsWith e (some (.Name y pos')) pos.line X.env = pure false := by rfl) (hf : X.fn y = true ∨ X.env.scope.names.lookup y = some .local := by first | exact .inl rfl | exact .inr rfl) : FS X W (.Assign [.Name y pos'] e pos) (tAsg te (gName i)) (sAsg x (gSet i)) :=
  ⟨ps_set hN hi hx h.pe hs hf, so_asg (vs := [i]) h.so (so_gname (by simp))⟩
/-- a target -/
structure FG (X : Cx) (vs : List Nat) (e : Expr) (g : TG) (G : D → Sl → Option Sl) : Prop where
  pg : PG X e g
  so : SoG (cc X) vs g G
structure FGs (X : Cx) (vs : List Nat) (e : List Expr) (g : TGs) (G : List D → Sl → Option Sl) : Prop where
  pg : PGs X e g
  so : SoGs (cc X) vs g G
theorem fg_name {vs : List Nat} (i : Nat) {y : Str} (hN : X.N.Nodup) (hv : i ∈ vs := by decide) (hi : X.N[i]? = some y := by rfl) (hx : Loc X.env.scope y := by first | exact Or.inl rfl | exact Or.inr rfl)
    (hf : X.fn y = true ∨ X.env.scope.names.lookup y = some .local := by first | exact .inl rfl | exact .inr rfl) : FG X vs (.Name y pos) (gName i) (gSet i) := ⟨pg_name hN hi hx hf, so_gname hv⟩
theorem fg_nil {vs : List Nat} : FGs X vs [] gNil gsNil := ⟨pgs_nil, so_gnil⟩
theorem fg_cons {vs : List Nat} {e : Expr} {es : List Expr} {g : TG} {G : D → Sl → Option Sl} {gs : TGs} {Gs : List D → Sl → Option Sl} (h1 : FG X vs e g G) (h2 : FGs X vs es gs Gs)
    (hs : (assignEach (e :: es) X.env).map (·.2) = assign e X.env :: (assignEach es X.env).map (·.2) := by rfl) : FGs X vs (e :: es) (gCons g gs) (gsCons G Gs) := ⟨pgs_cons h1.pg h2.pg hs, so_gcons h1.so h2.so⟩
theorem fg_tup {vs : List Nat} {es : List Expr} {k n : Nat} {gs : TGs} {Gs : List D → Sl → Option Sl} (hc : X.calm = true) (h : FGs X vs es gs Gs) (hn : (assignEach es X.env).length = n := by rfl)
    (hst : (assignEach es X.env).findIdx? (·.1) = none := by rfl) : FG X vs (.Tuple es k pos) (gTup X.K n gs) (gTuple n Gs) := ⟨pg_tup hc h.pg hn hst, so_gtup h.so⟩
theorem fs_asg {vs : List Nat} {tg : Expr} {gt : TG} {G : D → Sl → Option Sl} (h : FE X W e te x) (hg : FG X vs tg gt G) (hs : swapsWithSole [tg] e pos.line X.env = pure false := by rfl) (hw : swappedStores [tg] e X.env = pure none := by rfl)
    (h1 : (assignEach [tg] X.env).map (·.2) = [assign tg X.env] := by rfl) : FS X W (.Assign [tg] e pos) (tAsg te gt) (sAsg x G) := ⟨ps_asg h.pe hg.pg hs hw h1, so_asg h.so hg.so⟩
end

/-! ### two, three names at once -/
def sPar (i j : Nat) (f : XA) : XS := fun env h => (f env h).andS env fun ds h1 => match ds with
  | [a, b] => .nx ((env.set i (some a)).set j (some b)) h1
  | _ => .stuck
theorem so_par {C : Cc} {W : WX} {i j : Nat} {ta : TA} {f : XA} (ha : SoA C W ta f) : SoS C W (tPar i j ta) (sPar i j f) := ⟨fun {env h ρ σ H Dn} he hh hp =>
  ha.go he hh ((PsS.andS he hp).imp fun ds h1 ρ1 H1 e1 ok1 p1 xs hx => by
    split at p1
    · cases hx with
      | cons a r =>
        cases r with
        | cons b r =>
          cases r
          exact ⟨_, _, rfl, p1 ρ1 _ H1 Ext.refl ok1 (((he.mono e1).set a i).set b j)⟩
    · exact p1.elim)⟩
theorem fs_par {X : Cx} {W : WX} (i j : Nat) {x y : Str} {a b : Expr} {ta : TA} {f : XA} {px py pt pos : Pos} {kt k2 pt2} (hc : X.calm = true) (hN : X.N.Nodup) (ha : FAs X W [a, b] ta f) (hi : X.N[i]? = some x := by rfl) (hj : X.N[j]? = some y := by rfl) (hij : i ≠ j := by decide)
    (hx : X.env.scope.names.lookup x = some .local := by rfl) (hy : X.env.scope.names.lookup y = some .local := by rfl)
    (hw : swappedStores [.Tuple [.Name x px, .Name y py] kt pt] (.Tuple [a, b] k2 pt2) X.env = pure (some [x, y]) := by rfl)
    (hs : swapsWithSole [.Tuple [.Name x px, .Name y py] kt pt] (.Tuple [a, b] k2 pt2) pos.line X.env = pure false := by rfl) :
    FS X W (.Assign [.Tuple [.Name x px, .Name y py] kt pt] (.Tuple [a, b] k2 pt2) pos) (tPar i j ta) (sPar i j f) := ⟨ps_par hc hN hi hj hij hx hy ha.pe hw hs, so_par ha.so⟩

/-! ### name op= e -/
structure SoI (C : Cc) (W : WX) (r : TIp) (op : D → D → Hs → Res D) : Prop where
  go : ∀ {h ρ σ H Q d1 d2 x y}, HeapOk C ρ h H → Emb C ρ H d1 x → Emb C ρ H d2 y → Pst C W ρ σ H (op d1 d2 h) (GV C Q) → r x y H Q
def sAug (i : Nat) (op : D → D → Hs → Res D) (f : XE) : XS := fun env h => match env[i]? with
  | some (some d) => ((f env h).bind fun e h1 => op d e h1).andS env fun z h2 => .nx (env.set i (some z)) h2
  | _ => .stuck
theorem so_aug {C : Cc} {W : WX} {i : Nat} {te : TE} {ti : TIp} {op : D → D → Hs → Res D} {f : XE} (hf : SoE C W te f) (ho : SoI C W ti op) : SoS C W (tAug i te ti) (sAug i op f) := ⟨fun {env h ρ σ H Dn} he hh hp => by
  unfold sAug at hp
  split at hp
  · rename_i d e
    obtain ⟨v, e1, hv⟩ := he.at_ i d e
    refine ⟨v, e1, hf.go he hh ((Pst.bind (PsS.andS he hp)).imp fun d2 h1 ρ1 H1 e1 ok1 p1 y hy => ?_)⟩
    exact ho.go ok1 (hv.mono e1) hy (p1.imp fun z h2 ρ2 H2 e2 ok2 p2 w hw => p2 ρ2 _ H2 Ext.refl ok2 (((he.mono e1).mono e2).set hw i))
  · exact hp.elim⟩
theorem fs_aug {X : Cx} {W : WX} (i : Nat) {y : Str} {e : Expr} {te : TE} {op : Operator} {ti : TIp} {pos' pos : Pos} {o : D → D → Hs → Res D} {f : XE} (hN : X.N.Nodup) (ho : PIp X op ti) (so : SoI (cc X) W ti o) (h : FE X W e te f) (hi : X.N[i]? = some y := by rfl) (hx : Loc X.env.scope y := by first | exact Or.inl rfl | exact Or.inr rfl)
    (hf : X.fn y = true ∨ X.env.scope.names.lookup y = some .local := by first | exact .inl rfl | exact .inr rfl) : FS X W (.AugAssign (.Name y pos') op e pos) (tAug i te ti) (sAug i o f) := ⟨ps_aug hN hi hx h.pe ho hf, so_aug h.so so⟩
theorem so_ipI {C : Cc} {W : WX} {g : Int → Int → Int} : SoI C W (ipI g) (dI0 fun i j => .int (g i j)) := ⟨fun {h ρ σ H Q d1 d2 x y} hh hx hy hq => by
  unfold dI0 at hq
  split at hq
  · cases hx
    cases hy
    exact ⟨_, _, rfl, rfl, hq ρ H Ext.refl hh _ (.int _)⟩
  · exact hq.elim⟩

/-! ### while -/
def whileF (c : XB) (b : XS) : Nat → XS
  | 0, _, _ => .stuck
  | n + 1, env, h => (c env h).andS env fun k h1 => if k then (match b env h1 with
      | .nx e h2 => whileF c b n e h2
      | .ct e h2 => whileF c b n e h2
      | .bk e h2 => .nx e h2
      | .rt d h2 => .rt d h2
      | .exc x e h2 => .exc x e h2
      | .stuck => .stuck) else .nx env h1
def sWhile (n : Nat) (c : XB) (b : XS) : XS := whileF c b n
theorem so_while {C : Cc} {W : WX} (n : Nat) {tt : TT} {c : XB} {tb : TS} {b : XS} (hc : SoB C W tt c) (hb : SoS C W tb b) : SoS C W (tWhile tt tb) (sWhile n c b) := ⟨fun {env h ρ σ H Dn} he hh hp => by
  refine ⟨fun m σ' H' => ∃ ρ' env' h', Ext ρ ρ' H H' ∧ EnvOk C ρ' H' env' σ' ∧ HeapOk C ρ' h' H' ∧ PsS C W ρ' H' Dn (whileF c b m env' h'), ⟨n, ρ, env, h, Ext.refl, he, hh, hp⟩, ?_⟩
  rintro m σ1 H1 ⟨ρ1, env1, h1, e1, en1, ok1, p1⟩
  cases m with
  | zero => exact p1.elim
  | succ m =>
    unfold whileF at p1
    refine hc.go en1 ok1 ((PsS.andS en1 p1).imp fun k h2 ρ2 H2 e2 ok2 p2 => ?_)
    cases k with
    | true =>
      rw [if_pos rfl] at p2
      unfold GB
      simp only [↓reduceIte]
      refine ⟨fun σ' H' => ∃ ρ' env' h', Ext ρ ρ' H H' ∧ EnvOk C ρ' H' env' σ' ∧ HeapOk C ρ' h' H' ∧ PsS C W ρ' H' Dn (whileF c b m env' h'), fun σ' H' q => ⟨m, Nat.lt_succ_self m, q⟩, ?_⟩
      refine hb.go (en1.mono e2) ok2 ?_
      revert p2
      cases b env1 h2 with
      | nx e h3 => exact fun p ρ' σ' H' e3 ok3 en3 => ⟨ρ', e, h3, e1.trans (e2.trans e3), en3, ok3, PsS.mono p e3⟩
      | ct e h3 => exact fun p ρ' σ' H' e3 ok3 en3 => ⟨ρ', e, h3, e1.trans (e2.trans e3), en3, ok3, PsS.mono p e3⟩
      | bk e h3 => exact fun p => p
      | rt d h3 => exact fun p => p
      | exc x e h3 => exact fun p => p
      | stuck => exact fun p => p
    | false =>
      rw [if_neg (by decide)] at p2
      unfold GB
      simp only [Bool.false_eq_true, ↓reduceIte]
      exact p2 ρ2 σ1 H2 Ext.refl ok2 (en1.mono e2)⟩
theorem fs_while {X : Cx} {W : WX} (n : Nat) {q : Expr} {body : List Stmt} {tt : TT} {c : XB} {tb : TS} {b : XS} {pos : Pos} (hp : PassesOwn (model X.prog X.w) X.A X.env X.xe) (hc : FT X W q tt c) (hb : FSs X W body tb b) : FS X W (.While q body [] pos) (tWhile tt tb) (sWhile n c b) :=
  ⟨ps_while hp hc.pe hb.ps, so_while n hc.so hb.so⟩

/-! ### what is walked -/
inductive View where
  | con (ds : List D)
  | live (i : Nat)
def View.at (v : View) (h : Hs) : Option (List D) := match v with
  | .con ds => some ds
  | .live i => match h[i]? with
    | some (.lst ds) => some ds
    | _ => none
inductive Src where
  | one (v : View)
  | zip (v w : View)
  | enum (v : View)
def Src.nxt (s : Src) (i : Nat) (h : Hs) : Option (Option D) := match s with
  | .one v => (v.at h).map fun ds => ds[i]?
  | .zip v w => match v.at h, w.at h with
    | some ds, some es => some (match ds[i]?, es[i]? with
      | some d, some e => some (.tup [d, e])
      | _, _ => none)
    | _, _ => none
  | .enum v => (v.at h).map fun ds => (ds[i]?).map fun d => .tup [.int i, d]
/-- the items that are known beforehand -/
def Src.known (s : Src) : Option (List D) := match s with
  | .one (.con ds) => some ds
  | _ => none
def Src.size (s : Src) (h : Hs) : Nat := match s with
  | .one v => ((v.at h).getD []).length
  | .zip v _ => ((v.at h).getD []).length
  | .enum v => ((v.at h).getD []).length
end FL

/-! FD: what is walked, for, comprehensions. -/
namespace FL
open PySem PySem.Spec PyProof.Rows L2

structure ItOk (C : Cc) (ρ0 : List Addr) (H0 : Hp) (fr : List Addr) (J : It) (nxt : Nat → Hs → Option (Option D)) : Prop where
  item : ∀ {ρ H h i d}, Low ρ0 ρ H0 H → (∀ p, p ∈ fr → ∀ o, H0 p = some o → H p = some o) → HeapOk C ρ h H → nxt i h = some (some d) → J.go i H ∧ ∀ x H', J.yld i H x H' → Ext ρ ρ H H' ∧ HeapOk C ρ h H' ∧ Emb C ρ H' d x
  stop : ∀ {ρ H h i}, Low ρ0 ρ H0 H → (∀ p, p ∈ fr → ∀ o, H0 p = some o → H p = some o) → HeapOk C ρ h H → nxt i h = some none → J.stop i H
abbrev XI := Sl → Hs → Res Src
def GI (C : Cc) (H0 : Hp) (R : It → Hp → Prop) : Src → Hs → List Addr → Hp → Prop := fun s h1 ρ1 H1 =>
  ∀ fr H2 J, (∀ p, p ∈ fr → H0 p = none ∧ p ∉ ρ1) → Ext ρ1 ρ1 H1 H2 → HeapOk C ρ1 h1 H2 → ItOk C ρ1 H2 fr J s.nxt → R J H2
structure SoIt (C : Cc) (W : WX) (wi : TI) (f : XI) : Prop where
  go : ∀ {env h ρ σ H R}, EnvOk C ρ H env σ → HeapOk C ρ h H → Pst C W ρ σ H (f env h) (GI C H R) → wi σ H R
structure FI (X : Cx) (W : WX) (tg e : Expr) (wi : TI) (f : XI) : Prop where
  pi : PI X tg e wi
  so : SoIt (cc X) W wi f

/-! ### for -/
def afterB (r : SRes) (k : XS) : SRes := match r with
  | .nx e h => k e h
  | .ct e h => k e h
  | .bk e h => .nx e h
  | .rt d h => .rt d h
  | .exc c e h => .exc c e h
  | .stuck => .stuck
def forL (s : Src) (G : D → Sl → Option Sl) (b : XS) : Nat → Nat → XS
  | 0, _, _, _ => .stuck
  | m + 1, i, env, h => match s.nxt i h with
    | none => .stuck
    | some none => .nx env h
    | some (some d) => match G d env with
      | none => .stuck
      | some e => afterB (b e h) (forL s G b m (i + 1))
def forD (G : D → Sl → Option Sl) (b : XS) : List D → XS
  | [], env, h => .nx env h
  | d :: r, env, h => match G d env with
    | none => .stuck
    | some e => afterB (b e h) (forD G b r)
def forS (s : Src) (G : D → Sl → Option Sl) (b : XS) : XS := fun env h => match s.known with
  | some ds => forD G b ds env h
  | none => forL s G b (s.size h + 1) 0 env h
def sFor (src : XI) (G : D → Sl → Option Sl) (b : XS) : XS := fun env h => (src env h).andS env fun s h1 => forS s G b env h1
theorem forL_D {ds : List D} {G : D → Sl → Option Sl} {b : XS} : ∀ (k i m : Nat) (env : Sl) (h : Hs), i + k = ds.length → m = k + 1 → forL (.one (.con ds)) G b m i env h = forD G b (ds.drop i) env h := by
  intro k
  induction k with
  | zero =>
    intro i m env h hi hm
    subst hm
    rw [List.drop_of_length_le (by omega)]
    unfold forL forD
    have e : (Src.one (.con ds)).nxt i h = some none := by
      show some (ds[i]?) = some none
      rw [List.getElem?_eq_none (by omega)]
    rw [e]
  | succ k ih =>
    intro i m env h hi hm
    subst hm
    have hlt : i < ds.length := by omega
    rw [List.drop_eq_getElem_cons hlt]
    unfold forL forD
    have e : (Src.one (.con ds)).nxt i h = some (some ds[i]) := by
      show some (ds[i]?) = _
      rw [List.getElem?_eq_getElem hlt]
    rw [e]
    dsimp only
    cases G ds[i] env with
    | none => rfl
    | some e1 =>
      dsimp only
      have q : forL (.one (.con ds)) G b (k + 1) (i + 1) = forD G b (ds.drop (i + 1)) := by
        funext env' h'
        exact ih (i + 1) (k + 1) env' h' (by omega) rfl
      rw [q]
theorem known_eq {s : Src} {ds : List D} (e : s.known = some ds) : s = .one (.con ds) := by
  unfold Src.known at e
  split at e
  · cases e
    rfl
  · cases e
theorem forS_L {s : Src} {G : D → Sl → Option Sl} {b : XS} {env : Sl} {h : Hs} : ∃ m, forS s G b env h = forL s G b m 0 env h := by
  unfold forS
  cases e : s.known with
  | none => exact ⟨_, rfl⟩
  | some ds =>
    have e' := known_eq e
    subst e'
    exact ⟨ds.length + 1, (forL_D ds.length 0 _ env h (by omega) rfl).symm⟩
theorem Ext.fr {ρ0 ρ : List Addr} {H0 H : Hp} (e : Ext ρ0 ρ H0 H) {fr : List Addr} (hf : ∀ p, p ∈ fr → p ∉ ρ0) : ∀ p, p ∈ fr → ∀ o, H0 p = some o → H p = some o := fun p hp o ho => e.keep p o ho (hf p hp)
theorem so_for {C : Cc} {W : WX} {vs : List Nat} {wi : TI} {src : XI} {g : TG} {G : D → Sl → Option Sl} {tb : TS} {b : XS} (hi : SoIt C W wi src) (hg : SoG C vs g G) (hb : SoS C W tb b) : SoS C W (tFor wi g tb) (sFor src G b) := ⟨fun {env h ρ σ H Dn} he hh hp => by
  refine hi.go he hh ((PsS.andS he hp).imp fun s h1 ρ1 H1 e1 ok1 p1 => ?_)
  intro fr H2 J hfr e2 ok2 hJ
  obtain ⟨m0, q0⟩ := forS_L (s := s) (G := G) (b := b) (env := env) (h := h1)
  rw [q0] at p1
  refine ⟨fun i m σ' H' => ∃ ρ' env' h', Ext ρ1 ρ' H2 H' ∧ EnvOk C ρ' H' env' σ' ∧ HeapOk C ρ' h' H' ∧ PsS C W ρ' H' Dn (forL s G b m i env' h'), ⟨m0, ρ1, env, h1, Ext.refl, (he.mono e1).mono e2, ok2, PsS.mono p1 e2⟩, ?_⟩
  rintro i m σ3 H3 ⟨ρ3, env3, h3, e3, en3, ok3, p3⟩
  cases m with
  | zero => exact p3.elim
  | succ m =>
    unfold forL at p3
    have keep := e3.fr fun p hp => (hfr p hp).2
    revert p3
    cases q : s.nxt i h3 with
    | none => exact fun p3 => p3.elim
    | some o =>
      cases o with
      | none => exact fun p3 => .inl ⟨hJ.stop e3.low keep ok3 q, p3 ρ3 σ3 H3 Ext.refl ok3 en3⟩
      | some d =>
        obtain ⟨hgo, hy⟩ := hJ.item e3.low keep ok3 q
        dsimp only
        cases qg : G d env3 with
        | none => exact fun p3 => p3.elim
        | some e4 =>
          intro p3
          refine .inr ⟨hgo, fun σ' H' => ∃ ρ' env' h', Ext ρ1 ρ' H2 H' ∧ EnvOk C ρ' H' env' σ' ∧ HeapOk C ρ' h' H' ∧ PsS C W ρ' H' Dn (forL s G b m (i + 1) env' h'), fun σ' H' z => ⟨m, Nat.lt_succ_self m, z⟩, fun x H4 hx => ?_⟩
          obtain ⟨e5, ok5, hd⟩ := hy x H4 hx
          refine hg.go (en3.mono e5) hd qg fun σ6 en6 _ => ?_
          refine hb.go en6 ok5 ?_
          have p5 : PsS C W ρ3 H4 Dn (afterB (b e4 h3) (forL s G b m (i + 1))) := PsS.mono p3 e5
          have e35 := e3.trans e5
          revert p5
          cases b e4 h3 with
          | nx e h' => exact fun p ρ' σ' H' e7 ok7 en7 => ⟨ρ', e, h', e35.trans e7, en7, ok7, PsS.mono p e7⟩
          | ct e h' => exact fun p ρ' σ' H' e7 ok7 en7 => ⟨ρ', e, h', e35.trans e7, en7, ok7, PsS.mono p e7⟩
          | bk e h' => exact fun p => p
          | rt d h' => exact fun p => p
          | exc c e h' => exact fun p => p
          | stuck => exact fun p => p⟩
theorem fs_for {X : Cx} {W : WX} {vs : List Nat} {tg iter : Expr} {body : List Stmt} {wi : TI} {src : XI} {g : TG} {G : D → Sl → Option Sl} {tb : TS} {b : XS} {pos : Pos} (hp : PassesOwn (model X.prog X.w) X.A X.env X.xe) (hc : X.calm = true) (hi : FI X W tg iter wi src) (hg : FG X vs tg g G) (hb : FSs X W body tb b)
    (hs : ∀ x, foldedSetIterable iter X.env x = pure x := by intro _; rfl) : FS X W (.For tg iter body [] pos) (tFor wi g tb) (sFor src G b) := ⟨ps_for hp hc hi.pi hg.pg hb.ps hs, so_for hi.so hg.so hb.so⟩

/-! ### comprehensions -/
def wipeD (env : Sl) : List Nat → Sl
  | [] => env
  | v :: vs => (wipeD env vs).set v none
theorem EnvOk.wipe {C : Cc} {ρ : List Addr} {H : Hp} {env : Sl} {σ : L2.St} (he : EnvOk C ρ H env σ) : ∀ vs : List Nat, EnvOk C ρ H (wipeD env vs) (wipe σ vs)
  | [] => he
  | v :: vs => by
    have ih := EnvOk.wipe he vs
    refine ⟨by unfold wipeD L2.wipe; rw [List.length_set, List.length_set]; exact ih.len, fun i d e => ?_⟩
    unfold wipeD at e
    by_cases hv : v = i
    · subst hv
      have hlt : v < (wipeD env vs).length := by
        have := (List.getElem?_eq_some_iff.mp e).1
        rwa [List.length_set] at this
      rw [List.getElem?_set_self hlt] at e
      cases e
    · rw [List.getElem?_set_ne hv] at e
      obtain ⟨x, e1, hx⟩ := ih.at_ i d e
      exact ⟨x, by unfold L2.wipe; rw [List.getElem?_set_ne hv]; exact e1, hx⟩
theorem wipe_idem (σ : L2.St) (vs : List Nat) : wipe (wipe σ vs) vs = wipe σ vs := by
  have q : ∀ (ws : List Nat), (∀ w, w ∈ ws → w ∈ vs) → wipe (wipe σ vs) ws = wipe σ vs := by
    intro ws
    induction ws with
    | nil => intro _; rfl
    | cons w ws ih =>
      intro hw
      show (wipe (wipe σ vs) ws).set w none = wipe σ vs
      rw [ih fun x hx => hw x (List.mem_cons_of_mem _ hx)]
      have hm := hw w List.mem_cons_self
      apply List.ext_getElem?
      intro j
      by_cases hj : w = j
      · subst hj
        by_cases hl : w < (wipe σ vs).length
        · rw [List.getElem?_set_self hl]
          cases e : (wipe σ vs)[w]? with
          | none => exact absurd (List.getElem?_eq_none_iff.mp e) (by omega)
          | some o =>
            cases o with
            | none => rfl
            | some x => exact absurd hm (wipe_some e).2
        · rw [List.getElem?_eq_none (by rw [List.length_set]; omega), List.getElem?_eq_none (by omega)]
      · rw [List.getElem?_set_ne hj]
  exact q vs fun _ h => h
def Res.bindN {α β : Type} (r : Res α) (k : α → Hs → Res β) : Res β := match r with
  | .ok a h => k a h
  | _ => .stuck
abbrev XEl := Sl → Nat → Hs → Res (List D)
def lcL (s : Src) (G : D → Sl → Option Sl) (t : XB) (el : XEl) (env : Sl) : Nat → Nat → Nat → Hs → Res (List D)
  | 0, _, _, _ => .stuck
  | m + 1, i, n, h => match s.nxt i h with
    | none => .stuck
    | some none => .ok [] h
    | some (some d) => match G d env with
      | none => .stuck
      | some e => (t e h).bindN fun b h1 => if b then (el e n h1).bindN fun ys h2 => (lcL s G t el env m (i + 1) (n + ys.length) h2).bindN fun zs h3 => .ok (ys ++ zs) h3
        else lcL s G t el env m (i + 1) n h1
def lcD (G : D → Sl → Option Sl) (t : XB) (el : XEl) (env : Sl) : List D → Nat → Hs → Res (List D)
  | [], _, h => .ok [] h
  | d :: r, n, h => match G d env with
      | none => .stuck
      | some e => (t e h).bindN fun b h1 => if b then (el e n h1).bindN fun ys h2 => (lcD G t el env r (n + ys.length) h2).bindN fun zs h3 => .ok (ys ++ zs) h3
        else lcD G t el env r n h1
def lcS (s : Src) (G : D → Sl → Option Sl) (t : XB) (el : XEl) (env : Sl) (n : Nat) (h : Hs) : Res (List D) := match s.known with
  | some ds => lcD G t el env ds n h
  | none => lcL s G t el env (s.size h + 1) 0 n h
def elOne (f : XE) : XEl := fun e n h => if n < 100000 then (f e h).bindN fun y h2 => .ok [y] h2 else .stuck
def tYesF : XB := fun _ h => .ok true h
def xLc (src : XI) (vs : List Nat) (G : D → Sl → Option Sl) (t : XB) (f : XE) : XA := fun env h => (src env h).bind fun s h1 => (lcS s G t (elOne f) (wipeD env vs) 0 h1).bindN fun zs h2 => .ok zs h2
def elIn (src : XI) (vs1 : List Nat) (G : D → Sl → Option Sl) (t : XB) (f : XE) : XEl := fun e n h => (src e h).bindN fun s h1 => lcS s G t (elOne f) (wipeD e vs1) n h1
def xLc2 (src : XI) (vs vs1 : List Nat) (G : D → Sl → Option Sl) (t : XB) (src1 : XI) (G1 : D → Sl → Option Sl) (t1 : XB) (f : XE) : XA := fun env h => (src env h).bind fun s h1 => (lcS s G t (elIn src1 vs1 G1 t1 f) (wipeD env vs) 0 h1).bindN fun zs h2 => .ok zs h2
theorem lcL_D {ds : List D} {G : D → Sl → Option Sl} {t : XB} {el : XEl} {env : Sl} : ∀ (k i m n : Nat) (h : Hs), i + k = ds.length → m = k + 1 → lcL (.one (.con ds)) G t el env m i n h = lcD G t el env (ds.drop i) n h := by
  intro k
  induction k with
  | zero =>
    intro i m n h hi hm
    subst hm
    rw [List.drop_of_length_le (by omega)]
    unfold lcL lcD
    have e : (Src.one (.con ds)).nxt i h = some none := by
      show some (ds[i]?) = some none
      rw [List.getElem?_eq_none (by omega)]
    rw [e]
  | succ k ih =>
    intro i m n h hi hm
    subst hm
    have hlt : i < ds.length := by omega
    rw [List.drop_eq_getElem_cons hlt]
    unfold lcL lcD
    have e : (Src.one (.con ds)).nxt i h = some (some ds[i]) := by
      show some (ds[i]?) = _
      rw [List.getElem?_eq_getElem hlt]
    rw [e]
    dsimp only
    cases G ds[i] env with
    | none => rfl
    | some e1 =>
      dsimp only
      congr 1
      funext b h1
      split
      · congr 1
        funext ys h2
        rw [ih (i + 1) (k + 1) _ h2 (by omega) rfl]
      · exact ih (i + 1) (k + 1) _ h1 (by omega) rfl
theorem lcS_L {s : Src} {G : D → Sl → Option Sl} {t : XB} {el : XEl} {env : Sl} {n : Nat} {h : Hs} : ∃ m, lcS s G t el env n h = lcL s G t el env m 0 n h := by
  unfold lcS
  cases e : s.known with
  | none => exact ⟨_, rfl⟩
  | some ds =>
    have e' := known_eq e
    subst e'
    exact ⟨ds.length + 1, (lcL_D ds.length 0 _ n h (by omega) rfl).symm⟩
abbrev W0 : WX := fun _ _ _ _ => False
theorem Pst.bindN {α β : Type} {C : Cc} {W : WX} {ρ : List Addr} {σ τ : L2.St} {H : Hp} {r : Res α} {k : α → Hs → Res β} {G : β → Hs → List Addr → Hp → Prop} (p : Pst C W ρ σ H (r.bindN k) G) : Pst C W0 ρ τ H r (fun a h1 ρ1 H1 => Pst C W ρ1 σ H1 (k a h1) G) := by
  cases r with
  | ok a h => exact fun ρ' H' e1 _ => Pst.mono (r := k a h) p e1
  | exc c h => exact p.elim
  | stuck => exact p
/-- the new list at D holds acc; Hm: the rest of the heap -/
structure StD (C : Cc) (ρ1 : List Addr) (H1 : Hp) (D' : Addr) (ρ : List Addr) (h : Hs) (acc : List D) (H Hm : Hp) (av : List V) : Prop where
  eq : H = upd Hm D' (.lst av)
  no : Hm D' = none
  ext : Ext ρ1 ρ H1 Hm
  ok : HeapOk C ρ h Hm
  ac : Embs C ρ Hm acc av
section
variable {C : Cc} {ρ1 ρ ρ4 : List Addr} {H1 H Hm H4 : Hp} {D' : Addr} {h h4 : Hs} {acc : List D} {av : List V}
theorem StD.heap (s : StD C ρ1 H1 D' ρ h acc H Hm av) : HeapOk C ρ h H := by
  rw [s.eq]
  exact s.ok.fresh s.no
theorem StD.ext' (s : StD C ρ1 H1 D' ρ h acc H Hm av) : Ext ρ ρ Hm H := by
  rw [s.eq]
  exact Ext.fresh s.no
theorem StD.at (s : StD C ρ1 H1 D' ρ h acc H Hm av) : H D' = some (.lst av) := by
  rw [s.eq]
  exact upd_same
def less (H : Hp) (p : Addr) : Hp := fun b => if b = p then none else H b
theorem less_same {p : Addr} : less H p p = none := if_pos rfl
theorem less_ne {p a : Addr} (n : a ≠ p) : less H p a = H a := if_neg n
theorem upd_less {p : Addr} {o o' : HO} (e : H p = some o) : upd (less H p) p o' = upd H p o' := by
  funext b
  by_cases q : b = p
  · rw [q, upd_same, upd_same]
  · rw [upd_ne q, upd_ne q, less_ne q]
theorem upd_less_self {p : Addr} {o : HO} (e : H p = some o) : upd (less H p) p o = H := by
  funext b
  by_cases q : b = p
  · rw [q, upd_same, e]
  · rw [upd_ne q, less_ne q]
/-- behind a part that leaves the new list alone -/
theorem StD.on (s : StD C ρ1 H1 D' ρ h acc H Hm av) (e : Ext ρ ρ4 H H4) (ok : HeapOk C ρ4 h4 H4) : StD C ρ1 H1 D' ρ4 h4 acc H4 (less H4 D') av ∧ Ext ρ ρ4 Hm (less H4 D') ∧ Low ρ4 ρ4 H4 (less H4 D') := by
  have nD : D' ∉ ρ := s.ok.notin s.no
  have h4D : H4 D' = some (.lst av) := e.keep _ _ s.at nD
  have nD4 : D' ∉ ρ4 := fun m => by
    have := e.new D' m nD
    rw [s.at] at this
    cases this
  have low : Low ρ4 ρ4 H4 (less H4 D') := ⟨⟨[], by simp⟩, fun a xs q => by rw [less_ne (fun z => by subst z; rw [h4D] at q; cases q)]; exact q, fun a o u q => by rw [less_ne (fun z => by subst z; rw [h4D] at q; cases q)]; exact q⟩
  have ex : Ext ρ ρ4 Hm (less H4 D') := by
    refine ⟨e.pre, fun a o q na => ?_, fun a m na => ?_, fun a xs q => ?_, fun a o u q => ?_⟩
    · have ne : a ≠ D' := ne_of_none q s.no
      rw [less_ne ne]
      exact e.keep a o (by rw [s.eq, upd_ne ne]; exact q) na
    · have q := e.new a m na
      have ne : a ≠ D' := fun z => by
        subst z
        rw [s.at] at q
        cases q
      rwa [s.eq, upd_ne ne] at q
    · have ne : a ≠ D' := ne_of_none q s.no
      rw [less_ne ne]
      exact e.tup a xs (by rw [s.eq, upd_ne ne]; exact q)
    · have ne : a ≠ D' := ne_of_none q s.no
      rw [less_ne ne]
      exact e.frz a o u (by rw [s.eq, upd_ne ne]; exact q)
  refine ⟨⟨(upd_less_self h4D).symm, less_same, s.ext.trans ex, ⟨ok.len, ok.nd, fun i a o q1 q2 => ?_⟩, s.ac.mono ex⟩, ex, low⟩
  exact (ok.ob i a o q1 q2).low low fun u q => by
    rw [less_ne (fun z => nD4 (by rw [← z]; exact List.mem_of_getElem? q1))]
    exact q
/-- one more item -/
theorem StD.add (s : StD C ρ1 H1 D' ρ h acc H Hm av) {d : D} {v : V} (hd : Emb C ρ Hm d v) : StD C ρ1 H1 D' ρ h (acc ++ [d]) (upd H D' (.lst (av ++ [v]))) Hm (av ++ [v]) :=
  ⟨by rw [s.eq, upd_upd], s.no, s.ext, s.ok, s.ac.append (.one hd)⟩
end

theorem EnvOk.low {C : Cc} {ρ ρ1 : List Addr} {H H1 : Hp} {env : Sl} {σ : L2.St} (h : EnvOk C ρ H env σ) (e : Low ρ ρ1 H H1) : EnvOk C ρ1 H1 env σ :=
  ⟨h.len, fun i d q => let ⟨v, q1, q2⟩ := h.at_ i d q; ⟨v, q1, q2.low e⟩⟩
theorem Low.trans {ρ ρ1 ρ2 : List Addr} {H H1 H2 : Hp} (a : Low ρ ρ1 H H1) (b : Low ρ1 ρ2 H1 H2) : Low ρ ρ2 H H2 := by
  obtain ⟨l, e1⟩ := a.pre
  obtain ⟨m, e2⟩ := b.pre
  exact ⟨⟨l ++ m, by rw [e2, e1, List.append_assoc]⟩, fun c xs q => b.tup _ _ (a.tup _ _ q), fun c o u q => b.frz _ _ _ (a.frz _ _ _ q)⟩
theorem Pst.under {α β : Type} {C : Cc} {W : WX} {ρ1 ρ : List Addr} {σ τ : L2.St} {H1 H Hm : Hp} {D' : Addr} {h : Hs} {acc : List D} {av : List V} {r : Res α} {k : α → Hs → Res β} {Gq : β → Hs → List Addr → Hp → Prop} (s : StD C ρ1 H1 D' ρ h acc H Hm av) (p : Pst C W ρ τ Hm (r.bindN k) Gq) :
    Pst C W0 ρ σ H r (fun a h3 ρ3 H3 => StD C ρ1 H1 D' ρ3 h3 acc H3 (less H3 D') av ∧ Low ρ3 ρ3 H3 (less H3 D') ∧ Pst C W ρ3 τ (less H3 D') (k a h3) Gq) := by
  cases r with
  | ok a h' =>
    intro ρ' H' e1 ok1
    obtain ⟨s1, e2, l2⟩ := s.on e1 ok1
    exact ⟨s1, l2, Pst.mono (r := k a h') p e2⟩
  | exc c h => exact p.elim
  | stuck => exact p.elim
theorem bindN_bindN {α β γ : Type} (r : Res α) (k : α → Hs → Res β) (l : β → Hs → Res γ) : (r.bindN k).bindN l = r.bindN fun a h => (k a h).bindN l := by
  cases r <;> rfl
/-- the turns of a clause: K what is reckoned behind it, of all made so far -/
theorem lc_turns {β : Type} {C : Cc} {W : WX} {ρb ρs : List Addr} {Hb Hz : Hp} {D' : Addr} {σ τ : L2.St} {envw : Sl} {fr : List Addr} {J : It} {s : Src} {vs : List Nat} {g : TG} {G : D → Sl → Option Sl} {tt : TT} {t : XB} {el : XEl} {Gq : β → Hs → List Addr → Hp → Prop}
    {K : List D → Hs → Res β} {TB : L2.St → Hp → (Hp → Prop) → Prop} {End : Hp → Prop} {ρ0 : List Addr} {h0 : Hs} {acc0 : List D} {H0 Hm0 : Hp} {av0 : List V}
    (hJ : ItOk C ρb Hb fr J s.nxt)
    (hR : ∀ {ρ h acc H Hm av}, StD C ρs Hz D' ρ h acc H Hm av → Low ρb ρ Hb H ∧ ∀ p, p ∈ fr → ∀ o, Hb p = some o → H p = some o)
    (hg : SoG C vs g G) (ht : SoB C W0 tt t) (en : EnvOk C ρs Hz envw (wipe σ vs))
    (hbody : ∀ {ρ h acc H Hm av e σ2} {K' : List D → Hs → Res β} {Nx : Hp → Prop}, StD C ρs Hz D' ρ h acc H Hm av → EnvOk C ρ H e σ2 → Pst C W ρ τ Hm ((el e acc.length h).bindN fun ys h2 => K' (acc ++ ys) h2) Gq →
      (∀ {ρ' h' acc' H' Hm' av'}, StD C ρs Hz D' ρ' h' acc' H' Hm' av' → Pst C W ρ' τ Hm' (K' acc' h') Gq → Nx H') → TB σ2 H Nx)
    (hend : ∀ {ρ h acc H Hm av}, StD C ρs Hz D' ρ h acc H Hm av → Pst C W ρ τ Hm (K acc h) Gq → End H)
    (st : StD C ρs Hz D' ρ0 h0 acc0 H0 Hm0 av0) (p : Pst C W ρ0 τ Hm0 ((lcS s G t el envw acc0.length h0).bindN fun zs h3 => K (acc0 ++ zs) h3) Gq) :
    ∃ Wi : Nat → Nat → Hp → Prop, (∃ m, Wi 0 m H0) ∧ ∀ i m H, Wi i m H → (J.stop i H ∧ End H) ∨ (J.go i H ∧ ∃ Nx : Hp → Prop, (∀ H', Nx H' → ∃ m', m' < m ∧ Wi (i + 1) m' H') ∧
      ∀ x H', J.yld i H x H' → g x (wipe σ vs) H' fun σ2 H2 => wipe σ2 vs = wipe σ vs ∧ tt σ2 H2 fun b H3 => if b = true then TB σ2 H3 Nx else Nx H3) := by
  obtain ⟨m0, q0⟩ := lcS_L (s := s) (G := G) (t := t) (el := el) (env := envw) (n := acc0.length) (h := h0)
  rw [q0] at p
  refine ⟨fun i m H => ∃ ρ h acc Hm av, StD C ρs Hz D' ρ h acc H Hm av ∧ Pst C W ρ τ Hm ((lcL s G t el envw m i acc.length h).bindN fun zs h3 => K (acc ++ zs) h3) Gq, ⟨m0, _, _, _, _, _, st, p⟩, ?_⟩
  rintro i m H ⟨ρ, h, acc, Hm, av, s1, p1⟩
  obtain ⟨low, keep⟩ := hR s1
  cases m with
  | zero => exact p1.elim
  | succ m =>
    unfold lcL at p1
    revert p1
    cases q : s.nxt i h with
    | none => exact fun p1 => p1.elim
    | some o =>
      cases o with
      | none =>
        intro p1
        refine .inl ⟨hJ.stop low keep s1.heap q, hend s1 ?_⟩
        have p2 : Pst C W ρ τ Hm (K (acc ++ []) h) Gq := p1
        rwa [List.append_nil] at p2
      | some d =>
        obtain ⟨hgo, hy⟩ := hJ.item low keep s1.heap q
        dsimp only
        cases qg : G d envw with
        | none => exact fun p1 => p1.elim
        | some e4 =>
          intro p1
          refine .inr ⟨hgo, fun H' => ∃ ρ h acc Hm av, StD C ρs Hz D' ρ h acc H' Hm av ∧ Pst C W ρ τ Hm ((lcL s G t el envw m (i + 1) acc.length h).bindN fun zs h3 => K (acc ++ zs) h3) Gq, fun H' z => ⟨m, Nat.lt_succ_self m, z⟩, fun x H4 hx => ?_⟩
          obtain ⟨e5, ok5, hd⟩ := hy x H4 hx
          obtain ⟨s4, e4', l4⟩ := s1.on e5 ok5
          have enw : EnvOk C ρ H4 envw (wipe σ vs) := en.low (s1.ext.low.trans (s1.ext'.low.trans e5.low))
          refine hg.go enw hd qg fun σ6 en6 w6 => ⟨w6.trans (wipe_idem σ vs), ?_⟩
          have p4 : Pst C W ρ τ (less H4 D') ((t e4 h).bindN fun b h1 => (if b then (el e4 acc.length h1).bindN fun ys h2 => (lcL s G t el envw m (i + 1) (acc.length + ys.length) h2).bindN fun zs h3 => .ok (ys ++ zs) h3
              else lcL s G t el envw m (i + 1) acc.length h1).bindN fun zs h3 => K (acc ++ zs) h3) Gq := by
            rw [← bindN_bindN]
            exact Pst.mono p1 e4'
          refine ht.go en6 ok5 ((Pst.under s4 p4).imp fun b h5 ρ5 H5 e6 ok6 ⟨s5, l5, p5⟩ => ?_)
          unfold GB
          cases b with
          | false =>
            simp only [Bool.false_eq_true, ↓reduceIte] at p5 ⊢
            exact ⟨ρ5, h5, acc, _, av, s5, p5⟩
          | true =>
            simp only [↓reduceIte] at p5 ⊢
            refine hbody (K' := fun a2 h2 => (lcL s G t el envw m (i + 1) a2.length h2).bindN fun zs h3 => K (a2 ++ zs) h3) s5 (en6.mono e6) ?_ fun {ρ' h' acc' H' Hm' av'} s' p' => ⟨ρ', h', acc', Hm', av', s', p'⟩
            rw [bindN_bindN] at p5
            have e : (fun (ys : List D) (h2 : Hs) => ((lcL s G t el envw m (i + 1) (acc.length + ys.length) h2).bindN fun zs h3 => Res.ok (ys ++ zs) h3).bindN fun zs h3 => K (acc ++ zs) h3) =
                fun ys h2 => (lcL s G t el envw m (i + 1) (acc ++ ys).length h2).bindN fun zs h3 => K ((acc ++ ys) ++ zs) h3 := by
              funext ys h2
              rw [bindN_bindN, List.length_append]
              congr 1
              funext zs h3
              rw [List.append_assoc]
              rfl
            rw [e] at p5
            exact p5
/-- the body: one item is made -/
theorem lc_one {β : Type} {C : Cc} {W : WX} {ρs : List Addr} {Hz : Hp} {D' : Addr} {τ : L2.St} {te : TE} {f : XE} {Gq : β → Hs → List Addr → Hp → Prop} (hf : SoE C W0 te f) {ρ h acc H Hm av e σ2} {K' : List D → Hs → Res β} {Nx : Hp → Prop} (s : StD C ρs Hz D' ρ h acc H Hm av) (en : EnvOk C ρ H e σ2)
    (p : Pst C W ρ τ Hm ((elOne f e acc.length h).bindN fun ys h2 => K' (acc ++ ys) h2) Gq) (q : ∀ {ρ' h' acc' H' Hm' av'}, StD C ρs Hz D' ρ' h' acc' H' Hm' av' → Pst C W ρ' τ Hm' (K' acc' h') Gq → Nx H') :
    te σ2 H fun y H4 => ∃ acc, H4 D' = some (.lst acc) ∧ acc.length < sizeLine ∧ Nx (upd H4 D' (.lst (acc ++ [y]))) := by
  unfold elOne at p
  split at p
  · rename_i hl
    rw [bindN_bindN] at p
    refine hf.go en s.heap ((Pst.under s p).imp fun d h4 ρ4 H4 e4 ok4 ⟨s4, l4, p4⟩ v hv => ⟨av, s4.at, sz_lt' (by rw [← s.ac.length]; exact hl), ?_⟩)
    have s5 := s4.add (hv.low l4)
    exact q s5 p4
  · exact p.elim
theorem so_lc {C : Cc} {W : WX} {wi : TI} {src : XI} {vs : List Nat} {g : TG} {G : D → Sl → Option Sl} {tt : TT} {t : XB} {te : TE} {f : XE} (hi : SoIt C W wi src) (hg : SoG C vs g G) (ht : SoB C W0 tt t) (hf : SoE C W0 te f) : SoL C W (tLc wi g tt te vs) (xLc src vs G t f) := ⟨fun {env h ρ σ H Q} he hh hp => by
  refine hi.go he hh ((Pst.bind hp).imp fun s h1 ρ1 H1 e1 ok1 p1 => ?_)
  intro fr H2 J hfr e2 ok2 hJ D' hD
  have p2 := Pst.mono p1 e2
  have nfr : D' ∉ fr ∨ True := .inr trivial
  refine lc_turns (K := fun acc h => .ok acc h) (Gq := GL C Q) (τ := σ) (W := W) (TB := fun σ2 H3 Nx => te σ2 H3 fun y H4 => ∃ acc, H4 D' = some (.lst acc) ∧ acc.length < sizeLine ∧ Nx (upd H4 D' (.lst (acc ++ [y])))) hJ (fun {ρ h acc H Hm av} s1 => ⟨s1.ext.low.trans s1.ext'.low, fun p hp o ho => ?_⟩) hg ht
    (((he.mono e1).mono e2).wipe vs) (fun s en p q => lc_one hf s en p q) (fun {ρ h acc H Hm av} s1 p => ?_) ⟨rfl, hD, Ext.refl, ok2, .nil⟩ p2
  · rw [s1.eq, upd_ne (ne_of_none (s1.ext.keep p o ho (hfr p hp).2) s1.no)]
    exact s1.ext.keep p o ho (hfr p hp).2
  · have := p ρ Hm Ext.refl s1.ok D' av s1.no s1.ac
    rw [s1.eq]
    exact this⟩
theorem so_lc2 {C : Cc} {W : WX} {wi wi1 : TI} {src src1 : XI} {vs vs1 : List Nat} {g g1 : TG} {G G1 : D → Sl → Option Sl} {tt tt1 : TT} {t t1 : XB} {te : TE} {f : XE} (hi : SoIt C W wi src) (hg : SoG C vs g G) (ht : SoB C W0 tt t) (hi1 : SoIt C W0 wi1 src1) (hg1 : SoG C vs1 g1 G1) (ht1 : SoB C W0 tt1 t1) (hf : SoE C W0 te f) :
    SoL C W (tLc2 wi g tt wi1 g1 tt1 te vs vs1) (xLc2 src vs vs1 G t src1 G1 t1 f) := ⟨fun {env h ρ σ H Q} he hh hp => by
  refine hi.go he hh ((Pst.bind hp).imp fun s h1 ρ1 H1 e1 ok1 p1 => ?_)
  intro fr H2 J hfr e2 ok2 hJ D' hD
  have p2 := Pst.mono p1 e2
  refine lc_turns (K := fun acc h => .ok acc h) (Gq := GL C Q) (τ := σ) (W := W) (TB := fun σ2 H3 Nx => wi1 σ2 H3 fun J1 H4 => ∃ W1 : Nat → Nat → Hp → Prop, (∃ m, W1 0 m H4) ∧ ∀ j k H, W1 j k H →
      (J1.stop j H ∧ Nx H) ∨ (J1.go j H ∧ ∃ Nx1 : Hp → Prop, (∀ H', Nx1 H' → ∃ k', k' < k ∧ W1 (j + 1) k' H') ∧ ∀ x H', J1.yld j H x H' → g1 x (wipe σ2 vs1) H' fun σ3 H5 => wipe σ3 vs1 = wipe σ2 vs1 ∧ tt1 σ3 H5 fun b H6 =>
        if b = true then te σ3 H6 fun y H7 => ∃ acc, H7 D' = some (.lst acc) ∧ acc.length < sizeLine ∧ Nx1 (upd H7 D' (.lst (acc ++ [y]))) else Nx1 H6)) hJ (fun {ρ h acc H Hm av} s1 => ⟨s1.ext.low.trans s1.ext'.low, fun p hp o ho => ?_⟩) hg ht
    (((he.mono e1).mono e2).wipe vs) ?_ (fun {ρ h acc H Hm av} s1 p => ?_) ⟨rfl, hD, Ext.refl, ok2, .nil⟩ p2
  · rw [s1.eq, upd_ne (ne_of_none (s1.ext.keep p o ho (hfr p hp).2) s1.no)]
    exact s1.ext.keep p o ho (hfr p hp).2
  · intro ρ h acc H3 Hm av e σ2 K' Nx s3 en3 p3 q3
    unfold elIn at p3
    rw [bindN_bindN] at p3
    refine hi1.go en3 s3.heap ((Pst.under s3 p3).imp fun s1 h4 ρ4 H4 e4 ok4 ⟨s4, l4, p4⟩ => ?_)
    intro fr1 H5 J1 hfr1 e5 ok5 hJ1
    obtain ⟨s5, e5', l5⟩ := s4.on e5 ok5
    have p5 := Pst.mono p4 e5'
    refine lc_turns (K := K') (Gq := GL C Q) (τ := σ) (W := W) (ρs := ρ4) (Hz := less H5 D') (End := Nx) (TB := fun σ3 H6 Nx1 => te σ3 H6 fun y H7 => ∃ acc, H7 D' = some (.lst acc) ∧ acc.length < sizeLine ∧ Nx1 (upd H7 D' (.lst (acc ++ [y])))) hJ1
      (fun {ρ h acc H Hm av} s6 => ⟨l5.trans (s6.ext.low.trans s6.ext'.low), fun p hp o ho => ?_⟩) hg1 ht1 ((((en3.mono e4).mono e5).wipe vs1).low l5) (fun s en p q => lc_one hf s en p q) (fun {ρ h acc H Hm av} s6 p => ?_) ⟨s5.eq, s5.no, Ext.refl, s5.ok, s5.ac⟩ p5
    · have ne : p ≠ D' := fun z => by
        have z1 := (hfr1 p hp).1
        rw [z, s3.at] at z1
        cases z1
      have k1 : less H5 D' p = some o := by rw [less_ne ne]; exact ho
      rw [s6.eq, upd_ne ne]
      exact s6.ext.keep p o k1 (hfr1 p hp).2
    · exact q3 ⟨s6.eq, s6.no, s5.ext.trans s6.ext, s6.ok, s6.ac⟩ p
  · have := p ρ Hm Ext.refl s1.ok D' av s1.no s1.ac
    rw [s1.eq]
    exact this⟩
theorem so_yes {C : Cc} {W : WX} : SoB C W tYes tYesF := ⟨fun {env h ρ σ H Q} he hh hp => hp ρ H Ext.refl hh⟩
structure FTs (X : Cx) (W : WX) (es : List Expr) (te : TT) (f : XB) : Prop where
  pt : PTs X es te
  so : SoB (cc X) W te f
theorem ft_nil {X : Cx} {W : WX} : FTs X W [] tYes tYesF := ⟨pts_nil, so_yes⟩
theorem ft_one {X : Cx} {W : WX} {e : Expr} {te : TT} {f : XB} (h : FT X W e te f) : FTs X W [e] te f := ⟨pts_one h.pe, h.so⟩
abbrev Blk (X : Cx) (scope : Scope) (s : Shared) (H : Hp) (C : Addr) (cl : List (Str × Addr)) (fp : List Addr) : Cx := X.blk s H scope (compEnvC scope cl C X.env) fp
theorem flc {X : Cx} {W : WX} {elt tg iter : Expr} {ifs : List Expr} {scope : Scope} {own : List (Str × Nat)} {pos : Pos} {wi : TI} {g : TG} {tt : TT} {te : TE} {src : XI} {G : D → Sl → Option Sl} {t : XB} {f : XE} (hc : X.calm = true) (hN : X.N.Nodup) (hi : FI X W tg iter wi src) (ok : BlkOk X.N X.env.scope scope own)
    (hg : ∀ s H C cl fp, FG (Blk X scope s H C cl fp) (own.map (·.2)) tg g G) (ht : ∀ s H C cl fp, FTs (Blk X scope s H C cl fp) W0 ifs tt t) (he : ∀ s H C cl fp, FE (Blk X scope s H C cl fp) W0 elt te f) (hs : ∀ x, foldedSetIterable iter X.env x = pure x := by intro _; rfl) :
    FLs X W (.ListComp elt [⟨tg, iter, ifs, 0⟩] scope pos) (tLc wi g tt te (own.map (·.2))) (xLc src (own.map (·.2)) G t f) :=
  ⟨pe_lc hc hN hi.pi ok (fun s H C cl fp => (hg s H C cl fp).pg) (fun s H C cl fp => (ht s H C cl fp).pt) (fun s H C cl fp => (he s H C cl fp).pe) hs,
    so_lc hi.so (hg ⟨X.s_0.heap, X.s_0.gens, X.s_0.drawn, X.s_0.toks, X.s_0.os⟩ X.H_0 0 [] []).so (ht X.s_0 X.H_0 0 [] []).so (he X.s_0 X.H_0 0 [] []).so⟩
end FL

/-! FF: defs, their calls, the law's own end. -/
namespace FL
open PySem PySem.Spec PyProof.Rows L2

abbrev Fn := List D → Hs → Res D
/-- a wish about exceptions that does not ask of slots -/
abbrev wE (E : XK) : WX := fun c d _ H => E c d H
/-- the def at f computes g -/
structure FnS (P : Program) (w : World) (K : PySem.W.Frag) (mg : Str → Option Value) (base : Heap) (k : Nat) (f : Addr) (fd : FuncData) (ps : List Str) (g : Fn) : Prop where
  run : ∀ (A : Around) (outer : List Env) (s : Shared) (H : Hp) (args : Args) (us : List Value) (vs : List V) (ρ : List Addr) (ds : List D) (h : Hs) (Q : VK) (E : XK), Room k A → A.guards = some [] → Env0 P w K mg base A outer s H →
    us.length = ps.length → BindsTo s fd args (ps.zip us) → Vals vs us → Embs ⟨K, mg⟩ ρ H ds vs → HeapOk ⟨K, mg⟩ ρ h H → Pst ⟨K, mg⟩ (wE E) ρ [] H (g ds h) (GV ⟨K, mg⟩ Q) →
    codeAny (model P w) A (.call (.ref f) args) (CR (L2.CX P w) outer P w H s Q E) s
  len : ∀ ds h, ds.length ≠ ps.length → g ds h = .stuck
def retOf (r : SRes) : Res D := match r with
  | .rt d h => .ok d h
  | .nx _ h => .ok .non h
  | .exc c _ h => .exc c h
  | _ => .stuck
def fnSem (np nl : Nat) (b : XS) : Fn := fun ds h => if ds.length = np then retOf (b (ds.map some ++ List.replicate nl none) h) else .stuck

theorem embs_start {C : Cc} {ρ : List Addr} {H : Hp} {ds : List D} {vs : List V} (h : Embs C ρ H ds vs) (n : Nat) : EnvOk C ρ H (ds.map some ++ List.replicate n none) (vs.map some ++ List.replicate n none) := by
  refine ⟨by simp [h.length], fun i d e => ?_⟩
  by_cases hi : i < ds.length
  · rw [List.getElem?_append_left (by simpa using hi), List.getElem?_map] at e
    cases q : ds[i]? with
    | none => rw [q] at e; cases e
    | some d' =>
      rw [q] at e
      cases e
      obtain ⟨v, e1, hv⟩ := h.get q
      refine ⟨v, ?_, hv⟩
      rw [List.getElem?_append_left (by rw [List.length_map, ← h.length]; exact hi), List.getElem?_map, e1]
      rfl
  · rw [List.getElem?_append_right (by simpa using hi)] at e
    have : (List.replicate n (none : Option D))[i - (ds.map some).length]? = some (some d) := e
    rw [List.getElem?_replicate] at this
    split at this <;> cases this

section
variable {P : Program} {w : World} {K : PySem.W.Frag} {mg : Str → Option Value} {base : Heap}
/-- a def by its body -/
theorem fn_body {x qual : Str} {st : Stmt} {f : Addr} {fd : FuncData} {N ps : List Str} {k np nl : Nat} {b : XS} (F : Fun K x qual st f fd) (S : FnScope N ps (defScope st)) (hp : ps.length = np) (hl : N.length - np = nl)
    (body : ∀ (cdv : Value) (A : Around) (outer : List Env) (s : Shared) (H : Hp) (E : XK), Room k (A.deeper (envOfC qual (defScope st) s.heap.objs.size f cdv)) → A.guards = some [] →
      ∃ t, FSs (cxOf (L2.CX P w) P w K mg base N qual (defScope st) f cdv A outer s H E) (wE E) (defBody st) t b) :
    FnS P w K mg base (k + 1) f fd ps (fnSem np nl b) := by
  obtain ⟨oc, od, kV, doc, pm, an, cdv, ct, osl, rfl, lk, hcd⟩ := F.ex
  refine ⟨fun A outer s H args us vs ρ ds h Q E hr hgd e0 hlen hb rv hd hh hq => ?_, fun ds h hne => ?_⟩
  · have lvs : vs.length = ps.length := rv.length.trans hlen
    let sp : Sp := fun vs' H' Q' E' => vs' = vs ∧ H' = H ∧ Q' = Q ∧ E' = E
    have G : FnOk P w K mg base (L2.CX P w) (k + 1) f (PySem.W.fnOf x qual (defArgs st) (defBody st) (defScope st) .none kV doc pm an cdv ct) ps (fun vs' H' Q' E' => vs'.length = ps.length ∧ False) :=
      ⟨fun _ _ _ _ z => z.1, fun _ _ _ _ _ _ _ _ _ _ _ _ _ z => z.2.elim⟩
    have KX : K.In s.heap := e0.mod.kin.keeps fun b o e => (e0.bs b o e).1
    have lim : s.heap.NoLimit := e0.mod.nolimit.keeps fun b o e => (e0.bs b o e).1
    have kinds : ∀ y ∈ ps.zip us, (defScope st).names.lookup y.1 = some .local ∨ ((defScope st).names.lookup y.1 = some .cell ∧ ((cellsFrom (s.heap.objs.size + 1) (defScope st).names []).lookup y.1).isSome = true) := by
      rintro ⟨n, v⟩ hy
      have hn := (List.of_mem_zip hy).1
      cases S.par n hn with
      | inl q => exact .inl q
      | inr q => exact .inr ⟨q, PySem.W.cellsFrom_some _ _ _ (.inl q)⟩
    apply codeAny_call_function hr.depth (KX _ _ lk) rfl S.co S.gen rfl (PySem.W.codeRec_of KX hcd)
    apply hb
    apply wpAny_newFunctionEnv_cells S.kind kinds
    intro env henv s1 hin
    subst henv
    refine ⟨lim.keeps hin.toInCall.keep, codeAny_func ?_⟩
    obtain ⟨t, ht⟩ := body cdv A outer s H E (hr.deeper _) hgd
    have J : Inv (cxOf (L2.CX P w) P w K mg base N qual (defScope st) f cdv A outer s H E) [] (L2.start N vs) H s1 := inv_start S hr.hd e0 lvs rv hin
    have en := embs_start hd nl
    have e1 : L2.start N vs = vs.map some ++ List.replicate nl none := by
      unfold L2.start
      rw [lvs, hp, hl]
    have hds : ds.length = np := by rw [hd.length, lvs, hp]
    have go : t { nx := fun _ H' => Q .non H', rt := Q } (L2.start N vs) H := by
      rw [e1]
      refine ht.so.go en hh ?_
      have hq' : Pst ⟨K, mg⟩ (wE E) ρ [] H (fnSem np nl b ds h) (GV ⟨K, mg⟩ Q) := hq
      unfold fnSem at hq'
      rw [if_pos hds] at hq'
      revert hq'
      cases b (ds.map some ++ List.replicate nl none) h with
      | nx e h' => exact fun q ρ' σ' H' x1 x2 x3 => q ρ' H' x1 x2 .non .non
      | rt d h' => exact fun q ρ' v H' x1 x2 x3 => q ρ' H' x1 x2 v x3
      | exc c e h' => exact fun q ρ' σ' H' a x1 x2 x3 x4 => q ρ' H' a x1 x2 x4
      | bk e h' => exact fun q => q.elim
      | ct e h' => exact fun q => q.elim
      | stuck => exact fun q => q
    refine wpAny_mono (ht.ps.run [] s1 (L2.start N vs) H _ J go) (fun fl s' hs => ?_) fun e s' hs => hs
    cases fl with
    | next =>
      obtain ⟨σ', H', J', q⟩ := hs
      exact ⟨.non, H', J'.os, J'.bare, J'.base, J'.hok, rfl, q⟩
    | ret u =>
      obtain ⟨v, σ', H', J', r, q⟩ := hs
      exact ⟨v, H', J'.os, J'.bare, J'.base, J'.hok, r, q⟩
    | brk => obtain ⟨_, _, _, q⟩ := hs; exact q.elim
    | cont => obtain ⟨_, _, _, q⟩ := hs; exact q.elim
  · unfold fnSem
    rw [if_neg (by rw [← hp]; exact hne)]
theorem FnS.mono {j k : Nat} {f : Addr} {fd : FuncData} {ps : List Str} {g : Fn} (F : FnS P w K mg base j f fd ps g) (h : j ≤ k) : FnS P w K mg base k f fd ps g :=
  ⟨fun A outer s H args us vs ρ ds hh Q E hr => F.run A outer s H args us vs ρ ds hh Q E (hr.mono h), F.len⟩
/-- another name for what is computed -/
theorem FnS.as {k : Nat} {f : Addr} {fd : FuncData} {ps : List Str} {g g' : Fn} (F : FnS P w K mg base k f fd ps g) (e : g = g') : FnS P w K mg base k f fd ps g' := e ▸ F
end

/-! ### a call -/
mutual
def D.pure : D → Bool
  | .non => true
  | .bl _ => true
  | .int _ => true
  | .str _ => true
  | .ty _ => true
  | .gl _ => true
  | .tup ds => D.pures ds
  | .rol ds => D.pures ds
  | .ref _ => false
def D.pures : List D → Bool
  | [] => true
  | d :: ds => D.pure d && D.pures ds
end
mutual
theorem Emb.pure {C : Cc} {ρ ρ1 : List Addr} {H : Hp} {d : D} {v : V} (h : Emb C ρ H d v) (p : d.pure = true) : Emb C ρ1 H d v := by
  match h with
  | .non => exact .non
  | .bl b => exact .bl b
  | .int i => exact .int i
  | .str cs => exact .str cs
  | .ty n => exact .ty n
  | .gl h => exact .gl h
  | .tup h hs => exact .tup h (Embs.pure hs p)
  | .rol h hs => exact .rol h (Embs.pure hs p)
  | .ref h => cases p
theorem Embs.pure {C : Cc} {ρ ρ1 : List Addr} {H : Hp} {ds : List D} {vs : List V} (h : Embs C ρ H ds vs) (p : D.pures ds = true) : Embs C ρ1 H ds vs := by
  match h with
  | .nil => exact .nil
  | .cons h hs =>
    unfold D.pures at p
    rw [Bool.and_eq_true] at p
    exact .cons (Emb.pure h p.1) (Embs.pure hs p.2)
end
/-- what comes back of a call over an empty heap -/
def settle (r : Res D) (h1 : Hs) : Res D := match r with
  | .ok d h' => if d.pure then .ok d h1 else match d with
    | .ref i => match h'[i]? with
      | some (.lst xs) => if D.pures xs then .ok (.ref h1.length) (h1 ++ [.lst xs]) else .stuck
      | _ => .stuck
    | _ => .stuck
  | .exc c _ => .exc c h1
  | .stuck => .stuck
def callG (g : Fn) : Fn := fun ds h1 => if D.pures ds then settle (g ds []) h1 else g ds h1
theorem ext_nil {C : Cc} {ρ ρ' : List Addr} {h1 : Hs} {H H' : Hp} (e : Ext [] ρ' H H') : Ext ρ ρ H H' :=
  ⟨⟨[], by simp⟩, fun a o q _ => e.keep a o q (by simp), fun a m m' => absurd m m', e.tup, e.frz⟩
theorem heap_nil {C : Cc} {ρ ρ' : List Addr} {h1 : Hs} {H H' : Hp} (e : Ext [] ρ' H H') (ok : HeapOk C ρ h1 H) : HeapOk C ρ h1 H' :=
  ⟨ok.len, ok.nd, fun i a o q1 q2 => (ok.ob i a o q1 q2).low ⟨⟨[], by simp⟩, e.tup, e.frz⟩ fun u q => e.keep a u q (by simp)⟩
theorem callG_ok {C : Cc} {W : WX} {ρ : List Addr} {σ : L2.St} {H : Hp} {g : Fn} {ds : List D} {h1 : Hs} {vs : List V} {Q : VK} (hd : Embs C ρ H ds vs) (ok : HeapOk C ρ h1 H) (p : Pst C W ρ σ H (callG g ds h1) (GV C Q)) :
    ∃ ρ0 h0, Embs C ρ0 H ds vs ∧ HeapOk C ρ0 h0 H ∧ Pst C (wE fun c d H => W c d σ H) ρ0 [] H (g ds h0) (GV C Q) := by
  unfold callG at p
  split at p
  · rename_i hp
    refine ⟨[], [], hd.pure hp, HeapOk.nil, ?_⟩
    revert p
    cases g ds [] with
    | ok d h' =>
      intro p ρ' H' e1 ok1 v hv
      unfold settle at p
      dsimp only at p
      split at p
      · rename_i hpure
        exact p ρ H' (ext_nil (C := C) (h1 := h1) e1) (heap_nil e1 ok) v (hv.pure hpure)
      · split at p
        · rename_i _ i
          split at p
          · rename_i xs hi
            split at p
            · rename_i hx
              cases hv with
              | @ref _ a ha =>
                obtain ⟨ws, q1, q2⟩ := ok1.ob _ a _ ha hi
                have na : H a = none := e1.new a (List.mem_of_getElem? ha) (by simp)
                have nm := ok.notin na
                have ok2 : HeapOk C (ρ ++ [a]) (h1 ++ [.lst xs]) H' := by
                  have okb := heap_nil e1 ok
                  refine ⟨by rw [List.length_append, List.length_append, okb.len]; rfl, List.nodup_append.mpr ⟨okb.nd, by simp, fun x hx y hy z => nm (by rw [List.mem_singleton.mp hy] at z; rw [← z]; exact hx)⟩, fun j b o z1 z2 => ?_⟩
                  have lowA : Low ρ (ρ ++ [a]) H' H' := ⟨⟨[a], rfl⟩, fun _ _ q => q, fun _ _ _ q => q⟩
                  by_cases hj : j < ρ.length
                  · rw [List.getElem?_append_left hj] at z1
                    rw [List.getElem?_append_left (by rw [← okb.len]; exact hj)] at z2
                    exact (okb.ob j b o z1 z2).low lowA fun u q => q
                  · have hl : j = ρ.length := by
                      have := (List.getElem?_eq_some_iff.mp z1).1
                      rw [List.length_append] at this
                      simp at this
                      omega
                    subst hl
                    rw [List.getElem?_append_right (Nat.le_refl _)] at z1
                    rw [List.getElem?_append_right (by rw [okb.len]; exact Nat.le_refl _), okb.len] at z2
                    simp at z1 z2
                    subst z1 z2
                    exact ⟨ws, q1, q2.pure hx⟩
                refine p (ρ ++ [a]) H' ⟨⟨[a], rfl⟩, fun b o q _ => e1.keep b o q (by simp), fun b m m' => ?_, e1.tup, e1.frz⟩ ok2 _ (.ref ?_)
                · rcases List.mem_append.mp m with z | z
                  · exact absurd z m'
                  · rw [List.mem_singleton.mp z]; exact na
                · rw [← ok.len, List.getElem?_append_right (Nat.le_refl _)]
                  simp
            · exact p.elim
          · exact p.elim
        · exact p.elim
    | exc c h' => exact fun p ρ' H' a e1 ok1 hm => p ρ H' a (ext_nil (C := C) (h1 := h1) e1) (heap_nil e1 ok) hm
    | stuck => exact fun p => p
  · refine ⟨ρ, h1, hd, ok, ?_⟩
    revert p
    cases g ds h1 with
    | ok d h' => exact fun p => p
    | exc c h' => exact fun p => p
    | stuck => exact fun p => p
def xCall (g : Fn) (fA : XA) : XE := fun env h => (fA env h).bind fun ds h1 => callG g ds h1
/-- over the heap as it stands, whatever is handed in -/
def xCallH (g : Fn) (fA : XA) : XE := fun env h => (fA env h).bind fun ds h1 => g ds h1
def tCallF (C : Cc) (W : WX) (g : Fn) (t : TA) : TE := fun σ H Q => t σ H fun vs H1 => ∃ ρ ds h, Embs C ρ H1 ds vs ∧ HeapOk C ρ h H1 ∧ Pst C (wE fun c d H => W c d σ H) ρ [] H1 (g ds h) (GV C Q)
theorem so_call {C : Cc} {W : WX} {g : Fn} {t : TA} {fA : XA} (ha : SoA C W t fA) : SoE C W (tCallF C W g t) (xCall g fA) := ⟨fun {env h ρ σ H Q} he hh hp =>
  ha.go he hh ((Pst.bind hp).imp fun ds h1 ρ1 H1 e1 ok1 p1 vs hv =>
    let ⟨ρ0, h0, a1, a2, a3⟩ := callG_ok hv ok1 p1
    ⟨ρ0, ds, h0, a1, a2, a3⟩)⟩
theorem so_callH {C : Cc} {W : WX} {g : Fn} {t : TA} {fA : XA} (ha : SoA C W t fA) : SoE C W (tCallF C W g t) (xCallH g fA) := ⟨fun {env h ρ σ H Q} he hh hp =>
  ha.go he hh ((Pst.bind hp).imp fun ds h1 ρ1 H1 e1 ok1 p1 vs hv => ⟨ρ1, ds, h1, hv, ok1, by
    revert p1
    cases g ds h1 with
    | ok d h' => exact fun p => p
    | exc c h' => exact fun p => p
    | stuck => exact fun p => p⟩)⟩
section
variable {X : Cx} {W : WX} {k : Nat} {f : Addr} {fd : FuncData} {ps : List Str} {g : Fn} {x : Str} {p pos : Pos} {e : Expr} {es : List Expr} {t : TA} {fA : XA}
theorem run_def {pins : List (Addr × Obj)} {σ : L2.St} {H : Hp} {s : Shared} {Q : VK} {us : List Value} {vs : List V} (F : FnS X.prog X.w X.K X.mg X.base k f fd ps g) (hr : Room k X.A) (hgd : X.A.guards = some []) (hb : Binds X.K fd ps []) (tk : Takes X W)
    (I : Inv X pins σ H s) (r : Vals vs us) (h : ∃ ρ ds h, Embs (cc X) ρ H ds vs ∧ HeapOk (cc X) ρ h H ∧ Pst (cc X) (wE fun c d H => W c d σ H) ρ [] H (g ds h) (GV (cc X) Q)) : wpAny (model X.prog X.w) X.A (call (.ref f) us) (EP X pins σ Q) X.xe s := by
  obtain ⟨ρ, ds, h0, hd, ok, hq⟩ := h
  have hl : us.length = ps.length := by
    by_cases z : ds.length = ps.length
    · rw [← r.length, ← hd.length]; exact z
    · rw [F.len ds h0 z] at hq
      exact hq.elim
  have b := hb s us I.kIn (by rw [List.append_nil]; exact hl)
  rw [List.append_nil] at b
  apply wpAny_call
  refine codeAny_mono (F.run X.A X.stack s H ⟨us, []⟩ us vs ρ ds h0 Q (fun c d H => W c d σ H) hr hgd I.env0 hl b r hd ok hq) ?_
  intro res s' hres
  match res, hres with
  | .error e, hres => exact passAt tk σ pins H s e s' I hres
  | .ok (.ret u), hres => exact I.after hres
theorem pe_def (F : FnS X.prog X.w X.K X.mg X.base k f fd ps g) (hr : Room k X.A) (hgd : X.A.guards = some []) (hg : Gl X x) (hm : X.mg x = some (.ref f)) (hk : PySem.W.keepIn X.K (.ref f) = true) (hb : Binds X.K fd ps []) (tk : Takes X W) (ha : PA X (e :: es) t)
    (hdb : (x == ("__debug__" : Str)) = false) (he : starEach (e :: es) X.env = (false, eval e X.env) :: starEach es X.env) (hpl : (backTo pos (starEach es X.env)).any (·.1) = false) :
    PE X (.Call (.Name x p) (e :: es) [] pos) (tCallF (cc X) W g t) := by
  constructor
  intro pins s σ H Q I h
  apply wpAny_Call_Name_kw
  apply ld_glob I hg hm _ hdb
  apply PySem.W.callWith_K (h₀ := X.base) I.ok.mod.kin hk _ he hpl
  refine thn (ha.run pos pins s σ H _ I h) ?_
  rintro us s1 ⟨vs, H1, I1, r, q⟩
  exact ⟨I1.kIn, run_def F hr hgd hb tk I1 r q⟩
theorem pe_def0 (F : FnS X.prog X.w X.K X.mg X.base k f fd ps g) (hr : Room k X.A) (hgd : X.A.guards = some []) (hg : Gl X x) (hm : X.mg x = some (.ref f)) (hk : PySem.W.keepIn X.K (.ref f) = true) (hb : Binds X.K fd ps []) (tk : Takes X W)
    (hdb : (x == ("__debug__" : Str)) = false) : PE X (.Call (.Name x p) [] [] pos) (tCallF (cc X) W g tNil) := by
  constructor
  intro pins s σ H Q I h
  apply wpAny_Call_Name_kw
  apply ld_glob I hg hm _ hdb
  exact PySem.W.callWith_K0 I.kIn hk (run_def (us := []) F hr hgd hb tk I .nil h)
theorem fcall (F : FnS X.prog X.w X.K X.mg X.base k f fd ps g) (hr : Room k X.A) (hgd : X.A.guards = some []) (hm : X.mg x = some (.ref f)) (hk : PySem.W.keepIn X.K (.ref f) = true) (hb : Binds X.K fd ps []) (tk : Takes X W) (ha : FAs X W (e :: es) t fA)
    (hg : Gl X x := by rfl) (hdb : (x == ("__debug__" : Str)) = false := by decide +kernel) (he : starEach (e :: es) X.env = (false, eval e X.env) :: starEach es X.env := by rfl) (hpl : (backTo pos (starEach es X.env)).any (·.1) = false := by rfl) :
    FE X W (.Call (.Name x p) (e :: es) [] pos) (tCallF (cc X) W g t) (xCall g fA) := ⟨pe_def F hr hgd hg hm hk hb tk ha.pe hdb he hpl, so_call ha.so⟩
theorem fcallH (F : FnS X.prog X.w X.K X.mg X.base k f fd ps g) (hr : Room k X.A) (hgd : X.A.guards = some []) (hm : X.mg x = some (.ref f)) (hk : PySem.W.keepIn X.K (.ref f) = true) (hb : Binds X.K fd ps []) (tk : Takes X W) (ha : FAs X W (e :: es) t fA)
    (hg : Gl X x := by rfl) (hdb : (x == ("__debug__" : Str)) = false := by decide +kernel) (he : starEach (e :: es) X.env = (false, eval e X.env) :: starEach es X.env := by rfl) (hpl : (backTo pos (starEach es X.env)).any (·.1) = false := by rfl) :
    FE X W (.Call (.Name x p) (e :: es) [] pos) (tCallF (cc X) W g t) (xCallH g fA) := ⟨pe_def F hr hgd hg hm hk hb tk ha.pe hdb he hpl, so_callH ha.so⟩
theorem fcall0 (F : FnS X.prog X.w X.K X.mg X.base k f fd ps g) (hr : Room k X.A) (hgd : X.A.guards = some []) (hm : X.mg x = some (.ref f)) (hk : PySem.W.keepIn X.K (.ref f) = true) (hb : Binds X.K fd ps []) (tk : Takes X W)
    (hg : Gl X x := by rfl) (hdb : (x == ("__debug__" : Str)) = false := by decide +kernel) : FE X W (.Call (.Name x p) [] [] pos) (tCallF (cc X) W g tNil) (xCall g xNil) := ⟨pe_def0 F hr hgd hg hm hk hb tk hdb, so_call so_nil⟩
end
end FL

/-! FW: the law's own end. -/
namespace FL
open PySem PySem.Spec PyProof.Rows L2

/-- the script's list alone is known -/
def scriptH (K : PySem.W.Frag) (a : Addr) (o : Obj) (xs : List V) : Hp := fun b => if b = a ∧ K.lookup a = none then some (.frz o (.lst xs)) else none
theorem scriptH_some {K : PySem.W.Frag} {a b : Addr} {o : Obj} {xs : List V} {u : HO} (h : scriptH K a o xs b = some u) : b = a ∧ K.lookup a = none ∧ u = .frz o (.lst xs) := by
  unfold scriptH at h
  split at h
  · rename_i c
    cases h
    exact ⟨c.1, c.2, rfl⟩
  · cases h
theorem embs_ints {C : Cc} {ρ : List Addr} {H : Hp} : ∀ ns : List Int, Embs C ρ H (ns.map .int) (ns.map V.int)
  | [] => .nil
  | n :: r => .cons (.int n) (embs_ints r)
theorem end_call {P : Program} {w : World} {K : PySem.W.Frag} {mg mb : Str → Option Value} {k : Nat} {fa a : Addr} {fd : FuncData} {x : Str} {g : Fn} {s₁ : Shared} {vs : List Value} {ns : List Int}
    (KX : K.In s₁.heap) (hns : s₁.heap.Ns mainGlobals mg) (hb : s₁.heap.Ns builtinsNs mb) (hbb : ∀ x : Str, x ≠ "__name__" → mb x = bootBuiltins x) (hlim : s₁.heap.NoLimit) (hgen : s₁.gens = #[])
    (ha : s₁.heap.get? a = some { cls := .type "list", data := .seq vs.toArray }) (hi : IntsAre vs ns) (hl : ns.length ≤ sizeLine) (hr : Room k callerA)
    (F : ∀ base : Heap, K.In base → base.Ns mainGlobals mg → FnS P w K mg base k fa fd [x] g) (hbind : ∀ (s : Shared) (u : Value), BindsTo s fd ⟨[u], []⟩ [(x, u)])
    (hg : ∃ h', g [.rol (ns.map .int)] [] = .ok (.bl true) h') :
    codeAny (model P w) callerA (.call (.ref fa) ⟨[.ref a], []⟩) (fun r s' => r = .ok (.ret (.bool true)) ∧ OldK s₁.heap s'.heap ∧ s'.os = s₁.os ∧ AllBare s'.gens) s₁ := by
  have rv := vals_ints hi
  have hlen := hi.length
  let o : Obj := { cls := .type "list", data := .seq vs.toArray }
  let H : Hp := scriptH K a o (ns.map V.int)
  have hsome : ∀ {b : Addr} {u : HO}, H b = some u → b = a ∧ K.lookup a = none ∧ u = .frz o (.lst (ns.map V.int)) := fun q => scriptH_some q
  have hro : RoL K H a (ns.map V.int) := by
    cases q : K.lookup a with
    | none => exact .inl ⟨o, if_pos ⟨rfl, q⟩⟩
    | some o' =>
      have z := KX a o' q
      rw [ha] at z
      cases z
      exact .inr ⟨_, vs.toArray, _, q, rfl, rfl, rfl, by rw [List.size_toArray, hlen]; exact hl, by simpa using rv⟩
  have hok : HOk P w H s₁.heap := fun b u q => by
    obtain ⟨rfl, _, rfl⟩ := hsome q
    exact ⟨ha, by rw [List.length_map]; exact hl, vs, _, rv, ha⟩
  have old : ∀ {b : Addr} {ob : Obj}, s₁.heap.get? b = some ob → H b = none → (hidT s₁.heap H).get? b = some ob := fun q n => hidT_get q n
  have dictNone : ∀ {b : Addr} {ob : Obj} {es : Array DictEntry} {ep : Nat}, s₁.heap.get? b = some ob → ob.data = .dict es ep → H b = none := fun {b ob es ep} q d => by
    cases z : H b with
    | none => rfl
    | some u =>
      obtain ⟨rfl, _⟩ := hsome z
      rw [ha] at q
      cases q
      cases d
  have nsOld : ∀ {b : Addr} {m : Str → Option Value}, s₁.heap.Ns b m → (hidT s₁.heap H).Ns b m := fun {b m} q => by
    obtain ⟨ob, es, ep, q1, q2, q3⟩ := q
    exact ⟨ob, es, ep, old q1 (dictNone q1 q2), q2, q3⟩
  have KB : K.In (hidT s₁.heap H) := fun b ob q => old (KX b ob q) (by
    cases z : H b with
    | none => rfl
    | some u =>
      obtain ⟨rfl, q2, _⟩ := hsome z
      rw [q] at q2
      cases q2)
  obtain ⟨mc, l1, l2⟩ := hlim
  have M : Mod K mg (hidT s₁.heap H) := ⟨KB, nsOld hns, ⟨mb, nsOld hb, hbb⟩, mc, nsOld l1, l2⟩
  have e0 : Env0 P w K mg (hidT s₁.heap H) callerA [] s₁ H := ⟨rfl, M, fun b ob q => of_hidT q, Nat.le_of_eq (hidT_size _ _), trivial, fun b m => absurd (show b ∈ ([] : List Addr) from m) (by simp), hok, .of_eq hgen⟩
  obtain ⟨h', hg⟩ := hg
  refine codeAny_mono ((F _ KB (nsOld hns)).run callerA [] s₁ H ⟨[.ref a], []⟩ [.ref a] [.ref a] [] [.rol (ns.map .int)] [] (fun v _ => v = .bl true) (fun _ _ _ => False) hr rfl e0 rfl (hbind s₁ (.ref a)) (.cons rfl .nil) (.cons (.rol hro (embs_ints ns)) .nil) HeapOk.nil ?_) ?_
  · rw [hg]
    intro ρ' H' _ _ v hv
    cases hv
    rfl
  · intro r s' hres
    match r, hres with
    | .error e, hres =>
      obtain ⟨_, _, _, _, _, _, _, _, _, _, _, _, z⟩ := hres
      exact z.elim
    | .ok (.ret u), hres =>
      obtain ⟨v, H', os, bare, un, hok', rel, q⟩ := hres
      have q' : v = .bl true := q
      subst q'
      have eu : u = Value.bool true := rel
      subst eu
      refine ⟨rfl, OldK.of_keep fun b ob q => ?_, os, bare⟩
      cases z : H b with
      | none => exact un.keep b ob q z (fun m => absurd (show b ∈ ([] : List Addr) from m) (by simp)) (by simp)
      | some u =>
        obtain ⟨eb, _, eu⟩ := hsome z
        rw [eu] at z
        have z2 := un.frzs b o _ z
        obtain ⟨y1, _⟩ := hok b _ z
        obtain ⟨y2, _⟩ := hok' b _ z2
        rw [q] at y1
        cases y1
        exact y2
/-- the goal that k_head leaves -/
theorem end_walk {l : PySem.W.OpenLaw} {n k : Nat} {q : Program} {loose : List Str} {XP : (Str → Option Value) → Heap → Prop} {YP : World → Heap → Prop} {d : DefRec} {K : Params → PySem.W.Frag} {x : Str} {g : Fn}
    (hn : l.most = some n) (hn2 : n ≤ sizeLine) (hdf : d.params.defaults = []) (hr : Room k callerA) (hY : ∀ (w : World) (h : Heap), YP w h → (K w.params).In h)
    (F : ∀ (w : World) (mg : Str → Option Value) (fa : Addr) (h : Heap), (K w.params).In h → h.Ns mainGlobals mg → mg d.name = some (.ref fa) →
      ∃ fd : FuncData, (∀ (s : Shared) (u : Value), BindsTo s fd ⟨[u], []⟩ [(x, u)]) ∧ ∀ base : Heap, (K w.params).In base → base.Ns mainGlobals mg → FnS l.prog w (K w.params) mg base k fa fd [x] g)
    (hg : ∀ ns : List Int, ns.length ≤ n → (∀ z ∈ ns, Builtin.Int.intBits z ≤ 1048576) → ∃ h', g [.rol (ns.map .int)] [] = .ok (.bl true) h') :
    PySem.W.WalkO q loose XP YP l.row.toRowW d [] (fun f vs => PySem.call f vs) := by
  refine Att.attach_callB hn hdf ?_
  intro w s₀ s₁ mg mb fa ob pm cd doc a vs ns G Y ho hd hcd hmg hobj hints hlen hbits hgen
  obtain ⟨fd, b, f⟩ := F w mg fa _ (hY w _ Y) G.T.g hmg
  exact end_call (hY w _ Y) G.T.g G.T.b G.T.builtins G.T.nolimit hgen hobj hints (Nat.le_trans hlen hn2) hr f b (hg ns hlen hbits)
end FL

/-! FG: built-ins, subscripts, comparisons. -/
namespace FL
open PySem PySem.Spec PyProof.Rows L2

/-! ### sequences -/
/-- the items of a list or tuple as it stands -/
def D.seq (h : Hs) : D → Option (List D)
  | .tup ds => some ds
  | .rol ds => some ds
  | .ref i => match h[i]? with
    | some (.lst ds) => some ds
    | _ => none
  | _ => none
section
variable {C : Cc} {W : WX} {ρ : List Addr} {σ : L2.St} {H : Hp} {h : Hs}
theorem seq_of {d : D} {ds : List D} {v : V} (ok : HeapOk C ρ h H) (hv : Emb C ρ H d v) (e : d.seq h = some ds) : ∃ a vs, v = .ref a ∧ Embs C ρ H ds vs ∧ (SqL C.K H a vs ∨ SqT C.K H a vs) := by
  unfold D.seq at e
  split at e
  · cases e
    cases hv with
    | tup hs hx => exact ⟨_, _, rfl, hx, .inr hs⟩
  · cases e
    cases hv with
    | rol hs hx => exact ⟨_, _, rfl, hx, .inl hs.seq⟩
  · split at e
    · rename_i i ds' q
      cases e
      cases hv with
      | ref ha =>
        obtain ⟨vs, q1, q2⟩ := ok.ob _ _ _ ha q
        exact ⟨_, vs, rfl, q2, .inl (SqL.of q1)⟩
    · cases e
  · cases e
/-- a list -/
def D.lstI (h : Hs) : D → Option (List D)
  | .rol ds => some ds
  | .ref i => match h[i]? with
    | some (.lst ds) => some ds
    | _ => none
  | _ => none
theorem lst_of {d : D} {ds : List D} {v : V} (ok : HeapOk C ρ h H) (hv : Emb C ρ H d v) (e : d.lstI h = some ds) : ∃ a vs, v = .ref a ∧ Embs C ρ H ds vs ∧ SqL C.K H a vs := by
  unfold D.lstI at e
  split at e
  · cases e
    cases hv with
    | rol hs hx => exact ⟨_, _, rfl, hx, hs.seq⟩
  · split at e
    · rename_i i ds' q
      cases e
      cases hv with
      | ref ha =>
        obtain ⟨vs, q1, q2⟩ := ok.ob _ _ _ ha q
        exact ⟨_, vs, rfl, q2, SqL.of q1⟩
    · cases e
  · cases e
theorem Embs.atI {ds : List D} {vs : List V} (hs : Embs C ρ H ds vs) {i : Int} {d : D} (e : atI ds i = some d) : ∃ v, L2.atI vs i = some v ∧ Emb C ρ H d v := by
  unfold L2.atI at e ⊢
  rw [hs.length] at e
  cases q : ixN vs.length i with
  | none => rw [q] at e; cases e
  | some j =>
    rw [q] at e
    exact hs.get (i := j) e
theorem strs_atI {cs : List Nat} {i : Int} {c : Nat} (e : atI cs i = some c) : L2.atI (⟨cs.toArray⟩ : Str).cps.toList i = some c := e
/-- a list that was just made, handed on: p is not told of -/
structure SoF (C : Cc) (W : WX) (r : List V → Hp → VK → Prop) (op : List D → Hs → Res D) : Prop where
  go : ∀ {h ρ σ H Q ds p vs}, HeapOk C ρ h H → SqL C.K H p vs → Embs C ρ H ds vs → Pst C W ρ σ H (op ds h) (GV C Q) → r [.ref p] H Q
/-- the same read off a value -/
def onL (op : List D → Hs → Res D) : List D → Hs → Res D := fun args h => match args with
  | [d] => match d.lstI h with
    | some ds => op ds h
    | none => .stuck
  | _ => .stuck
theorem SoF.val {r : List V → Hp → VK → Prop} {op : List D → Hs → Res D} (s : SoF C W r op) : SoC C W r (onL op) := ⟨fun {h ρ σ H Q ds xs} ok hd hp => by
  unfold onL at hp
  split at hp
  · split at hp
    · rename_i d ds' e
      cases hd with
      | cons hd hr =>
        cases hr
        obtain ⟨a, vs, rfl, q1, q2⟩ := lst_of ok hd e
        exact s.go ok q2 q1 hp
    · exact hp.elim
  · exact hp.elim⟩
/-- a built-in called on a list made for it -/
def xOnNew (op : List D → Hs → Res D) (f : XA) : XE := fun env h => (f env h).bind fun ds h1 => op ds h1
theorem so_onNew {r : List V → Hp → VK → Prop} {op : List D → Hs → Res D} {te : TE} {f : XA} (s : SoF C W r op) (hf : SoL C W te f) : SoE C W (tCB r (tCons te tNil)) (xOnNew op f) := ⟨fun {env h ρ σ H Q} he hh hp =>
  hf.go he hh ((Pst.bind hp).imp fun ds h1 ρ1 H1 e1 ok1 p1 p vs n hs =>
    s.go (ok1.fresh n) (SqL.of upd_same) (hs.mono (Ext.fresh n)) (Pst.mono p1 (Ext.fresh n)))⟩
/-- the same, the answer a new list -/
structure SoFL (C : Cc) (W : WX) (r : List V → Hp → VK → Prop) (op : List D → Hs → Res (List D)) : Prop where
  go : ∀ {h ρ σ H Q ds p vs}, HeapOk C ρ h H → SqL C.K H p vs → Embs C ρ H ds vs → Pst C W ρ σ H (op ds h) (GL C Q) → r [.ref p] H Q
def xOnNewL (op : List D → Hs → Res (List D)) (f : XA) : XA := fun env h => (f env h).bind fun ds h1 => op ds h1
theorem so_onNewL {r : List V → Hp → VK → Prop} {op : List D → Hs → Res (List D)} {te : TE} {f : XA} (s : SoFL C W r op) (hf : SoL C W te f) : SoL C W (tCB r (tCons te tNil)) (xOnNewL op f) := ⟨fun {env h ρ σ H Q} he hh hp =>
  hf.go he hh ((Pst.bind hp).imp fun ds h1 ρ1 H1 e1 ok1 p1 p vs n hs =>
    s.go (ok1.fresh n) (SqL.of upd_same) (hs.mono (Ext.fresh n)) (Pst.mono p1 (Ext.fresh n)))⟩
/-- .. of a value -/
def xOnValL (op : List D → Hs → Res (List D)) (f : XE) : XA := fun env h => (f env h).bind fun d h1 => match d.lstI h1 with
  | some ds => op ds h1
  | none => .stuck
theorem so_onValL {r : List V → Hp → VK → Prop} {op : List D → Hs → Res (List D)} {te : TE} {f : XE} (s : SoFL C W r op) (hf : SoE C W te f) : SoL C W (tCB r (tCons te tNil)) (xOnValL op f) := ⟨fun {env h ρ σ H Q} he hh hp =>
  hf.go he hh ((Pst.bind hp).imp fun d h1 ρ1 H1 e1 ok1 p1 v hv => by
    split at p1
    · rename_i ds e
      obtain ⟨a, vs, rfl, q1, q2⟩ := lst_of ok1 hv e
      exact s.go ok1 q2 q1 p1
    · exact p1.elim)⟩
end
section
variable {X : Cx} {W : WX} {x : Str} {p pos : Pos} {e : Expr} {es : List Expr} {te : TE} {t : TA} {id T : String} {r : List V → Hp → VK → Prop} {op : List D → Hs → Res D} {opL : List D → Hs → Res (List D)} {f : XE} {fA : XA}
/-- a built-in by its rule, of values -/
def xB (op : List D → Hs → Res D) (fA : XA) : XE := fun env h => (fA env h).bind fun ds h1 => op ds h1
theorem so_B {C : Cc} (s : SoC C W r op) (ha : SoA C W t fA) : SoE C W (tCB r t) (xB op fA) := ⟨fun {env h ρ σ H Q} he hh hp =>
  ha.go he hh ((Pst.bind hp).imp fun ds h1 ρ1 H1 e1 ok1 p1 vs hv => s.go ok1 hv p1)⟩
theorem fb (hc : CallR X (.builtin id) r) (s : SoC (cc X) W r op) (hm : X.mg x = none) (ha : FAs X W (e :: es) t fA) (hv : bootBuiltins x = some (.builtin id) := by decide +kernel) (hg : Gl X x := by rfl) (hn : x ≠ "__name__" := by decide +kernel) (hdb : (x == ("__debug__" : Str)) = false := by decide +kernel)
    (he : starEach (e :: es) X.env = (false, eval e X.env) :: starEach es X.env := by rfl) (hpl : (backTo pos (starEach es X.env)).any (·.1) = false := by rfl) : FE X W (.Call (.Name x p) (e :: es) [] pos) (tCB r t) (xB op fA) := ⟨pe_callB hc hg hm hv ha.pe hn hdb he hpl, so_B s ha.so⟩
theorem fty (hc : CallR X (.type T) r) (s : SoC (cc X) W r op) (hm : X.mg x = none) (ha : FAs X W (e :: es) t fA) (hv : bootBuiltins x = some (.type T) := by decide +kernel) (hg : Gl X x := by rfl) (hn : x ≠ "__name__" := by decide +kernel) (hdb : (x == ("__debug__" : Str)) = false := by decide +kernel)
    (he : starEach (e :: es) X.env = (false, eval e X.env) :: starEach es X.env := by rfl) (hpl : (backTo pos (starEach es X.env)).any (·.1) = false := by rfl) : FE X W (.Call (.Name x p) (e :: es) [] pos) (tCB r t) (xB op fA) := ⟨pe_callTy hc hg hm hv ha.pe hn hdb he hpl, so_B s ha.so⟩
/-- of a list that is made for it -/
theorem fbN (hc : CallR X (.builtin id) r) (s : SoF (cc X) W r op) (hm : X.mg x = none) (ha : FLs X W e te fA) (hv : bootBuiltins x = some (.builtin id) := by decide +kernel) (hg : Gl X x := by rfl) (hn : x ≠ "__name__" := by decide +kernel) (hdb : (x == ("__debug__" : Str)) = false := by decide +kernel)
    (hs : starEach [e] X.env = (false, eval e X.env) :: starEach [] X.env := by rfl) (he : starEach [e] X.env = (false, eval e X.env) :: starEach [] X.env := by rfl) (hpl : (backTo pos (starEach [] X.env)).any (·.1) = false := by rfl) :
    FE X W (.Call (.Name x p) [e] [] pos) (tCB r (tCons te tNil)) (xOnNew op fA) := ⟨pe_callB hc hg hm hv (pa_cons ha.pe pa_nil hs) hn hdb he hpl, so_onNew s ha.so⟩
theorem ftyN (hc : CallR X (.type T) r) (s : SoF (cc X) W r op) (hm : X.mg x = none) (ha : FLs X W e te fA) (hv : bootBuiltins x = some (.type T) := by decide +kernel) (hg : Gl X x := by rfl) (hn : x ≠ "__name__" := by decide +kernel) (hdb : (x == ("__debug__" : Str)) = false := by decide +kernel)
    (hs : starEach [e] X.env = (false, eval e X.env) :: starEach [] X.env := by rfl) (he : starEach [e] X.env = (false, eval e X.env) :: starEach [] X.env := by rfl) (hpl : (backTo pos (starEach [] X.env)).any (·.1) = false := by rfl) :
    FE X W (.Call (.Name x p) [e] [] pos) (tCB r (tCons te tNil)) (xOnNew op fA) := ⟨pe_callTy hc hg hm hv (pa_cons ha.pe pa_nil hs) hn hdb he hpl, so_onNew s ha.so⟩
theorem fbNL (hc : CallR X (.builtin id) r) (s : SoFL (cc X) W r opL) (hm : X.mg x = none) (ha : FLs X W e te fA) (hv : bootBuiltins x = some (.builtin id) := by decide +kernel) (hg : Gl X x := by rfl) (hn : x ≠ "__name__" := by decide +kernel) (hdb : (x == ("__debug__" : Str)) = false := by decide +kernel)
    (hs : starEach [e] X.env = (false, eval e X.env) :: starEach [] X.env := by rfl) (he : starEach [e] X.env = (false, eval e X.env) :: starEach [] X.env := by rfl) (hpl : (backTo pos (starEach [] X.env)).any (·.1) = false := by rfl) :
    FLs X W (.Call (.Name x p) [e] [] pos) (tCB r (tCons te tNil)) (xOnNewL opL fA) := ⟨pe_callB hc hg hm hv (pa_cons ha.pe pa_nil hs) hn hdb he hpl, so_onNewL s ha.so⟩
theorem fbVL (hc : CallR X (.builtin id) r) (s : SoFL (cc X) W r opL) (hm : X.mg x = none) (ha : FE X W e te f) (hv : bootBuiltins x = some (.builtin id) := by decide +kernel) (hg : Gl X x := by rfl) (hn : x ≠ "__name__" := by decide +kernel) (hdb : (x == ("__debug__" : Str)) = false := by decide +kernel)
    (hs : starEach [e] X.env = (false, eval e X.env) :: starEach [] X.env := by rfl) (he : starEach [e] X.env = (false, eval e X.env) :: starEach [] X.env := by rfl) (hpl : (backTo pos (starEach [] X.env)).any (·.1) = false := by rfl) :
    FLs X W (.Call (.Name x p) [e] [] pos) (tCB r (tCons te tNil)) (xOnValL opL f) := ⟨pe_callB hc hg hm hv (pa_cons ha.pe pa_nil hs) hn hdb he hpl, so_onValL s ha.so⟩
theorem ftyVL (hc : CallR X (.type T) r) (s : SoFL (cc X) W r opL) (hm : X.mg x = none) (ha : FE X W e te f) (hv : bootBuiltins x = some (.type T) := by decide +kernel) (hg : Gl X x := by rfl) (hn : x ≠ "__name__" := by decide +kernel) (hdb : (x == ("__debug__" : Str)) = false := by decide +kernel)
    (hs : starEach [e] X.env = (false, eval e X.env) :: starEach [] X.env := by rfl) (he : starEach [e] X.env = (false, eval e X.env) :: starEach [] X.env := by rfl) (hpl : (backTo pos (starEach [] X.env)).any (·.1) = false := by rfl) :
    FLs X W (.Call (.Name x p) [e] [] pos) (tCB r (tCons te tNil)) (xOnValL opL f) := ⟨pe_callTy hc hg hm hv (pa_cons ha.pe pa_nil hs) hn hdb he hpl, so_onValL s ha.so⟩
/-- a built-in class as a value -/
theorem fcls {n : String} {x : Str} {pos : Pos} (hm : X.mg x = none) (hv : bootBuiltins x = some (.type n) := by decide +kernel) (hg : Gl X x := by rfl) (hn : x ≠ "__name__" := by decide +kernel) (hd : (x == ("__debug__" : Str)) = false := by decide +kernel) : FE X W (.Name x pos) (tC (.ty n)) (xC (.ty n)) :=
  ⟨pe_bltn hg hm hv rfl hn hd, so_c fun _ _ => .ty n⟩
end

/-! ### the built-ins -/
section
variable {C : Cc} {W : WX}
theorem one_arg {ρ : List Addr} {H : Hp} {d : D} {xs : List V} (h : Embs C ρ H [d] xs) : ∃ v, xs = [v] ∧ Emb C ρ H d v := by
  cases h with
  | cons a r =>
    cases r
    exact ⟨_, rfl, a⟩
theorem two_args {ρ : List Addr} {H : Hp} {d e : D} {xs : List V} (h : Embs C ρ H [d, e] xs) : ∃ v u, xs = [v, u] ∧ Emb C ρ H d v ∧ Emb C ρ H e u := by
  cases h with
  | cons a r =>
    cases r with
    | cons b r =>
      cases r
      exact ⟨_, _, rfl, a, b⟩
/-- len -/
def gLen : List D → Hs → Res D := fun args h => match args with
  | [.str cs] => if cs.length ≤ 100000 then .ok (.int cs.length) h else .stuck
  | [d] => match d.seq h with
    | some ds => .ok (.int ds.length) h
    | none => .stuck
  | _ => .stuck
def rLenA (K : PySem.W.Frag) : List V → Hp → VK → Prop := fun xs H Q => (∃ p ys, xs = [.ref p] ∧ (SqL K H p ys ∨ SqT K H p ys) ∧ Q (.int ys.length) H) ∨ (∃ z, xs = [.str z] ∧ z.length ≤ sizeLine ∧ Q (.int z.length) H)
theorem cr_len {X : Cx} : CallR X (.builtin "len") (rLenA X.K) := CallR.or call_len_seq call_len_str
theorem so_len : SoC C W (rLenA C.K) gLen := ⟨fun {h ρ σ H Q ds xs} ok hd hp => by
  unfold gLen at hp
  split at hp
  · split at hp
    · rename_i cs hl
      obtain ⟨v, rfl, hv⟩ := one_arg hd
      cases hv
      exact .inr ⟨_, rfl, by show cs.toArray.size ≤ _; simpa using sz_ok hl, hp ρ H Ext.refl ok _ (by show Emb C ρ H _ (V.int (((⟨cs.toArray⟩ : Str).cps.size : Nat) : Int)); rw [show (⟨cs.toArray⟩ : Str).cps.size = cs.length by simp]; exact .int _)⟩
    · exact hp.elim
  · split at hp
    · rename_i d _ es e
      obtain ⟨v, rfl, hv⟩ := one_arg hd
      obtain ⟨a, vs, rfl, q1, q2⟩ := seq_of ok hv e
      exact .inl ⟨a, vs, rfl, q2, hp ρ H Ext.refl ok _ (by rw [q1.length]; exact .int _)⟩
    · exact hp.elim
  · exact hp.elim⟩
theorem so_lenF : SoF C W (rLenA C.K) (fun ds h => .ok (.int ds.length) h) := ⟨fun {h ρ σ H Q ds p vs} ok hl hd hp => .inl ⟨p, vs, rfl, .inl hl, hp ρ H Ext.refl ok _ (by rw [hd.length]; exact .int _)⟩⟩
/-- int, abs -/
def gInt : List D → Hs → Res D := fun args h => match args with
  | [.int i] => .ok (.int i) h
  | [.bl b] => .ok (.int (if b then 1 else 0)) h
  | _ => .stuck
theorem so_int : SoC C W (fun xs H Q => (∃ i, xs = [.int i] ∧ Q (.int i) H) ∨ ∃ k, xs = [.bl k] ∧ Q (.int (if k then 1 else 0)) H) gInt := ⟨fun {h ρ σ H Q ds xs} ok hd hp => by
  unfold gInt at hp
  split at hp
  · obtain ⟨v, rfl, hv⟩ := one_arg hd
    cases hv
    exact .inl ⟨_, rfl, hp ρ H Ext.refl ok _ (.int _)⟩
  · obtain ⟨v, rfl, hv⟩ := one_arg hd
    cases hv
    exact .inr ⟨_, rfl, hp ρ H Ext.refl ok _ (.int _)⟩
  · exact hp.elim⟩
def gAbs : List D → Hs → Res D := fun args h => match args with
  | [.int i] => .ok (.int (if i < 0 then -i else i)) h
  | _ => .stuck
theorem so_abs : SoC C W (fun xs H Q => ∃ i, xs = [.int i] ∧ Q (.int (if i < 0 then -i else i)) H) gAbs := ⟨fun {h ρ σ H Q ds xs} ok hd hp => by
  unfold gAbs at hp
  split at hp
  · obtain ⟨v, rfl, hv⟩ := one_arg hd
    cases hv
    exact ⟨_, rfl, hp ρ H Ext.refl ok _ (.int _)⟩
  · exact hp.elim⟩
/-- all ints, all bools -/
def D.ints : List D → Option (List Int)
  | [] => some []
  | .int i :: r => (D.ints r).map (i :: ·)
  | _ => none
def D.bls : List D → Option (List Bool)
  | [] => some []
  | .bl i :: r => (D.bls r).map (i :: ·)
  | _ => none
theorem ints_of {ρ : List Addr} {H : Hp} : ∀ {ds : List D} {ns : List Int} {vs : List V}, D.ints ds = some ns → Embs C ρ H ds vs → vs = ns.map V.int ∧ ds = ns.map .int
  | [], ns, vs, e, h => by
    cases e
    cases h
    exact ⟨rfl, rfl⟩
  | .int i :: r, ns, vs, e, h => by
    unfold D.ints at e
    cases q : D.ints r with
    | none => rw [q] at e; cases e
    | some ms =>
      rw [q] at e
      cases e
      cases h with
      | cons a b =>
        cases a
        obtain ⟨h1, h2⟩ := ints_of q b
        exact ⟨by rw [h1]; rfl, by rw [h2]; rfl⟩
  | .non :: _, _, _, e, _ => by cases e
  | .bl _ :: _, _, _, e, _ => by cases e
  | .str _ :: _, _, _, e, _ => by cases e
  | .ty _ :: _, _, _, e, _ => by cases e
  | .gl _ :: _, _, _, e, _ => by cases e
  | .tup _ :: _, _, _, e, _ => by cases e
  | .rol _ :: _, _, _, e, _ => by cases e
  | .ref _ :: _, _, _, e, _ => by cases e
theorem bls_of {ρ : List Addr} {H : Hp} : ∀ {ds : List D} {ns : List Bool} {vs : List V}, D.bls ds = some ns → Embs C ρ H ds vs → vs = ns.map V.bl
  | [], ns, vs, e, h => by
    cases e
    cases h
    rfl
  | .bl i :: r, ns, vs, e, h => by
    unfold D.bls at e
    cases q : D.bls r with
    | none => rw [q] at e; cases e
    | some ms =>
      rw [q] at e
      cases e
      cases h with
      | cons a b =>
        cases a
        rw [bls_of q b]
        rfl
  | .non :: _, _, _, e, _ => by cases e
  | .int _ :: _, _, _, e, _ => by cases e
  | .str _ :: _, _, _, e, _ => by cases e
  | .ty _ :: _, _, _, e, _ => by cases e
  | .gl _ :: _, _, _, e, _ => by cases e
  | .tup _ :: _, _, _, e, _ => by cases e
  | .rol _ :: _, _, _, e, _ => by cases e
  | .ref _ :: _, _, _, e, _ => by cases e
def gSum : List D → Hs → Res D := fun ds h => match D.ints ds with
  | some ns => .ok (.int ns.sum) h
  | none => .stuck
theorem so_sum : SoF C W (rSum C.K) gSum := ⟨fun {h ρ σ H Q ds p vs} ok hl hd hp => by
  unfold gSum at hp
  split at hp
  · rename_i ns e
    obtain ⟨rfl, _⟩ := ints_of e hd
    exact ⟨p, ns, rfl, hl, hp ρ H Ext.refl ok _ (.int _)⟩
  · exact hp.elim⟩
def gAll : List D → Hs → Res D := fun ds h => match D.bls ds with
  | some ns => .ok (.bl (ns.all id)) h
  | none => .stuck
theorem so_all : SoF C W (rAll C.K) gAll := ⟨fun {h ρ σ H Q ds p vs} ok hl hd hp => by
  unfold gAll at hp
  split at hp
  · rename_i ns e
    have e2 := bls_of e hd
    subst e2
    exact ⟨p, ns, rfl, hl, hp ρ H Ext.refl ok _ (.bl _)⟩
  · exact hp.elim⟩
def gAny : List D → Hs → Res D := fun ds h => match D.bls ds with
  | some ns => .ok (.bl (ns.any id)) h
  | none => .stuck
theorem so_any : SoF C W (rAny C.K) gAny := ⟨fun {h ρ σ H Q ds p vs} ok hl hd hp => by
  unfold gAny at hp
  split at hp
  · rename_i ns e
    have e2 := bls_of e hd
    subst e2
    exact ⟨p, ns, rfl, hl, hp ρ H Ext.refl ok _ (.bl _)⟩
  · exact hp.elim⟩
/-- tuple(xs) -/
def rTupO (K : PySem.W.Frag) : List V → Hp → VK → Prop := fun xs H Q => ∃ p ys, xs = [.ref p] ∧ ((SqL K H p ys ∧ ∀ l, H l = none → Q (.ref l) (upd H l (.tup ys))) ∨ (SqT K H p ys ∧ Q (.ref p) H))
theorem so_tupF : SoF C W (rTupO C.K) (fun ds h => .ok (.tup ds) h) := ⟨fun {h ρ σ H Q ds p vs} ok hl hd hp =>
  ⟨p, vs, rfl, .inl ⟨hl, fun l n => hp ρ _ (Ext.fresh n) (ok.fresh n) _ (.tup (SqT.of upd_same) (hd.mono (Ext.fresh n)))⟩⟩⟩
def gTup : List D → Hs → Res D := fun args h => match args with
  | [.tup ds] => .ok (.tup ds) h
  | [d] => match d.lstI h with
    | some ds => .ok (.tup ds) h
    | none => .stuck
  | _ => .stuck
theorem so_tupC : SoC C W (rTupO C.K) gTup := ⟨fun {h ρ σ H Q ds xs} ok hd hp => by
  unfold gTup at hp
  split at hp
  · obtain ⟨v, rfl, hv⟩ := one_arg hd
    cases hv with
    | tup hs hx => exact ⟨_, _, rfl, .inr ⟨hs, hp ρ H Ext.refl ok _ (.tup hs hx)⟩⟩
  · split at hp
    · rename_i d _ es e
      obtain ⟨v, rfl, hv⟩ := one_arg hd
      obtain ⟨a, vs, rfl, q1, q2⟩ := lst_of ok hv e
      exact so_tupF.go ok q2 q1 hp
    · exact hp.elim
  · exact hp.elim⟩
/-- list(xs) -/
def rLstO (K : PySem.W.Frag) : List V → Hp → VK → Prop := fun xs H Q => ∃ p ys, xs = [.ref p] ∧ (SqL K H p ys ∨ SqT K H p ys) ∧ ∀ l, H l = none → Q (.ref l) (upd H l (.lst ys))
def xLstOf (f : XE) : XA := fun env h => (f env h).bind fun d h1 => match d.seq h1 with
  | some ds => .ok ds h1
  | none => .stuck
theorem so_lstOf {te : TE} {f : XE} (hf : SoE C W te f) : SoL C W (tCB (rLstO C.K) (tCons te tNil)) (xLstOf f) := ⟨fun {env h ρ σ H Q} he hh hp =>
  hf.go he hh ((Pst.bind hp).imp fun d h1 ρ1 H1 e1 ok1 p1 v hv => by
    split at p1
    · rename_i ds e
      obtain ⟨a, vs, rfl, q1, q2⟩ := seq_of ok1 hv e
      exact ⟨a, vs, rfl, q2, fun l n => p1 ρ1 H1 Ext.refl ok1 l vs n q1⟩
    · exact p1.elim)⟩
theorem flist {X : Cx} {e : Expr} {te : TE} {f : XE} {p pos : Pos} (hm : X.mg "list" = none) (ha : FE X W e te f) (hg : Gl X "list" := by rfl)
    (hs : starEach [e] X.env = (false, eval e X.env) :: starEach [] X.env := by rfl) (he : starEach [e] X.env = (false, eval e X.env) :: starEach [] X.env := by rfl) (hpl : (backTo pos (starEach [] X.env)).any (·.1) = false := by rfl) :
    FLs X W (.Call (.Name "list" p) [e] [] pos) (tCB (rLstO X.K) (tCons te tNil)) (xLstOf f) := ⟨pe_callTy call_list_of hg hm (by decide +kernel) (pa_cons ha.pe pa_nil hs) (by decide +kernel) (by decide +kernel) he hpl, so_lstOf ha.so⟩
/-- isinstance(x, a built-in class) -/
def D.ty? (h : Hs) : D → Option String
  | .non => some "NoneType"
  | .bl _ => some "bool"
  | .int _ => some "int"
  | .str _ => some "str"
  | .tup _ => some "tuple"
  | .rol _ => some "list"
  | .ref i => match h[i]? with
    | some (.lst _) => some "list"
    | some (.dk _) => some "dict"
    | some (.dt _) => some "dict"
    | none => none
  | _ => none
def isT (a b : String) : Option Bool :=
  if a == b then some true else if a == "bool" && b == "int" then some true
  else if ["NoneType", "bool", "int", "str", "tuple", "list", "dict"].contains a && ["bool", "int", "str", "tuple", "list", "dict"].contains b then some false else none
theorem isT_ok : ∀ a ∈ ["NoneType", "bool", "int", "str", "tuple", "list", "dict"], ∀ b ∈ ["bool", "int", "str", "tuple", "list", "dict"], L2.kitB a b = isT a b := by decide +kernel
def gIsi : List D → Hs → Res D := fun args h => match args with
  | [d, .ty b] => match d.ty? h with
    | some a => if ["bool", "int", "str", "tuple", "list", "dict"].contains b then (match isT a b with
      | some r => .ok (.bl r) h
      | none => .stuck) else .stuck
    | none => .stuck
  | _ => .stuck
theorem ty_of {ρ : List Addr} {H : Hp} {h : Hs} {d : D} {v : V} {a : String} (ok : HeapOk C ρ h H) (hv : Emb C ρ H d v) (e : d.ty? h = some a) : TyX C.K H v (.type a) ∧ a ∈ ["NoneType", "bool", "int", "str", "tuple", "list", "dict"] := by
  unfold D.ty? at e
  split at e
  · cases e; cases hv; exact ⟨.base .non, by decide +kernel⟩
  · cases e; cases hv; exact ⟨.base (.bl _), by decide +kernel⟩
  · cases e; cases hv; exact ⟨.base (.int _), by decide +kernel⟩
  · cases e; cases hv; exact ⟨.base (.str _), by decide +kernel⟩
  · cases e
    cases hv with
    | tup hs hx =>
      refine ⟨?_, by decide +kernel⟩
      rcases hs with (q | ⟨o, q⟩) | ⟨o, its, n, q1, q2, _⟩
      · exact .base (.tup q)
      · exact .fTuple q
      · exact .kTuple q1 q2
  · cases e
    cases hv with
    | rol hs hx =>
      refine ⟨?_, by decide +kernel⟩
      rcases hs with ⟨o, q⟩ | ⟨o, its, n, q1, q2, _⟩
      · exact .base (.frz q)
      · exact .kList q1 q2
  · split at e
    · rename_i i ds q
      cases e
      cases hv with
      | ref ha =>
        obtain ⟨vs, q1, q2⟩ := ok.ob _ _ _ ha q
        exact ⟨.base (.lst q1), by decide +kernel⟩
    · rename_i i ds q
      cases e
      cases hv with
      | ref ha =>
        obtain ⟨vs, q1, q2⟩ := ok.ob _ _ _ ha q
        exact ⟨.base (.dK q1), by decide +kernel⟩
    · rename_i i ds q
      cases e
      cases hv with
      | ref ha =>
        obtain ⟨vs, q1, q2⟩ := ok.ob _ _ _ ha q
        exact ⟨.base (.dT q1), by decide +kernel⟩
    · cases e
  · cases e
theorem so_isi : SoC C W (rIsi C.K) gIsi := ⟨fun {h ρ σ H Q ds xs} ok hd hp => by
  unfold gIsi at hp
  split at hp
  · rename_i d b
    split at hp
    · rename_i a ea
      split at hp
      · rename_i hb
        split at hp
        · rename_i r er
          obtain ⟨v, u, rfl, hv, hu⟩ := two_args hd
          cases hu
          obtain ⟨t1, t2⟩ := ty_of ok hv ea
          have hb' : b ∈ ["bool", "int", "str", "tuple", "list", "dict"] := List.contains_iff_mem.mp hb
          exact ⟨v, _, _, _, r, rfl, .ty b, t1, kit_ty ((isT_ok a t2 b hb').trans er), hp ρ H Ext.refl ok _ (.bl r)⟩
        · exact hp.elim
      · exact hp.elim
    · exact hp.elim
  · exact hp.elim⟩
end

/-! ### subscripts -/
def gIx : D → D → Hs → Res D := fun a b h => match a, b with
  | .str cs, .int i => if cs.length ≤ 100000 then (match atI cs i with
    | some c => .ok (.str [c]) h
    | none => .stuck) else .stuck
  | d, .int i => match d.seq h with
    | some ds => (match atI ds i with
      | some x => .ok x h
      | none => .stuck)
    | none => .stuck
  | _, _ => .stuck
theorem so_ix {C : Cc} {W : WX} : SoO C W (rIx C.K) gIx := ⟨fun {h ρ σ H Q d1 d2 x y} ok hx hy hp => by
  unfold gIx at hp
  split at hp
  · rename_i cs i
    split at hp
    · rename_i hl
      split at hp
      · rename_i c e
        cases hx
        cases hy
        exact .inr (.inr ⟨_, i, c, rfl, rfl, by show cs.toArray.size ≤ _; simpa using sz_ok hl, e, hp ρ H Ext.refl ok _ (.str [c])⟩)
      · exact hp.elim
    · exact hp.elim
  · rename_i i _
    split at hp
    · rename_i ds e
      split at hp
      · rename_i z e2
        cases hy
        obtain ⟨a, vs, rfl, q1, q2⟩ := seq_of ok hx e
        obtain ⟨v, e3, hv⟩ := q1.atI e2
        rcases q2 with q2 | q2
        · exact .inl ⟨a, vs, i, v, rfl, rfl, q2, e3, hp ρ H Ext.refl ok v hv⟩
        · exact .inr (.inl ⟨a, vs, i, v, rfl, rfl, q2, e3, hp ρ H Ext.refl ok v hv⟩)
      · exact hp.elim
    · exact hp.elim
  · exact hp.elim⟩
theorem fix {X : Cx} {W : WX} {a b : Expr} {ta tb : TE} {fa fb : XE} {pos : Pos} (ha : FE X W a ta fa) (hb : FE X W b tb fb) (hs : PlainIx b := by exact fun _ _ => rfl) : FE X W (.Subscript a b pos) (tOp (rIx X.K) ta tb) (xOp gIx fa fb) :=
  ⟨pe_ix ix_seq ha.pe hb.pe hs, so_op so_ix ha.so hb.so⟩
/-- an item of a list that was just made -/
def xIxN (f : XA) (fb : XE) : XE := fun env h => (f env h).bind fun ds h1 => (fb env h1).bind fun i h2 => match i with
  | .int i => (match atI ds i with
    | some x => .ok x h2
    | none => .stuck)
  | _ => .stuck
theorem fresh_kept {ρ1 ρ2 : List Addr} {H1 H2 : Hp} {C : Cc} {h1 : Hs} {p : Addr} {vs : List V} (ok1 : HeapOk C ρ1 h1 H1) (n : H1 p = none) (e2 : Ext ρ1 ρ2 (upd H1 p (.lst vs)) H2) : H2 p = some (.lst vs) := e2.keep p _ upd_same (ok1.notin n)
theorem so_ixN {C : Cc} {W : WX} {ta tb : TE} {f : XA} {fb : XE} (ha : SoL C W ta f) (hb : SoE C W tb fb) : SoE C W (tOp (rIx C.K) ta tb) (xIxN f fb) := ⟨fun {env h ρ σ H Q} he hh hp =>
  ha.go he hh ((Pst.bind hp).imp fun ds h1 ρ1 H1 e1 ok1 p1 p vs n hs =>
    hb.go ((he.mono e1).mono (Ext.fresh n)) (ok1.fresh n) ((Pst.bind (Pst.mono p1 (Ext.fresh n))).imp fun d2 h2 ρ2 H2 e2 ok2 p2 y hy => by
      split at p2
      · rename_i i
        split at p2
        · rename_i z e3
          cases hy
          obtain ⟨v, e4, hv⟩ := (hs.mono ((Ext.fresh (o := .lst vs) n).trans e2)).atI e3
          exact .inl ⟨p, vs, i, v, rfl, rfl, SqL.of (fresh_kept ok1 n e2), e4, p2 ρ2 H2 Ext.refl ok2 v hv⟩
        · exact p2.elim
      · exact p2.elim))⟩
theorem fixN {X : Cx} {W : WX} {a b : Expr} {ta tb : TE} {fa : XA} {fb : XE} {pos : Pos} (ha : FLs X W a ta fa) (hb : FE X W b tb fb) (hs : PlainIx b := by exact fun _ _ => rfl) : FE X W (.Subscript a b pos) (tOp (rIx X.K) ta tb) (xIxN fa fb) :=
  ⟨pe_ix ix_seq ha.pe hb.pe hs, so_ixN ha.so hb.so⟩

/-! ### slices -/
abbrev XO := Sl → Hs → Res (Option Int)
structure SoOp (C : Cc) (W : WX) (t : TO) (f : XO) : Prop where
  go : ∀ {env h ρ σ H Q}, EnvOk C ρ H env σ → HeapOk C ρ h H → Pst C W ρ σ H (f env h) (fun o _ _ H' => Q o H') → t σ H Q
structure FO (X : Cx) (W : WX) (e : Option Expr) (t : TO) (f : XO) : Prop where
  po : PO X e t
  so : SoOp (cc X) W t f
def xNoPart : XO := fun _ h => .ok none h
def xPart (f : XE) : XO := fun env h => (f env h).bind fun d h1 => match d with
  | .int i => .ok (some i) h1
  | _ => .stuck
theorem fo_none {X : Cx} {W : WX} : FO X W none tNoPart xNoPart := ⟨po_none, ⟨fun {env h ρ σ H Q} he hh hp => hp ρ H Ext.refl hh⟩⟩
theorem fo_some {X : Cx} {W : WX} {e : Expr} {te : TE} {f : XE} (hf : FE X W e te f) : FO X W (some e) (tPart te) (xPart f) := ⟨po_some hf.pe, ⟨fun {env h ρ σ H Q} he hh hp =>
  hf.so.go he hh ((Pst.bind hp).imp fun d h1 ρ1 H1 e1 ok1 p1 v hv => by
    split at p1
    · cases hv
      exact ⟨_, rfl, p1 ρ1 H1 Ext.refl ok1⟩
    · exact p1.elim)⟩⟩
def cutD {α : Type} (xs : List α) (lo hi : Option Int) : List α := (xs.drop (HT.sIx xs.length 0 lo)).take (HT.sIx xs.length xs.length hi - HT.sIx xs.length 0 lo)
theorem Embs.cut {C : Cc} {ρ : List Addr} {H : Hp} {ds : List D} {vs : List V} (h : Embs C ρ H ds vs) (lo hi : Option Int) : Embs C ρ H (cutD ds lo hi) (cutV vs lo hi) := by
  unfold cutD cutV
  rw [h.length]
  exact (h.drop _).take _
/-- a slice of a list (a new list) -/
def xSlL (f : XE) (lo hi : XO) : XA := fun env h => (f env h).bind fun d h1 => (lo env h1).bind fun l h2 => (hi env h2).bind fun u h3 => match d.lstI h3 with
  | some ds => .ok (cutD ds l u) h3
  | none => .stuck
theorem fslL {X : Cx} {W : WX} {e : Expr} {lo hi : Option Expr} {te : TE} {tl th : TO} {f : XE} {fl fh : XO} {p2 pos : Pos} (he : FE X W e te f) (hl : FO X W lo tl fl) (hh : FO X W hi th fh) : FLs X W (.Subscript e (.Slice lo hi none p2) pos) (tSl (rSlL X.K) te tl th) (xSlL f fl fh) :=
  ⟨pe_slice sl_list he.pe hl.po hh.po, ⟨fun {env h ρ σ H Q} en ok hp =>
    he.so.go en ok ((Pst.bind hp).imp fun d h1 ρ1 H1 e1 ok1 p1 v hv =>
      hl.so.go (en.mono e1) ok1 ((Pst.bind p1).imp fun l h2 ρ2 H2 e2 ok2 p2 =>
        hh.so.go ((en.mono e1).mono e2) ok2 ((Pst.bind p2).imp fun u h3 ρ3 H3 e3 ok3 p3 => by
          split at p3
          · rename_i ds e
            obtain ⟨a, vs, rfl, q1, q2⟩ := lst_of ok3 ((hv.mono e2).mono e3) e
            exact ⟨a, vs, rfl, q2, fun p n => p3 ρ3 H3 Ext.refl ok3 p _ n (q1.cut l u)⟩
          · exact p3.elim)))⟩⟩
/-- of a list that was just made -/
def xSlN (f : XA) (lo hi : XO) : XA := fun env h => (f env h).bind fun ds h1 => (lo env h1).bind fun l h2 => (hi env h2).bind fun u h3 => .ok (cutD ds l u) h3
theorem fslN {X : Cx} {W : WX} {e : Expr} {lo hi : Option Expr} {te : TE} {tl th : TO} {f : XA} {fl fh : XO} {p2 pos : Pos} (he : FLs X W e te f) (hl : FO X W lo tl fl) (hh : FO X W hi th fh) : FLs X W (.Subscript e (.Slice lo hi none p2) pos) (tSl (rSlL X.K) te tl th) (xSlN f fl fh) :=
  ⟨pe_slice sl_list he.pe hl.po hh.po, ⟨fun {env h ρ σ H Q} en ok hp =>
    he.so.go en ok ((Pst.bind hp).imp fun ds h1 ρ1 H1 e1 ok1 p1 p vs n hs =>
      hl.so.go ((en.mono e1).mono (Ext.fresh n)) (ok1.fresh n) ((Pst.bind (Pst.mono p1 (Ext.fresh n))).imp fun l h2 ρ2 H2 e2 ok2 p2 =>
        hh.so.go (((en.mono e1).mono (Ext.fresh n)).mono e2) ok2 ((Pst.bind p2).imp fun u h3 ρ3 H3 e3 ok3 p3 =>
          ⟨p, vs, rfl, SqL.of (fresh_kept ok1 n (e2.trans e3)), fun q m => p3 ρ3 H3 Ext.refl ok3 q _ m ((hs.mono ((Ext.fresh (o := .lst vs) n).trans (e2.trans e3))).cut l u)⟩)))⟩⟩
/-- xs[::-1] of a list -/
def xRevL (f : XE) : XA := fun env h => (f env h).bind fun d h1 => match d.lstI h1 with
  | some ds => .ok ds.reverse h1
  | none => .stuck
theorem frevL {X : Cx} {W : WX} {e : Expr} {te : TE} {f : XE} {k : Nat} {p1 p2 p3 pos : Pos} (he : FE X W e te f) : FLs X W (.Subscript e (.Slice none none (some (.UnaryOp .USub (.Constant (.int 1) k p1) p2)) p3) pos) (tRevL X.K te) (xRevL f) :=
  ⟨pe_revL he.pe, ⟨fun {env h ρ σ H Q} en ok hp => he.so.go en ok ((Pst.bind hp).imp fun d h1 ρ1 H1 e1 ok1 p1 v hv => by
    split at p1
    · rename_i ds e
      obtain ⟨a, vs, rfl, q1, q2⟩ := lst_of ok1 hv e
      exact ⟨a, vs, rfl, q2, fun p n => p1 ρ1 H1 Ext.refl ok1 p _ n q1.reverse⟩
    · exact p1.elim)⟩⟩
def xRevN (f : XA) : XA := fun env h => (f env h).bind fun ds h1 => .ok ds.reverse h1
theorem frevN {X : Cx} {W : WX} {e : Expr} {te : TE} {f : XA} {k : Nat} {p1 p2 p3 pos : Pos} (he : FLs X W e te f) : FLs X W (.Subscript e (.Slice none none (some (.UnaryOp .USub (.Constant (.int 1) k p1) p2)) p3) pos) (tRevL X.K te) (xRevN f) :=
  ⟨pe_revL he.pe, ⟨fun {env h ρ σ H Q} en ok hp => he.so.go en ok ((Pst.bind hp).imp fun ds h1 ρ1 H1 e1 ok1 p1 p vs n hs =>
    ⟨p, vs, rfl, SqL.of upd_same, fun q m => p1 ρ1 _ (Ext.fresh n) (ok1.fresh n) q _ m (hs.mono (Ext.fresh n)).reverse⟩)⟩⟩
end FL

/-! FH: operators, comparisons, methods, sources, dicts. -/
namespace FL
open PySem PySem.Spec PyProof.Rows L2

/-! ### operators -/
/-- ints whose product is of a size that is told -/
def mulFits (i j : Int) : Bool := (decide (i.natAbs < 18446744073709551616) && decide (j.natAbs < 18446744073709551616)) || decide (i.natAbs.log2 + j.natAbs.log2 < 100000000)
def CMulX (i j : Int) : Prop := i.natAbs.log2 + j.natAbs.log2 < 100000000
theorem CMulX.ok {i j : Int} (h : CMulX i j) : IntMulOk i j := by
  have b : ∀ x : Int, Builtin.Int.intBits x ≤ x.natAbs.log2 + 1 := fun x => by
    unfold Builtin.Int.intBits
    split <;> omega
  have h1 := b i
  have h2 := b j
  have h3 : i.natAbs.log2 + j.natAbs.log2 < 100000000 := h
  have e : bitsLine = 134217728 := by decide
  unfold IntMulOk
  intro z
  rw [Bool.and_eq_true] at z
  have z2 := z.2
  unfold Builtin.Int.intTooBig at z2
  have z3 := of_decide_eq_true z2
  rw [e] at z3
  omega
theorem mulFits_ok {i j : Int} (h : mulFits i j = true) : CMulX i j := by
  unfold mulFits at h
  rw [Bool.or_eq_true, Bool.and_eq_true] at h
  rcases h with ⟨h1, h2⟩ | h
  · have a := of_decide_eq_true h1
    have b := of_decide_eq_true h2
    have q : ∀ n : Nat, n < 18446744073709551616 → n.log2 < 64 := fun n hn => by
      by_cases z : n = 0
      · subst z; decide
      · exact (Nat.log2_lt z).mpr hn
    have := q _ a
    have := q _ b
    unfold CMulX
    omega
  · unfold CMulX
    exact of_decide_eq_true h
theorem op_mulX {X : Cx} : OpR X (binaryOp .Mult) (rI CMulX fun i j => .int (i * j)) := opI fun _ _ _ _ _ _ _ hc q => mul_int q hc.ok
theorem iop_mulX {X : Cx} : OpR X (inplaceOp .Mult) (rI CMulX fun i j => .int (i * j)) := opI fun _ _ _ _ _ _ _ hc q => imul_int q hc.ok
section
variable {C : Cc} {W : WX}
theorem SoO.or_l {r r' : R2} {op : D → D → Hs → Res D} (h : SoO C W r op) : SoO C W (fun x y H Q => r x y H Q ∨ r' x y H Q) op := ⟨fun a b c d => .inl (h.go a b c d)⟩
def dSub : D → D → Hs → Res D := dI0 fun i j => .int (i - j)
def dMulI : D → D → Hs → Res D := dI mulFits fun i j => .int (i * j)
def dMod : D → D → Hs → Res D := dI (fun _ j => decide (0 < j)) fun i j => .int (i % j)
def divFits (j : Int) : Bool := decide (0 < j) && (decide (j.natAbs < 18446744073709551616) || decide (j.natAbs.log2 < 9000))
def dDiv : D → D → Hs → Res D := dI (fun _ j => divFits j) fun i j => .int (i / j)
def powFits (i j : Int) : Bool := decide (0 ≤ j) && decide (j ≤ 1000) && decide (i.natAbs < 18446744073709551616)
def dPow : D → D → Hs → Res D := dI powFits fun i j => .int (i ^ j.toNat)
theorem divFits_ok {i j : Int} (h : divFits j = true) : CDivW i j := by
  unfold divFits at h
  rw [Bool.and_eq_true, Bool.or_eq_true] at h
  refine ⟨of_decide_eq_true h.1, ?_⟩
  rcases h.2 with h | h
  · have a := of_decide_eq_true h
    by_cases z : j.natAbs = 0
    · rw [z]; decide
    · exact Nat.lt_of_lt_of_le ((Nat.log2_lt z).mpr (show j.natAbs < 2 ^ 64 from a)) (by decide)
  · exact of_decide_eq_true h
theorem powFits_ok {i j : Int} (h : powFits i j = true) : CPow i j := by
  unfold powFits at h
  rw [Bool.and_eq_true, Bool.and_eq_true] at h
  have h1 := of_decide_eq_true h.1.1
  have h2 := of_decide_eq_true h.1.2
  have h3 := of_decide_eq_true h.2
  exact ⟨h1, by omega, h3⟩
theorem so_sub : SoO C W (rI0 fun i j => .int (i - j)) dSub := so_I0 fun _ _ _ _ => .int _
theorem so_mulI : SoO C W (rI CMulX fun i j => .int (i * j)) dMulI := so_I (fun _ _ _ _ => .int _) fun _ _ h => mulFits_ok h
theorem so_mod : SoO C W (rI (fun _ j => 0 < j) fun i j => .int (i % j)) dMod := so_I (fun _ _ _ _ => .int _) fun _ _ h => of_decide_eq_true h
theorem so_div : SoO C W (rI CDivW fun i j => .int (i / j)) dDiv := so_I (fun _ _ _ _ => .int _) fun _ _ h => divFits_ok h
theorem so_pow : SoO C W (rI CPow fun i j => .int (i ^ j.toNat)) dPow := so_I (fun _ _ _ _ => .int _) fun _ _ h => powFits_ok h
/-- +: ints, texts, tuples -/
def dAdd : D → D → Hs → Res D := fun a b h => match a, b with
  | .int i, .int j => .ok (.int (i + j)) h
  | .str x, .str y => if x.length + y.length ≤ 100000 then .ok (.str (x ++ y)) h else .stuck
  | .tup x, .tup y => if x.length + y.length ≤ 100000 then .ok (.tup (x ++ y)) h else .stuck
  | _, _ => .stuck
def rAddS : R2 := fun x y H Q => ∃ i j, x = .str i ∧ y = .str j ∧ i.length + j.length ≤ sizeLine ∧ Q (.str (i ++ j)) H
def rAddA (K : PySem.W.Frag) : R2 := fun x y H Q => rI0 (fun i j => .int (i + j)) x y H Q ∨ (rAddS x y H Q ∨ rCatA K x y H Q)
theorem op_addA {X : Cx} : OpR X (binaryOp .Add) (rAddA X.K) := op_add.or (op_add_str.or op_catA)
theorem strLen (cs : List Nat) : (⟨cs.toArray⟩ : Str).length = cs.length := by
  show cs.toArray.size = _
  simp
theorem strApp (a b : List Nat) : (⟨a.toArray⟩ : Str) ++ (⟨b.toArray⟩ : Str) = ⟨(a ++ b).toArray⟩ := by
  show (⟨a.toArray ++ b.toArray⟩ : Str) = _
  rw [List.append_toArray]
theorem so_add : SoO C W (rAddA C.K) dAdd := ⟨fun {h ρ σ H Q d1 d2 x y} ok hx hy hp => by
  unfold dAdd at hp
  split at hp
  · cases hx
    cases hy
    exact .inl ⟨_, _, rfl, rfl, hp ρ H Ext.refl ok _ (.int _)⟩
  · rename_i a b
    split at hp
    · rename_i hl
      cases hx
      cases hy
      refine .inr (.inl ⟨_, _, rfl, rfl, by rw [strLen, strLen]; exact sz_ok hl, ?_⟩)
      rw [strApp]
      exact hp ρ H Ext.refl ok _ (.str _)
    · exact hp.elim
  · rename_i a b
    split at hp
    · rename_i hl
      cases hx with
      | @tup _ vs p s1 h1 =>
        cases hy with
        | @tup _ ws q s2 h2 =>
          refine .inr (.inr ⟨_, _, vs, ws, rfl, rfl, s1, s2, by rw [← h1.length, ← h2.length]; exact sz_ok hl, fun z => ?_, fun _ z => ?_, fun _ _ r n => ?_⟩)
          · subst z
            cases h1
            exact hp ρ H Ext.refl ok _ (.tup s2 h2)
          · subst z
            cases h2
            exact hp ρ H Ext.refl ok _ (by rw [List.append_nil]; exact .tup s1 h1)
          · exact hp ρ _ (Ext.fresh n) (ok.fresh n) _ (.tup (SqT.of upd_same) ((h1.append h2).mono (Ext.fresh n)))
    · exact hp.elim
  · exact hp.elim⟩
/-- - before an int -/
def dNeg : D → Hs → Res D := fun a h => match a with
  | .int i => .ok (.int (-i)) h
  | _ => .stuck
theorem so_neg : SoU C W (rU fun i => .int (-i)) dNeg := ⟨fun {h ρ σ H Q d1 x} ok hx hp => by
  unfold dNeg at hp
  split at hp
  · cases hx
    exact ⟨_, rfl, hp ρ H Ext.refl ok _ (.int _)⟩
  · exact hp.elim⟩
/-- two lists -/
def xCatVN (fa : XE) (fb : XA) : XA := fun env h => (fa env h).bind fun d h1 => (fb env h1).bind fun es h2 => match d with
  | .ref i => (match h2[i]? with
    | some (.lst ds) => if ds.length + es.length ≤ 100000 then .ok (ds ++ es) h2 else .stuck
    | _ => .stuck)
  | _ => .stuck
theorem so_catVN {ta tb : TE} {fa : XE} {fb : XA} (ha : SoE C W ta fa) (hb : SoL C W tb fb) : SoL C W (tOp rCat ta tb) (xCatVN fa fb) := ⟨fun {env h ρ σ H Q} he hh hp =>
  ha.go he hh ((Pst.bind hp).imp fun d h1 ρ1 H1 e1 ok1 p1 v hv =>
    hb.go (he.mono e1) ok1 ((Pst.bind p1).imp fun es h2 ρ2 H2 e2 ok2 p2 p vs n hs => by
      split at p2
      · rename_i i
        split at p2
        · rename_i ds e
          split at p2
          · rename_i hl
            cases hv with
            | ref ha =>
              have ha2 := e2.at ha
              obtain ⟨ws, q1, q2⟩ := ok2.ob _ _ _ ha2 e
              have ne := ne_of_none q1 n
              refine ⟨_, p, ws, vs, rfl, rfl, by rw [upd_ne ne]; exact q1, upd_same, by rw [← q2.length, ← hs.length]; exact sz_ok hl, fun q m => ?_⟩
              exact p2 ρ2 _ (Ext.fresh n) (ok2.fresh n) q _ m ((q2.append hs).mono (Ext.fresh n))
          · exact p2.elim
        · exact p2.elim
      · exact p2.elim))⟩
def xCatNN (fa fb : XA) : XA := fun env h => (fa env h).bind fun ds h1 => (fb env h1).bind fun es h2 => if ds.length + es.length ≤ 100000 then .ok (ds ++ es) h2 else .stuck
theorem so_catNN {ta tb : TE} {fa fb : XA} (ha : SoL C W ta fa) (hb : SoL C W tb fb) : SoL C W (tOp rCat ta tb) (xCatNN fa fb) := ⟨fun {env h ρ σ H Q} he hh hp =>
  ha.go he hh ((Pst.bind hp).imp fun ds h1 ρ1 H1 e1 ok1 p1 p vs n hs =>
    hb.go ((he.mono e1).mono (Ext.fresh n)) (ok1.fresh n) ((Pst.bind (Pst.mono p1 (Ext.fresh n))).imp fun es h2 ρ2 H2 e2 ok2 p2 q ws m hs2 => by
      split at p2
      · rename_i hl
        have k := fresh_kept (vs := vs) ok1 n e2
        refine ⟨p, q, vs, ws, rfl, rfl, by rw [upd_ne (ne_of_none k m)]; exact k, upd_same, by rw [← hs.length, ← hs2.length]; exact sz_ok hl, fun r m2 => ?_⟩
        exact p2 ρ2 _ (Ext.fresh m) (ok2.fresh m) r _ m2 (((hs.mono ((Ext.fresh (o := .lst vs) n).trans e2)).append hs2).mono (Ext.fresh m))
      · exact p2.elim))⟩
def xCatVV (fa fb : XE) : XA := fun env h => (fa env h).bind fun d h1 => (fb env h1).bind fun e h2 => match d, e with
  | .ref i, .ref j => (match h2[i]?, h2[j]? with
    | some (.lst ds), some (.lst es) => if ds.length + es.length ≤ 100000 then .ok (ds ++ es) h2 else .stuck
    | _, _ => .stuck)
  | _, _ => .stuck
theorem so_catVV {ta tb : TE} {fa fb : XE} (ha : SoE C W ta fa) (hb : SoE C W tb fb) : SoL C W (tOp rCat ta tb) (xCatVV fa fb) := ⟨fun {env h ρ σ H Q} he hh hp =>
  ha.go he hh ((Pst.bind hp).imp fun d h1 ρ1 H1 e1 ok1 p1 v hv =>
    hb.go (he.mono e1) ok1 ((Pst.bind p1).imp fun e h2 ρ2 H2 e2 ok2 p2 u hu => by
      split at p2
      · rename_i i j
        split at p2
        · rename_i ds es q r
          split at p2
          · rename_i hl
            cases hv with
            | ref ha =>
              cases hu with
              | ref hb =>
                obtain ⟨ws, q1, q2⟩ := ok2.ob _ _ _ (e2.at ha) q
                obtain ⟨zs, r1, r2⟩ := ok2.ob _ _ _ hb r
                exact ⟨_, _, ws, zs, rfl, rfl, q1, r1, by rw [← q2.length, ← r2.length]; exact sz_ok hl, fun p n => p2 ρ2 H2 Ext.refl ok2 p _ n (q2.append r2)⟩
          · exact p2.elim
        · exact p2.elim
      · exact p2.elim))⟩
/-- [..] * n -/
def xRepN (fa : XA) (fb : XE) : XA := fun env h => (fa env h).bind fun ds h1 => (fb env h1).bind fun e h2 => match e with
  | .int k => if k < 100000 ∧ -100000 < k ∧ ds.length * k.toNat ≤ 100000 then .ok (List.replicate k.toNat ds).flatten h2 else .stuck
  | _ => .stuck
end
section
variable {X : Cx} {W : WX} {a b : Expr} {ta tb : TE} {pos : Pos}
theorem fcatVN {fa : XE} {fb : XA} (ha : FE X W a ta fa) (hb : FLs X W b tb fb) : FLs X W (.BinOp a .Add b pos) (tOp rCat ta tb) (xCatVN fa fb) := ⟨pe_op op_cat ha.pe hb.pe, so_catVN ha.so hb.so⟩
theorem fcatNN {fa : XA} {fb : XA} (ha : FLs X W a ta fa) (hb : FLs X W b tb fb) : FLs X W (.BinOp a .Add b pos) (tOp rCat ta tb) (xCatNN fa fb) := ⟨pe_op op_cat ha.pe hb.pe, so_catNN ha.so hb.so⟩
theorem fcatVV {fa : XE} {fb : XE} (ha : FE X W a ta fa) (hb : FE X W b tb fb) : FLs X W (.BinOp a .Add b pos) (tOp rCat ta tb) (xCatVV fa fb) := ⟨pe_op op_cat ha.pe hb.pe, so_catVV ha.so hb.so⟩
theorem fadd {fa : XE} {fb : XE} (ha : FE X W a ta fa) (hb : FE X W b tb fb) : FE X W (.BinOp a .Add b pos) (tOp (rAddA X.K) ta tb) (xOp dAdd fa fb) := fop op_addA so_add ha hb
theorem fsub {fa : XE} {fb : XE} (ha : FE X W a ta fa) (hb : FE X W b tb fb) : FE X W (.BinOp a .Sub b pos) (tOp (rI0 fun i j => .int (i - j)) ta tb) (xOp dSub fa fb) := fop op_sub so_sub ha hb
theorem fmul {fa : XE} {fb : XE} (ha : FE X W a ta fa) (hb : FE X W b tb fb) : FE X W (.BinOp a .Mult b pos) (tOp (rI CMulX fun i j => .int (i * j)) ta tb) (xOp dMulI fa fb) := fop op_mulX so_mulI ha hb
theorem fmod {fa : XE} {fb : XE} (ha : FE X W a ta fa) (hb : FE X W b tb fb) : FE X W (.BinOp a .Mod b pos) (tOp (rI (fun _ j => 0 < j) fun i j => .int (i % j)) ta tb) (xOp dMod fa fb) := fop op_mod so_mod ha hb
theorem fdiv {fa : XE} {fb : XE} (ha : FE X W a ta fa) (hb : FE X W b tb fb) : FE X W (.BinOp a .FloorDiv b pos) (tOp (rI CDivW fun i j => .int (i / j)) ta tb) (xOp dDiv fa fb) := fop op_fdivW so_div ha hb
theorem fpow {fa : XE} {fb : XE} (ha : FE X W a ta fa) (hb : FE X W b tb fb) : FE X W (.BinOp a .Pow b pos) (tOp (rI CPow fun i j => .int (i ^ j.toNat)) ta tb) (xOp dPow fa fb) := fop op_pow so_pow ha hb
theorem fneg {fa : XE} (ha : FE X W a ta fa) : FE X W (.UnaryOp .USub a pos) (tUn (rU fun i => .int (-i)) ta) (xUn dNeg fa) := fun1 un_neg so_neg ha
end

/-! ### data as trees; == -/
def treesBy (f : D → Option PyData) : List D → Option (List PyData)
  | [] => some []
  | d :: r => match f d, treesBy f r with
    | some p, some ps => some (p :: ps)
    | _, _ => none
def D.tree (h : Hs) : Nat → D → Option PyData
  | 0, _ => none
  | n + 1, d => match d with
    | .non => some .none
    | .bl b => some (.bool b)
    | .int i => some (.int i)
    | .str cs => some (.str ⟨cs.toArray⟩)
    | .tup ds => (treesBy (D.tree h n) ds).map .tuple
    | .rol ds => (treesBy (D.tree h n) ds).map .list
    | .ref i => match h[i]? with
      | some (.lst ds) => (treesBy (D.tree h n) ds).map .list
      | _ => none
    | _ => none
theorem trees_ok {C : Cc} {ρ : List Addr} {H : Hp} {f : D → Option PyData} (hf : ∀ d p v, f d = some p → Emb C ρ H d v → Dp C.K H v p) : ∀ {ds : List D} {ps : List PyData} {vs : List V}, treesBy f ds = some ps → Embs C ρ H ds vs → DpAll C.K H vs ps
  | [], ps, vs, e, h => by
    cases e
    cases h
    exact .nil
  | d :: r, ps, vs, e, h => by
    unfold treesBy at e
    split at e
    · rename_i p ps' e1 e2
      cases e
      cases h with
      | cons a b => exact .cons (hf d p _ e1 a) (trees_ok hf e2 b)
    · cases e
theorem tree_ok {C : Cc} {ρ : List Addr} {H : Hp} {h : Hs} (ok : HeapOk C ρ h H) : ∀ (n : Nat) (d : D) (p : PyData) (v : V), d.tree h n = some p → Emb C ρ H d v → Dp C.K H v p
  | 0, d, p, v, e, _ => by cases e
  | n + 1, d, p, v, e, hv => by
    have ih := tree_ok ok n
    unfold D.tree at e
    split at e
    · cases e; cases hv; exact .non
    · cases e; cases hv; exact .bl _
    · cases e; cases hv; exact .int _
    · cases e; cases hv; exact .str _
    · rename_i ds
      cases q : treesBy (D.tree h n) ds with
      | none => rw [q] at e; cases e
      | some ps =>
        rw [q] at e
        cases e
        cases hv with
        | tup hs hx => exact .tup hs (trees_ok ih q hx)
    · rename_i ds
      cases q : treesBy (D.tree h n) ds with
      | none => rw [q] at e; cases e
      | some ps =>
        rw [q] at e
        cases e
        cases hv with
        | rol hs hx => exact .lst hs.seq (trees_ok ih q hx)
    · rename_i i
      split at e
      · rename_i ds qi
        cases q : treesBy (D.tree h n) ds with
        | none => rw [q] at e; cases e
        | some ps =>
          rw [q] at e
          cases e
          cases hv with
          | ref ha =>
            obtain ⟨vs, q1, q2⟩ := ok.ob _ _ _ ha qi
            exact .lst (SqL.of q1) (trees_ok ih q q2)
      · cases e
    · cases e
def natsEq : List Nat → List Nat → Bool
  | [], [] => true
  | a :: r, b :: s => Nat.beq a b && natsEq r s
  | _, _ => false
theorem natsEq_iff : ∀ a b : List Nat, natsEq a b = decide (a = b)
  | [], [] => by simp [natsEq]
  | [], _ :: _ => by simp [natsEq]
  | _ :: _, [] => by simp [natsEq]
  | a :: r, b :: s => by
    unfold natsEq
    rw [natsEq_iff r s]
    rw [Bool.eq_iff_iff]
    simp [Nat.beq_eq]
/-- ==; none: not told -/
def dEqv (h : Hs) (a b : D) : Option Bool := match a, b with
  | .int i, .int j => some (decide (i = j))
  | .str x, .str y => some (natsEq x y)
  | .bl x, .bl y => some (x == y)
  | a, b => match a.tree h 64, b.tree h 64 with
    | some p, some q => if SeqAt.shaped p && SeqAt.shaped q then some (PyData.eqv p q) else none
    | _, _ => none
def dEq : D → D → Hs → Res D := fun a b h => match dEqv h a b with
  | some r => .ok (.bl r) h
  | none => .stuck
def dNe : D → D → Hs → Res D := fun a b h => match dEqv h a b with
  | some r => .ok (.bl (!r)) h
  | none => .stuck
def rEqA (K : PySem.W.Frag) : R2 := fun x y H Q => rEq x y H Q ∨ rEqD K x y H Q
def rNeA (K : PySem.W.Frag) : R2 := fun x y H Q => rNe x y H Q ∨ rNeD K x y H Q
theorem op_eqA {X : Cx} {k : Nat} (hr : Room k X.A) : OpR X (compareOp .Eq) (rEqA X.K) := op_eq.or (op_eqD hr.units)
theorem op_neA {X : Cx} {k : Nat} (hr : Room k X.A) : OpR X (compareOp .NotEq) (rNeA X.K) := op_ne.or (op_neD hr.units)
theorem toArray_inj {a b : List Nat} : ((⟨a.toArray⟩ : Str) = ⟨b.toArray⟩) ↔ a = b := by
  constructor
  · intro e
    have := congrArg (fun z : Str => z.cps.toList) e
    simpa using this
  · intro e
    rw [e]
theorem eqv_ok {C : Cc} {ρ : List Addr} {H : Hp} {h : Hs} {a b : D} {x y : V} {r : Bool} (ok : HeapOk C ρ h H) (hx : Emb C ρ H a x) (hy : Emb C ρ H b y) (e : dEqv h a b = some r) :
    (scal x y = true ∧ decide (x = y) = r) ∨ ∃ p q, Dp C.K H x p ∧ Dp C.K H y q ∧ SeqAt.shaped p = true ∧ SeqAt.shaped q = true ∧ PyData.eqv p q = r := by
  unfold dEqv at e
  split at e
  · cases hx; cases hy; cases e
    exact .inl ⟨rfl, by rw [Bool.eq_iff_iff]; simp⟩
  · cases hx; cases hy; cases e
    refine .inl ⟨rfl, ?_⟩
    rw [natsEq_iff, Bool.eq_iff_iff]
    simp
  · cases hx; cases hy; cases e
    exact .inl ⟨rfl, by rw [Bool.eq_iff_iff]; simp⟩
  · split at e
    · rename_i p q e1 e2
      split at e
      · rename_i hs
        rw [Bool.and_eq_true] at hs
        cases e
        exact .inr ⟨p, q, tree_ok ok 64 _ _ _ e1 hx, tree_ok ok 64 _ _ _ e2 hy, hs.1, hs.2, rfl⟩
      · cases e
    · cases e
section
variable {C : Cc} {W : WX}
theorem so_eq : SoO C W (rEqA C.K) dEq := ⟨fun {h ρ σ H Q d1 d2 x y} ok hx hy hp => by
  unfold dEq at hp
  split at hp
  · rename_i r e
    have q := hp ρ H Ext.refl ok _ (.bl r)
    rcases eqv_ok ok hx hy e with ⟨a, b⟩ | ⟨p, q', a, b, c, d, e'⟩
    · exact .inl ⟨a, by rw [b]; exact q⟩
    · exact .inr ⟨p, q', a, b, c, d, by rw [e']; exact q⟩
  · exact hp.elim⟩
theorem so_ne : SoO C W (rNeA C.K) dNe := ⟨fun {h ρ σ H Q d1 d2 x y} ok hx hy hp => by
  unfold dNe at hp
  split at hp
  · rename_i r e
    have q := hp ρ H Ext.refl ok _ (.bl (!r))
    rcases eqv_ok ok hx hy e with ⟨a, b⟩ | ⟨p, q', a, b, c, d, e'⟩
    · exact .inl ⟨a, by rw [b]; exact q⟩
    · exact .inr ⟨p, q', a, b, c, d, by rw [e']; exact q⟩
  · exact hp.elim⟩
def dLt : D → D → Hs → Res D := dI0 fun i j => .bl (decide (i < j))
def dLe : D → D → Hs → Res D := dI0 fun i j => .bl (decide (i ≤ j))
def dGt : D → D → Hs → Res D := dI0 fun i j => .bl (decide (j < i))
def dGe : D → D → Hs → Res D := dI0 fun i j => .bl (decide (j ≤ i))
theorem so_lt : SoO C W (rI0 fun i j => .bl (decide (i < j))) dLt := so_I0 fun _ _ _ _ => .bl _
theorem so_le : SoO C W (rI0 fun i j => .bl (decide (i ≤ j))) dLe := so_I0 fun _ _ _ _ => .bl _
theorem so_gt : SoO C W (rI0 fun i j => .bl (decide (j < i))) dGt := so_I0 fun _ _ _ _ => .bl _
theorem so_ge : SoO C W (rI0 fun i j => .bl (decide (j ≤ i))) dGe := so_I0 fun _ _ _ _ => .bl _
/-- is None, is a bool -/
def dIs : D → D → Hs → Res D := fun a b h => match a, b with
  | .non, .non => .ok (.bl true) h
  | .bl x, .bl y => .ok (.bl (decide (x = y))) h
  | _, .non => .ok (.bl false) h
  | _, _ => .stuck
def rIsA : R2 := fun x y H Q => (y = .non ∧ Q (.bl (decide (x = .non))) H) ∨ rIsB x y H Q
theorem op_isA {X : Cx} : OpR X (compareOp .Is) rIsA := op_isN.or op_isBl
theorem so_is : SoO C W rIsA dIs := ⟨fun {h ρ σ H Q d1 d2 x y} ok hx hy hp => by
  unfold dIs at hp
  split at hp
  · cases hx; cases hy
    exact .inl ⟨rfl, hp ρ H Ext.refl ok _ (.bl _)⟩
  · cases hx; cases hy
    exact .inr ⟨_, _, rfl, rfl, hp ρ H Ext.refl ok _ (.bl _)⟩
  · rename_i nn _
    cases hy
    refine .inl ⟨rfl, ?_⟩
    have q := hp ρ H Ext.refl ok _ (.bl _)
    have z : decide (x = .non) = false := by
      cases hx <;> first | rfl | exact absurd rfl nn | simp_all
    rw [z]
    exact q
  · exact hp.elim⟩
def dIsNot : D → D → Hs → Res D := fun a b h => match a, b with
  | .non, .non => .ok (.bl false) h
  | .bl x, .bl y => .ok (.bl (!decide (x = y))) h
  | _, .non => .ok (.bl true) h
  | _, _ => .stuck
def rIsNotA : R2 := fun x y H Q => (y = .non ∧ Q (.bl (!decide (x = .non))) H) ∨ rNotB x y H Q
theorem op_isNotA {X : Cx} : OpR X (compareOp .IsNot) rIsNotA := op_notN.or op_notBl
theorem so_isNot : SoO C W rIsNotA dIsNot := ⟨fun {h ρ σ H Q d1 d2 x y} ok hx hy hp => by
  unfold dIsNot at hp
  split at hp
  · cases hx; cases hy
    exact .inl ⟨rfl, hp ρ H Ext.refl ok _ (.bl _)⟩
  · cases hx; cases hy
    exact .inr ⟨_, _, rfl, rfl, hp ρ H Ext.refl ok _ (.bl _)⟩
  · rename_i nn _
    cases hy
    refine .inl ⟨rfl, ?_⟩
    have q := hp ρ H Ext.refl ok _ (.bl _)
    have z : decide (x = .non) = false := by
      cases hx <;> first | rfl | exact absurd rfl nn | simp_all
    rw [z]
    exact q
  · exact hp.elim⟩
end
/-- flat data among flat data -/
def flatD : D → Bool
  | .non => true
  | .bl _ => true
  | .int _ => true
  | .str _ => true
  | _ => false
def eqF : D → D → Bool
  | .non, .non => true
  | .bl a, .bl b => a == b
  | .bl a, .int j => decide ((if a then 1 else 0) = j)
  | .int i, .bl b => decide (i = (if b then 1 else 0))
  | .int i, .int j => decide (i = j)
  | .str a, .str b => natsEq a b
  | _, _ => false
end FL

/-! FI: in, chains, methods, stores, sources, dicts, raise, repr. -/
namespace FL
open PySem PySem.Spec PyProof.Rows L2

section
variable {C : Cc} {W : WX}
theorem Embs.flat {ρ : List Addr} {H : Hp} {ds : List D} {vs : List V} (h : Embs C ρ H ds vs) (f : ds.all flatD = true) : vs.all flatV = true := by
  match h with
  | .nil => rfl
  | .cons a b =>
    rw [List.all_cons, Bool.and_eq_true] at f ⊢
    refine ⟨?_, Embs.flat b f.2⟩
    cases a <;> first | rfl | exact absurd f.1 Bool.false_ne_true
theorem eqF_ok {ρ : List Addr} {H : Hp} {a b : D} {x y : V} (ha : Emb C ρ H a x) (hb : Emb C ρ H b y) (fa : flatD a = true) (fb : flatD b = true) : eqV x y = eqF a b := by
  cases ha <;> cases hb <;> first
    | rfl
    | exact absurd fa Bool.false_ne_true
    | exact absurd fb Bool.false_ne_true
    | (show (_ == _) = _; unfold eqF; rw [beq_eq_decide]) 
    | (show (_ == _) = natsEq _ _; rw [natsEq_iff, Bool.eq_iff_iff]; simp)
    | skip

/-- x in a list or tuple of flat things, one sign in a text -/
def dInB (h : Hs) (a b : D) : Option Bool := match a, b with
  | .str [c], .str cs => some (cs.any fun z => Nat.beq c z)
  | _, .str _ => none
  | a, b => match b.seq h with
    | some ds => if flatD a && ds.all flatD then some (ds.any fun y => eqF y a) else none
    | none => none
def dIn : D → D → Hs → Res D := fun a b h => match dInB h a b with
  | some r => .ok (.bl r) h
  | none => .stuck
def dNotIn : D → D → Hs → Res D := fun a b h => match dInB h a b with
  | some r => .ok (.bl (!r)) h
  | none => .stuck
def rSign (n : Bool) : R2 := fun x y H Q => ∃ (c : Nat) (z : Str), x = .str ⟨#[c]⟩ ∧ y = .str z ∧ Q (.bl (if n then !decide (c ∈ z.cps.toList) else decide (c ∈ z.cps.toList))) H
def rInA (K : PySem.W.Frag) : R2 := fun x y H Q => (∃ (c : Nat) (z : Str), x = .str ⟨#[c]⟩ ∧ y = .str z ∧ Q (.bl (decide (c ∈ z.cps.toList))) H) ∨ rIn K false x y H Q
def rNotInA (K : PySem.W.Frag) : R2 := fun x y H Q => (∃ (c : Nat) (z : Str), x = .str ⟨#[c]⟩ ∧ y = .str z ∧ Q (.bl (!decide (c ∈ z.cps.toList))) H) ∨ rIn K true x y H Q
theorem op_inA {X : Cx} : OpR X (compareOp .In) (rInA X.K) := op_in_sign.or op_in_seq
theorem op_notInA {X : Cx} : OpR X (compareOp .NotIn) (rNotInA X.K) := op_notIn_sign.or op_notIn_seq
theorem any_eq {ρ : List Addr} {H : Hp} {a : D} {x : V} (ha : Emb C ρ H a x) (fa : flatD a = true) : ∀ {ds : List D} {vs : List V}, Embs C ρ H ds vs → ds.all flatD = true → inV x vs = ds.any fun y => eqF y a
  | [], vs, h, f => by
    cases h
    rfl
  | d :: r, vs, h, f => by
    rw [List.all_cons, Bool.and_eq_true] at f
    cases h with
    | cons b c =>
      show (eqV _ x || inV x _) = (eqF d a || r.any fun y => eqF y a)
      rw [any_eq ha fa c f.2, eqF_ok b ha f.1 fa]
theorem sign_mem (c : Nat) (cs : List Nat) : decide (c ∈ cs) = cs.any fun z => Nat.beq c z := by
  rw [Bool.eq_iff_iff]
  simp [Nat.beq_eq]
theorem in_ok {ρ : List Addr} {H : Hp} {h : Hs} {a b : D} {x y : V} {r : Bool} (ok : HeapOk C ρ h H) (hx : Emb C ρ H a x) (hy : Emb C ρ H b y) (e : dInB h a b = some r) :
    (∃ (c : Nat) (z : Str), x = .str ⟨#[c]⟩ ∧ y = .str z ∧ decide (c ∈ z.cps.toList) = r) ∨ ∃ p xs, y = .ref p ∧ (SqL C.K H p xs ∨ SqT C.K H p xs) ∧ flatV x = true ∧ xs.all flatV = true ∧ inV x xs = r := by
  unfold dInB at e
  split at e
  · cases e
    cases hx
    cases hy
    refine .inl ⟨_, _, rfl, rfl, ?_⟩
    rw [← sign_mem]
  · cases e
  · split at e
    · rename_i ds q
      split at e
      · rename_i f
        rw [Bool.and_eq_true] at f
        cases e
        obtain ⟨p, vs, rfl, q1, q2⟩ := seq_of ok hy q
        have fx := Embs.flat (Embs.one hx) (by simpa using f.1)
        refine .inr ⟨p, vs, rfl, q2, by simpa using fx, q1.flat f.2, any_eq hx f.1 q1 f.2⟩
      · cases e
    · cases e
theorem so_in : SoO C W (rInA C.K) dIn := ⟨fun {h ρ σ H Q d1 d2 x y} ok hx hy hp => by
  unfold dIn at hp
  split at hp
  · rename_i r e
    have q := hp ρ H Ext.refl ok _ (.bl r)
    rcases in_ok ok hx hy e with ⟨c, z, a1, a2, a3⟩ | ⟨p, xs, a1, a2, a3, a4, a5⟩
    · exact .inl ⟨c, z, a1, a2, by rw [a3]; exact q⟩
    · exact .inr ⟨p, xs, a1, a2, a3, a4, by rw [if_neg Bool.false_ne_true, a5]; exact q⟩
  · exact hp.elim⟩
theorem so_notIn : SoO C W (rNotInA C.K) dNotIn := ⟨fun {h ρ σ H Q d1 d2 x y} ok hx hy hp => by
  unfold dNotIn at hp
  split at hp
  · rename_i r e
    have q := hp ρ H Ext.refl ok _ (.bl (!r))
    rcases in_ok ok hx hy e with ⟨c, z, a1, a2, a3⟩ | ⟨p, xs, a1, a2, a3, a4, a5⟩
    · exact .inl ⟨c, z, a1, a2, by rw [a3]; exact q⟩
    · exact .inr ⟨p, xs, a1, a2, a3, a4, by rw [if_pos rfl, a5]; exact q⟩
  · exact hp.elim⟩
end

/-! ### chains of two comparisons -/
def xChain (o o' : D → D → Hs → Res D) (fa fb fc : XE) : XE := fun env h => (fa env h).bind fun a h1 => (fb env h1).bind fun b h2 => (o a b h2).bind fun k h3 => match k with
  | .bl true => (fc env h3).bind fun c h4 => o' b c h4
  | .bl false => .ok (.bl false) h3
  | _ => .stuck
theorem so_chain {C : Cc} {W : WX} {r r' : R2} {o o' : D → D → Hs → Res D} {ta tb tc : TE} {fa fb fc : XE} (ho : SoO C W r o) (ho' : SoO C W r' o') (ha : SoE C W ta fa) (hb : SoE C W tb fb) (hc : SoE C W tc fc) : SoE C W (tChain r r' ta tb tc) (xChain o o' fa fb fc) := ⟨fun {env h ρ σ H Q} he hh hp =>
  ha.go he hh ((Pst.bind hp).imp fun d1 h1 ρ1 H1 e1 ok1 p1 x hx =>
    hb.go (he.mono e1) ok1 ((Pst.bind p1).imp fun d2 h2 ρ2 H2 e2 ok2 p2 y hy =>
      ho.go ok2 (hx.mono e2) hy ((Pst.bind p2).imp fun k h3 ρ3 H3 e3 ok3 p3 z hz => by
        split at p3
        · cases hz
          refine ⟨true, rfl, ?_⟩
          rw [if_pos rfl]
          exact hc.go (((he.mono e1).mono e2).mono e3) ok3 ((Pst.bind p3).imp fun d4 h4 ρ4 H4 e4 ok4 p4 w hw => ho'.go ok4 ((hy.mono e3).mono e4) hw p4)
        · cases hz
          refine ⟨false, rfl, ?_⟩
          rw [if_neg Bool.false_ne_true]
          exact p3 ρ3 H3 Ext.refl ok3 _ (.bl false)
        · exact p3.elim)))⟩
section
variable {X : Cx} {W : WX} {a b c : Expr} {ta tb tc : TE} {fa fb fc : XE} {pos : Pos} {op op' : CmpOp} {r r' : R2} {o o' : D → D → Hs → Res D}
theorem fchain (ho : OpR X (compareOp op) r) (ho' : OpR X (compareOp op') r') (so : SoO (cc X) W r o) (so' : SoO (cc X) W r' o') (ha : FE X W a ta fa) (hb : FE X W b tb fb) (hc : FE X W c tc fc) (hm : lastMarks [op, op'] [b, c] = false := by with_unfolding_all rfl) :
    FE X W (.Compare a [op, op'] [b, c] pos) (tChain r r' ta tb tc) (xChain o o' fa fb fc) := ⟨pe_chain ho ho' ha.pe hb.pe hc.pe hm, so_chain so so' ha.so hb.so hc.so⟩
theorem fchainT (ho : OpR X (compareOp op) r) (ho' : OpR X (compareOp op') r') (so : SoO (cc X) W r o) (so' : SoO (cc X) W r' o') (ha : FE X W a ta fa) (hb : FE X W b tb fb) (hc : FE X W c tc fc) (hm : lastMarks [op, op'] [b, c] = false := by with_unfolding_all rfl) :
    FT X W (.Compare a [op, op'] [b, c] pos) (tTest (tChain r r' ta tb tc)) (xTest (xChain o o' fa fb fc)) := ⟨pt_chain ho ho' ha.pe hb.pe hc.pe hm, so_testT (so_chain so so' ha.so hb.so hc.so)⟩
end

/-! ### methods -/
structure SoM (C : Cc) (W : WX) (T : String) (r : V → List V → Hp → VK → Prop) (op : D → List D → Hs → Res D) (ty : D → Hs → Bool) : Prop where
  go : ∀ {h ρ σ H Q d x ds xs}, HeapOk C ρ h H → Emb C ρ H d x → Embs C ρ H ds xs → Pst C W ρ σ H (op d ds h) (GV C Q) → r x xs H Q
  tyo : ∀ {h ρ H d x}, HeapOk C ρ h H → Emb C ρ H d x → ty d h = true → tyV C.K T x H
def xMeth (ty : D → Hs → Bool) (op : D → List D → Hs → Res D) (fo : XE) (fA : XA) : XE := fun env h => (fo env h).bind fun d h1 => if ty d h1 then (fA env h1).bind fun ds h2 => op d ds h2 else .stuck
theorem so_meth {C : Cc} {W : WX} {T : String} {r : V → List V → Hp → VK → Prop} {op : D → List D → Hs → Res D} {ty : D → Hs → Bool} {to : TE} {t : TA} {fo : XE} {fA : XA} (s : SoM C W T r op ty) (ho : SoE C W to fo) (ha : SoA C W t fA) : SoE C W (tBM C.K T r to t) (xMeth ty op fo fA) := ⟨fun {env h ρ σ H Q} he hh hp =>
  ho.go he hh ((Pst.bind hp).imp fun d h1 ρ1 H1 e1 ok1 p1 x hx => by
    split at p1
    · rename_i hty
      exact ⟨s.tyo ok1 hx hty, ha.go (he.mono e1) ok1 ((Pst.bind p1).imp fun ds h2 ρ2 H2 e2 ok2 p2 xs hxs => s.go ok2 (hx.mono e2) hxs p2)⟩
    · exact p1.elim)⟩
def xMeth0 (ty : D → Hs → Bool) (op : D → List D → Hs → Res D) (fo : XE) : XE := fun env h => (fo env h).bind fun d h1 => if ty d h1 then op d [] h1 else .stuck
theorem so_meth0 {C : Cc} {W : WX} {T : String} {r : V → List V → Hp → VK → Prop} {op : D → List D → Hs → Res D} {ty : D → Hs → Bool} {to : TE} {fo : XE} (s : SoM C W T r op ty) (ho : SoE C W to fo) : SoE C W (tBM0 C.K T r to) (xMeth0 ty op fo) := ⟨fun {env h ρ σ H Q} he hh hp =>
  ho.go he hh ((Pst.bind hp).imp fun d h1 ρ1 H1 e1 ok1 p1 x hx => by
    split at p1
    · rename_i hty
      exact ⟨s.tyo ok1 hx hty, s.go ok1 hx .nil p1⟩
    · exact p1.elim)⟩
/-- o.m(a list made for it) -/
structure SoMN (C : Cc) (W : WX) (r : V → List V → Hp → VK → Prop) (op : D → List D → Hs → Res D) : Prop where
  go : ∀ {h ρ σ H Q d x ds p vs}, HeapOk C ρ h H → Emb C ρ H d x → H p = none → Embs C ρ H ds vs → Pst C W ρ σ H (op d ds h) (GV C Q) → r x [.ref p] (upd H p (.lst vs)) Q
def xMethN (ty : D → Hs → Bool) (op : D → List D → Hs → Res D) (fo : XE) (fA : XA) : XE := fun env h => (fo env h).bind fun d h1 => if ty d h1 then (fA env h1).bind fun ds h2 => op d ds h2 else .stuck
theorem so_methN {C : Cc} {W : WX} {T : String} {r : V → List V → Hp → VK → Prop} {op op' : D → List D → Hs → Res D} {ty : D → Hs → Bool} {to te : TE} {fo : XE} {fA : XA} (s : SoM C W T r op' ty) (sn : SoMN C W r op) (ho : SoE C W to fo) (ha : SoL C W te fA) : SoE C W (tBM C.K T r to (tCons te tNil)) (xMethN ty op fo fA) := ⟨fun {env h ρ σ H Q} he hh hp =>
  ho.go he hh ((Pst.bind hp).imp fun d h1 ρ1 H1 e1 ok1 p1 x hx => by
    split at p1
    · rename_i hty
      exact ⟨s.tyo ok1 hx hty, ha.go (he.mono e1) ok1 ((Pst.bind p1).imp fun ds h2 ρ2 H2 e2 ok2 p2 p vs n hs => sn.go ok2 (hx.mono e2) n hs p2)⟩
    · exact p1.elim)⟩
def isLst (d : D) (h : Hs) : Bool := (d.lstI h).isSome
def isStr (d : D) (_ : Hs) : Bool := match d with
  | .str _ => true
  | _ => false
section
variable {C : Cc} {W : WX}
theorem isLst_ty {h : Hs} {ρ : List Addr} {H : Hp} {d : D} {x : V} (ok : HeapOk C ρ h H) (hx : Emb C ρ H d x) (e : isLst d h = true) : tyV C.K "list" x H := by
  unfold isLst at e
  cases q : d.lstI h with
  | none => rw [q] at e; cases e
  | some ds =>
    obtain ⟨a, vs, rfl, _, q2⟩ := lst_of ok hx q
    exact .inl ⟨rfl, vs, q2⟩
def mAppend : D → List D → Hs → Res D := fun d args h => match d, args with
  | .ref i, [x] => (match h[i]? with
    | some (.lst ds) => if ds.length < 100000 then .ok .non (h.set i (.lst (ds ++ [x]))) else .stuck
    | _ => .stuck)
  | _, _ => .stuck
theorem so_append : SoM C W "list" rAppend mAppend isLst := ⟨fun {h ρ σ H Q d x ds xs} ok hx hd hp => by
  unfold mAppend at hp
  split at hp
  · rename_i i y
    split at hp
    · rename_i zs e
      split at hp
      · rename_i hl
        obtain ⟨v, rfl, hv⟩ := one_arg hd
        cases hx with
        | ref ha =>
          obtain ⟨vs, q1, q2⟩ := ok.ob _ _ _ ha e
          have ew := Ext.write (o := .lst (vs ++ [v])) ok ha
          exact ⟨_, vs, v, rfl, rfl, q1, sz_lt' (by rw [← q2.length]; exact hl), hp ρ _ ew (ok.write ha ⟨_, upd_same, (q2.append (.one hv)).mono ew⟩) _ .non⟩
      · exact hp.elim
    · exact hp.elim
  · exact hp.elim, fun ok hx e => isLst_ty ok hx e⟩
def mExtN : D → List D → Hs → Res D := fun d es h => match d with
  | .ref i => (match h[i]? with
    | some (.lst ds) => if ds.length + es.length ≤ 100000 then .ok .non (h.set i (.lst (ds ++ es))) else .stuck
    | _ => .stuck)
  | _ => .stuck
theorem so_extN : SoMN C W rExtend mExtN := ⟨fun {h ρ σ H Q d x ds p vs} ok hx n hs hp => by
  unfold mExtN at hp
  split at hp
  · rename_i i
    split at hp
    · rename_i zs e
      split at hp
      · rename_i hl
        cases hx with
        | ref ha =>
          obtain ⟨ws, q1, q2⟩ := ok.ob _ _ _ ha e
          have ne := ne_of_none q1 n
          have ok1 := ok.fresh (o := .lst vs) n
          have ef : Ext ρ ρ H (upd H p (.lst vs)) := Ext.fresh n
          have ew := Ext.write (o := .lst (ws ++ vs)) ok1 ha
          refine ⟨_, p, ws, vs, rfl, rfl, by rw [upd_ne ne]; exact q1, upd_same, by rw [← q2.length, ← hs.length]; exact sz_ok hl, ?_⟩
          exact hp ρ _ (ef.trans ew) (ok1.write ha ⟨_, upd_same, (q2.append hs).mono (ef.trans ew)⟩) _ .non
      · exact hp.elim
    · exact hp.elim
  · exact hp.elim⟩
def mExtend : D → List D → Hs → Res D := fun d args h => match d, args with
  | .ref i, [.ref j] => (match h[i]?, h[j]? with
    | some (.lst ds), some (.lst es) => if ds.length + es.length ≤ 100000 then .ok .non (h.set i (.lst (ds ++ es))) else .stuck
    | _, _ => .stuck)
  | _, _ => .stuck
theorem so_extend : SoM C W "list" rExtend mExtend isLst := ⟨fun {h ρ σ H Q d x ds xs} ok hx hd hp => by
  unfold mExtend at hp
  split at hp
  · rename_i i j
    split at hp
    · rename_i zs es e e2
      split at hp
      · rename_i hl
        obtain ⟨v, rfl, hv⟩ := one_arg hd
        cases hx with
        | ref ha =>
          cases hv with
          | ref hb =>
            obtain ⟨vs, q1, q2⟩ := ok.ob _ _ _ ha e
            obtain ⟨us, r1, r2⟩ := ok.ob _ _ _ hb e2
            have ew := Ext.write (o := .lst (vs ++ us)) ok ha
            exact ⟨_, _, vs, us, rfl, rfl, q1, r1, by rw [← q2.length, ← r2.length]; exact sz_ok hl, hp ρ _ ew (ok.write ha ⟨_, upd_same, (q2.append r2).mono ew⟩) _ .non⟩
      · exact hp.elim
    · exact hp.elim
  · exact hp.elim, fun ok hx e => isLst_ty ok hx e⟩
def mPop : D → List D → Hs → Res D := fun d args h => match d, args with
  | .ref i, [] => (match h[i]? with
    | some (.lst ds) => (match ds[ds.length - 1]? with
      | some x => .ok x (h.set i (.lst ds.dropLast))
      | none => .stuck)
    | _ => .stuck)
  | _, _ => .stuck
theorem so_pop : SoM C W "list" rPop mPop isLst := ⟨fun {h ρ σ H Q d x ds xs} ok hx hd hp => by
  unfold mPop at hp
  split at hp
  · rename_i i
    split at hp
    · rename_i zs e
      split at hp
      · rename_i y ey
        cases hd
        cases hx with
        | ref ha =>
          obtain ⟨vs, q1, q2⟩ := ok.ob _ _ _ ha e
          obtain ⟨v, ev, hv⟩ := q2.get ey
          have ew := Ext.write (o := .lst vs.dropLast) ok ha
          exact ⟨_, vs, v, rfl, rfl, q1, by rw [← q2.length]; exact ev, hp ρ _ ew (ok.write ha ⟨_, upd_same, q2.dropLast.mono ew⟩) _ (hv.mono ew)⟩
      · exact hp.elim
    · exact hp.elim
  · exact hp.elim, fun ok hx e => isLst_ty ok hx e⟩
end
section
variable {X : Cx} {W : WX} {o e : Expr} {to te : TE} {fo : XE} {fA : XA} {f : XE} {apos cpos : Pos}
theorem fappend (ho : FE X W o to fo) (ha : FE X W e te f) (hs : starEach [e] X.env = (false, eval e X.env) :: starEach [] X.env := by rfl) (hbase : attributeBase o "append" X.env (eval o X.env) = eval o X.env := by rfl)
    (hfew : ((backTo cpos (starEach [e] X.env)).all (fun x => !x.1) && (backToKw cpos (keywordEach [] X.env)).all (fun x => x.1.isSome) && decide (([e] : List Expr).length + ([] : List Keyword).length + (if ([] : List Keyword).isEmpty then 0 else 1) < 30)) = true := by rfl)
    (hline : (apos.endLine == cpos.line) = true := by rfl) (hplain : (backTo cpos (starEach [] X.env)).any (·.1) = false := by rfl) : FE X W (.Call (.Attribute o "append" apos) [e] [] cpos) (tBM X.K "list" rAppend to (tCons te tNil)) (xMeth isLst mAppend fo (xCons f xNil)) :=
  ⟨pe_bm PySem.F.plainAttrs_list PySem.F.slot_list_append PySem.F.type_list_append mt_append ho.pe (pa_cons ha.pe pa_nil hs) hbase hfew hline hs hplain, so_meth so_append ho.so (so_cons ha.so so_nil)⟩
theorem fextend (ho : FE X W o to fo) (ha : FE X W e te f) (hs : starEach [e] X.env = (false, eval e X.env) :: starEach [] X.env := by rfl) (hbase : attributeBase o "extend" X.env (eval o X.env) = eval o X.env := by rfl)
    (hfew : ((backTo cpos (starEach [e] X.env)).all (fun x => !x.1) && (backToKw cpos (keywordEach [] X.env)).all (fun x => x.1.isSome) && decide (([e] : List Expr).length + ([] : List Keyword).length + (if ([] : List Keyword).isEmpty then 0 else 1) < 30)) = true := by rfl)
    (hline : (apos.endLine == cpos.line) = true := by rfl) (hplain : (backTo cpos (starEach [] X.env)).any (·.1) = false := by rfl) : FE X W (.Call (.Attribute o "extend" apos) [e] [] cpos) (tBM X.K "list" rExtend to (tCons te tNil)) (xMeth isLst mExtend fo (xCons f xNil)) :=
  ⟨pe_bm PySem.F.plainAttrs_list PySem.F.slot_list_extend PySem.F.type_list_extend mt_extend ho.pe (pa_cons ha.pe pa_nil hs) hbase hfew hline hs hplain, so_meth so_extend ho.so (so_cons ha.so so_nil)⟩
theorem fextendN (ho : FE X W o to fo) (ha : FLs X W e te fA) (hs : starEach [e] X.env = (false, eval e X.env) :: starEach [] X.env := by rfl) (hbase : attributeBase o "extend" X.env (eval o X.env) = eval o X.env := by rfl)
    (hfew : ((backTo cpos (starEach [e] X.env)).all (fun x => !x.1) && (backToKw cpos (keywordEach [] X.env)).all (fun x => x.1.isSome) && decide (([e] : List Expr).length + ([] : List Keyword).length + (if ([] : List Keyword).isEmpty then 0 else 1) < 30)) = true := by rfl)
    (hline : (apos.endLine == cpos.line) = true := by rfl) (hplain : (backTo cpos (starEach [] X.env)).any (·.1) = false := by rfl) : FE X W (.Call (.Attribute o "extend" apos) [e] [] cpos) (tBM X.K "list" rExtend to (tCons te tNil)) (xMethN isLst mExtN fo fA) :=
  ⟨pe_bm PySem.F.plainAttrs_list PySem.F.slot_list_extend PySem.F.type_list_extend mt_extend ho.pe (pa_cons ha.pe pa_nil hs) hbase hfew hline hs hplain, so_methN so_extend so_extN ho.so ha.so⟩
theorem fpop (ho : FE X W o to fo) (hbase : attributeBase o "pop" X.env (eval o X.env) = eval o X.env := by rfl) (hline : (apos.endLine == cpos.line) = true := by rfl) : FE X W (.Call (.Attribute o "pop" apos) [] [] cpos) (tBM0 X.K "list" rPop to) (xMeth0 isLst mPop fo) :=
  ⟨pe_bm0 PySem.F.plainAttrs_list PySem.F.slot_list_pop PySem.F.type_list_pop mt_pop ho.pe hbase hline, so_meth0 so_pop ho.so⟩
end

/-! ### stores to items -/
def sSetIx (fv fo fi : XE) : XS := fun env h => ((fv env h).bind fun v h1 => (fo env h1).bind fun d h2 => (fi env h2).bind fun i h3 => match d, i with
  | .ref k, .int j => (match h3[k]? with
    | some (.lst ds) => (match ixN ds.length j with
      | some n => Res.ok () (h3.set k (.lst (ds.set n v)))
      | none => .stuck)
    | _ => .stuck)
  | _, _ => .stuck).andS env fun _ h4 => .nx env h4
theorem so_setIx {C : Cc} {W : WX} {tv to ti : TE} {fv fo fi : XE} (hv : SoE C W tv fv) (ho : SoE C W to fo) (hi : SoE C W ti fi) : SoS C W (tAsg tv (gSub to ti rSetL)) (sSetIx fv fo fi) := ⟨fun {env h ρ σ H Dn} he hh hp =>
  hv.go he hh ((Pst.bind (PsS.andS he hp)).imp fun v h1 ρ1 H1 e1 ok1 p1 x hx =>
    ho.go (he.mono e1) ok1 ((Pst.bind p1).imp fun d h2 ρ2 H2 e2 ok2 p2 y hy =>
      hi.go ((he.mono e1).mono e2) ok2 ((Pst.bind p2).imp fun i h3 ρ3 H3 e3 ok3 p3 z hz => by
        split at p3
        · rename_i k j
          split at p3
          · rename_i ds e
            split at p3
            · rename_i n en
              cases hz
              cases hy with
              | ref ha =>
                have ha3 := e3.at ha
                obtain ⟨vs, q1, q2⟩ := ok3.ob _ _ _ ha3 e
                have ew := Ext.write (o := .lst (vs.set n x)) ok3 ha3
                refine ⟨_, vs, j, n, rfl, rfl, q1, by rw [← q2.length]; exact en, ?_⟩
                have q := p3 ρ3 _ ew (ok3.write ha3 ⟨_, upd_same, (q2.set ((hx.mono e2).mono e3) n).mono ew⟩)
                exact q ρ3 σ _ Ext.refl (ok3.write ha3 ⟨_, upd_same, (q2.set ((hx.mono e2).mono e3) n).mono ew⟩) ((((he.mono e1).mono e2).mono e3).mono ew)
            · exact p3.elim
          · exact p3.elim
        · exact p3.elim)))⟩
theorem fs_setIx {X : Cx} {W : WX} {o i e : Expr} {tv to ti : TE} {fv fo fi : XE} {pos' pos : Pos} (hv : FE X W e tv fv) (ho : FE X W o to fo) (hi : FE X W i ti fi)
    (ha : ∀ v, assign (.Subscript o i pos') X.env v = (do
      let ov ← holding [v] (eval o X.env)
      let iv ← holding [v, ov] (eval i X.env)
      standAt pos'
      holding [v, ov, iv] (setItem ov iv v)
      release [v, ov, iv] []) := by intro _; rfl) (hs : swapsWithSole [.Subscript o i pos'] e pos.line X.env = pure false := by rfl) (hw : swappedStores [.Subscript o i pos'] e X.env = pure none := by rfl)
    (h1 : (assignEach [.Subscript o i pos'] X.env).map (·.2) = [assign (.Subscript o i pos') X.env] := by rfl) : FS X W (.Assign [.Subscript o i pos'] e pos) (tAsg tv (gSub to ti rSetL)) (sSetIx fv fo fi) := ⟨ps_asg hv.pe (pg_sub ho.pe hi.pe set_list ha) hs hw h1, so_setIx hv.so ho.so hi.so⟩

/-! ### sources -/
theorem emb_get {C : Cc} {ρ : List Addr} {H : Hp} {ds : List D} {vs : List V} (h : Embs C ρ H ds vs) {i : Nat} (e : ds[i]? = none) : vs.length ≤ i := by
  rw [← h.length]
  exact List.getElem?_eq_none_iff.mp e
theorem map_some_none {α β : Type} {o : Option α} {f : α → Option β} (h : o.map f = some none) : ∃ a, o = some a ∧ f a = none := by
  cases o with
  | none => cases h
  | some a => exact ⟨a, rfl, Option.some.inj h⟩
theorem map_some_some {α β : Type} {o : Option α} {f : α → Option β} {b : β} (h : o.map f = some (some b)) : ∃ a, o = some a ∧ f a = some b := by
  cases o with
  | none => cases h
  | some a => exact ⟨a, rfl, Option.some.inj h⟩
theorem sqL_fun {K : PySem.W.Frag} {H : Hp} {a : Addr} {xs ys : List V} (h : H a = some (.lst xs)) (n : ∀ o, K.lookup a = some o → False) (h' : SqL K H a ys) : xs = ys := by
  rcases h' with (z | ⟨o, z⟩) | ⟨o, _, _, z, _⟩
  · rw [h] at z; cases z; rfl
  · rw [h] at z; cases z
  · exact (n o z).elim
/-- a list that the program made -/
theorem it_live {C : Cc} {ρ0 : List Addr} {H0 : Hp} {i : Nat} {a : Addr} (ha : ρ0[i]? = some a) : ItOk C ρ0 H0 [] (Itl C.K a) (Src.one (.live i)).nxt := by
  refine ⟨fun {ρ H h j d} low keep ok e => ?_, fun {ρ H h j} low keep ok e => ?_⟩
  · obtain ⟨ds, e1, e2⟩ := map_some_some e
    unfold View.at at e1
    dsimp only at e1
    split at e1
    · rename_i ds' q
      cases e1
      obtain ⟨vs, q1, q2⟩ := ok.ob _ _ _ (low.at ha) q
      obtain ⟨v, e3, hv⟩ := q2.get e2
      refine ⟨⟨vs, v, SqL.of q1, e3⟩, fun x H' y => ?_⟩
      obtain ⟨rfl, y⟩ := y
      have e4 := y vs (SqL.of q1)
      rw [e3] at e4
      cases e4
      exact ⟨Ext.refl, ok, hv⟩
    · cases e1
  · obtain ⟨ds, e1, e2⟩ := map_some_none e
    unfold View.at at e1
    dsimp only at e1
    split at e1
    · rename_i ds' q
      cases e1
      obtain ⟨vs, q1, q2⟩ := ok.ob _ _ _ (low.at ha) q
      exact ⟨vs, SqL.of q1, emb_get q2 e2⟩
    · cases e1
theorem it_con {C : Cc} {ρ0 : List Addr} {H0 : Hp} {fr : List Addr} {J : It} {ds : List D} {vs : List V} (hs : Embs C ρ0 H0 ds vs)
    (hgo : ∀ {ρ : List Addr} {H : Hp}, Low ρ0 ρ H0 H → (∀ p, p ∈ fr → ∀ o, H0 p = some o → H p = some o) → ∀ {i : Nat} {v : V}, vs[i]? = some v → J.go i H ∧ ∀ x H', J.yld i H x H' → H' = H ∧ x = v)
    (hst : ∀ {ρ : List Addr} {H : Hp}, Low ρ0 ρ H0 H → (∀ p, p ∈ fr → ∀ o, H0 p = some o → H p = some o) → ∀ {i : Nat}, vs.length ≤ i → J.stop i H) : ItOk C ρ0 H0 fr J (Src.one (.con ds)).nxt := by
  refine ⟨fun {ρ H h j d} low keep ok e => ?_, fun {ρ H h j} low keep ok e => ?_⟩
  · have e1 : ds[j]? = some d := Option.some.inj e
    obtain ⟨v, e3, hv⟩ := hs.get e1
    obtain ⟨g, y⟩ := hgo low keep e3
    refine ⟨g, fun x H' z => ?_⟩
    obtain ⟨rfl, rfl⟩ := y x H' z
    exact ⟨Ext.refl, ok, hv.low low⟩
  · have e1 : ds[j]? = none := Option.some.inj e
    exact hst low keep (emb_get hs e1)
/-- what is walked, by its kind -/
def srcOf (h : Hs) (d : D) : Option Src := match d with
  | .tup ds => some (.one (.con ds))
  | .rol ds => some (.one (.con ds))
  | .str cs => some (.one (.con (cs.map fun c => .str [c])))
  | .ref i => match h[i]? with
    | some (.lst _) => some (.one (.live i))
    | _ => none
  | _ => none
def iAny (K : PySem.W.Frag) (te : TE) : TI := fun σ H R => te σ H fun x H1 => (∃ a, x = .ref a ∧ (∃ xs, SqL K H1 a xs) ∧ R (Itl K a) H1) ∨ (∃ a, x = .ref a ∧ (∃ xs, SqT K H1 a xs) ∧ R (Itt K a) H1) ∨ ∃ z, x = .str z ∧ R (Its z) H1
theorem pi_any {X : Cx} {tg l : Expr} {tl : TE} (hl : PE X l tl) : PI X tg l (iAny X.K tl) := by
  constructor
  intro pins s σ H R I h
  refine thn (hl.run pins s σ H _ I h) ?_
  rintro v s1 ⟨x, H1, I1, r1, q1⟩
  have fr : ∀ b, b ∈ [s1.heap.objs.size] → FpOk X pins H1 b := fun b hb => by
    rw [List.mem_singleton.mp hb]
    exact I1.fpOk (Nat.le_refl _) (I1.hok.fresh (Nat.le_refl _))
  rcases q1 with ⟨a, e, ⟨xs, hq⟩, q⟩ | ⟨a, e, ⟨xs, hq⟩, q⟩ | ⟨z, e, q⟩
  · subst e
    cases r1
    obtain ⟨its, _, pl, _⟩ := I1.list hq
    apply wpAny_pyIter_list pl.isList
    exact ⟨s1.heap.objs.size, _, _, _, H1, rfl, I1.kept (t' := s1.toks) fun b o e => Heap.get?_push_of_some _ e, turn_list a _, ⟨_, Heap.get?_push_size _ rfl, rfl, rfl⟩, fr, q⟩
  · subst e
    cases r1
    obtain ⟨its, _, pl, _⟩ := I1.tuple hq
    apply wpAny_pyIter_tuple (show s1.heap.IsTuple a its.toArray from pl)
    exact ⟨s1.heap.objs.size, _, _, _, H1, rfl, I1.kept (t' := s1.toks) fun b o e => Heap.get?_push_of_some _ e, turn_tuple a _, ⟨_, Heap.get?_push_size _ rfl, rfl, rfl⟩, fr, q⟩
  · subst e
    obtain ⟨t, et⟩ := r1
    subst et
    by_cases ha : z.cps.all (· < 128) = true
    · exact wpAny_pyIter_ascii ha (pi_one (tk := s1.toks) I1 _ (turn_str _ z t "str_ascii_iterator" (.inl rfl)) ⟨_, Heap.get?_push_size _ rfl, rfl, rfl⟩ q)
    · exact wpAny_pyIter_wide (by simpa using ha) (pi_one (tk := s1.toks) I1 _ (turn_str _ z t "str_iterator" (.inr rfl)) ⟨_, Heap.get?_push_size _ rfl, rfl, rfl⟩ q)
theorem sqT_fun {X : Cx} : True := trivial
def xSrc (f : XE) : XI := fun env h => (f env h).bind fun d h1 => match srcOf h1 d with
  | some s => .ok s h1
  | none => .stuck
theorem embs_signs {C : Cc} {ρ : List Addr} {H : Hp} : ∀ cs : List Nat, Embs C ρ H (cs.map fun c => .str [c]) (cs.map fun c => V.str ⟨#[c]⟩)
  | [] => .nil
  | c :: r => .cons (.str [c]) (embs_signs r)
theorem so_src {C : Cc} {W : WX} {te : TE} {f : XE} (hf : SoE C W te f) : SoIt C W (iAny C.K te) (xSrc f) := ⟨fun {env h ρ σ H R} he hh hp =>
  hf.go he hh ((Pst.bind hp).imp fun d h1 ρ1 H1 e1 ok1 p1 v hv => by
    unfold srcOf at p1
    split at p1
    · rename_i s es
      revert p1
      split at es
      · rename_i ds
        cases es
        intro p1
        cases hv with
        | @tup _ vs a hs hx =>
          refine .inr (.inl ⟨a, rfl, ⟨vs, hs⟩, p1 ρ1 H1 Ext.refl ok1 [] H1 _ (fun _ m => by cases m) Ext.refl ok1 (it_con hx (fun {ρ H} low _ {i v} e => ?_) (fun {ρ H} low _ {i} e => ⟨vs, low.sqT hs, e⟩))⟩)
          exact ⟨⟨vs, v, low.sqT hs, e⟩, fun x H' y => ⟨y.1, Option.some.inj ((y.2 vs (low.sqT hs)).symm.trans e)⟩⟩
      · rename_i ds
        cases es
        intro p1
        cases hv with
        | @rol _ vs a hs hx =>
          refine .inl ⟨a, rfl, ⟨vs, hs.seq⟩, p1 ρ1 H1 Ext.refl ok1 [] H1 _ (fun _ m => by cases m) Ext.refl ok1 (it_con hx (fun {ρ H} low _ {i v} e => ?_) (fun {ρ H} low _ {i} e => ⟨vs, (low.roL hs).seq, e⟩))⟩
          exact ⟨⟨vs, v, (low.roL hs).seq, e⟩, fun x H' y => ⟨y.1, Option.some.inj ((y.2 vs (low.roL hs).seq).symm.trans e)⟩⟩
      · rename_i cs
        cases es
        intro p1
        cases hv
        refine .inr (.inr ⟨_, rfl, p1 ρ1 H1 Ext.refl ok1 [] H1 _ (fun _ m => by cases m) Ext.refl ok1 (it_con (embs_signs cs) (fun {ρ H} low _ {i v} e => ?_) (fun {ρ H} low _ {i} e => ?_))⟩)
        · rw [List.getElem?_map] at e
          cases q : cs[i]? with
          | none => rw [q] at e; cases e
          | some c =>
            rw [q] at e
            cases e
            have hi := (List.getElem?_eq_some_iff.mp q).1
            refine ⟨by show i < cs.toArray.size; simpa using hi, fun x H' y => ?_⟩
            obtain ⟨y1, c', y2, y3⟩ := y
            have y4 : cs[i]? = some c' := by simpa using y2
            rw [q] at y4
            cases y4
            exact ⟨y1, y3⟩
        · show cs.toArray.size ≤ i
          simpa using e
      · rename_i i
        split at es
        · rename_i ds q
          cases es
          intro p1
          cases hv with
          | @ref _ a ha =>
            obtain ⟨vs, q1, q2⟩ := ok1.ob _ _ _ ha q
            exact .inl ⟨a, rfl, ⟨vs, SqL.of q1⟩, p1 ρ1 H1 Ext.refl ok1 [] H1 _ (fun _ m => by cases m) Ext.refl ok1 (it_live ha)⟩
        · cases es
      · cases es
    · exact p1.elim)⟩
theorem fi_any {X : Cx} {W : WX} {tg e : Expr} {te : TE} {f : XE} (hf : FE X W e te f) : FI X W tg e (iAny X.K te) (xSrc f) := ⟨pi_any hf.pe, so_src hf.so⟩
/-- a list that was just made -/
def xSrcN (f : XA) : XI := fun env h => (f env h).bind fun ds h1 => .ok (.one (.con ds)) h1
theorem so_srcN {C : Cc} {W : WX} {te : TE} {f : XA} (hf : SoL C W te f) : SoIt C W (iList C.K te) (xSrcN f) := ⟨fun {env h ρ σ H R} he hh hp => by
  refine hf.go he hh ((Pst.bind hp).imp fun ds h1 ρ1 H1 e1 ok1 p1 p vs n hs => ?_)
  refine ⟨p, rfl, ⟨vs, SqL.of upd_same⟩, p1 ρ1 H1 Ext.refl ok1 [p] (upd H1 p (.lst vs)) _ (fun q m => ?_) (Ext.fresh n) (ok1.fresh n) (it_con (hs.mono (Ext.fresh n)) (fun {ρ H} low keep {i v} e => ?_) (fun {ρ H} low keep {i} e => ?_))⟩
  · rw [List.mem_singleton.mp m]
    refine ⟨?_, ok1.notin n⟩
    cases z : H p with
    | none => rfl
    | some o =>
      by_cases hm : p ∈ ρ
      · exact absurd (e1.sub p hm) (ok1.notin n)
      · have z2 := e1.keep p o z hm
        rw [n] at z2
        cases z2
  · have k := keep p (by simp) _ upd_same
    exact ⟨⟨vs, v, SqL.of k, e⟩, fun x H' y => ⟨y.1, Option.some.inj ((y.2 vs (SqL.of k)).symm.trans e)⟩⟩
  · exact ⟨vs, SqL.of (keep p (by simp) _ upd_same), e⟩⟩
theorem fi_new {X : Cx} {W : WX} {tg e : Expr} {te : TE} {f : XA} (hf : FLs X W e te f) : FI X W tg e (iList X.K te) (xSrcN f) := ⟨pi_list hf.pe, so_srcN hf.so⟩
/-- ranges -/
def rangeD (lo : Int) (n : Nat) : List D := (List.range n).map fun (i : Nat) => D.int (lo + i)
theorem embs_range {C : Cc} {ρ : List Addr} {H : Hp} (lo : Int) : ∀ l : List Nat, Embs C ρ H (l.map fun (i : Nat) => D.int (lo + i)) (l.map fun (i : Nat) => V.int (lo + i))
  | [] => .nil
  | n :: r => .cons (.int _) (embs_range lo r)
theorem it_range {C : Cc} {ρ0 : List Addr} {H0 : Hp} (lo : Int) (n : Nat) : ItOk C ρ0 H0 [] (Itr lo n) (Src.one (.con (rangeD lo n))).nxt := by
  refine it_con (embs_range lo (List.range n)) (fun {ρ H} low _ {i v} e => ?_) (fun {ρ H} low _ {i} e => ?_)
  · rw [List.getElem?_map] at e
    cases q : (List.range n)[i]? with
    | none => rw [q] at e; cases e
    | some c =>
      rw [q] at e
      cases e
      obtain ⟨h1, h2⟩ := List.getElem?_eq_some_iff.mp q
      rw [List.getElem_range] at h2
      subst h2
      rw [List.length_range] at h1
      exact ⟨h1, fun x H' y => ⟨y.1, y.2⟩⟩
  · rw [List.length_map, List.length_range] at e
    exact e
def okR (i : Int) : Bool := decide (-1000000 ≤ i) && decide (i ≤ 1000000)
def xRng1 (fA : XA) : XI := fun env h => (fA env h).bind fun ds h1 => match ds with
  | [.int j] => if okR j then .ok (.one (.con (rangeD 0 j.toNat))) h1 else .stuck
  | _ => .stuck
def xRng2 (fA : XA) : XI := fun env h => (fA env h).bind fun ds h1 => match ds with
  | [.int i, .int j] => if okR i && okR j then .ok (.one (.con (rangeD i (j - i).toNat))) h1 else .stuck
  | _ => .stuck
theorem okR_ok {i : Int} (h : okR i = true) : -(2 ^ 62) ≤ i ∧ i < 2 ^ 62 := by
  unfold okR at h
  rw [Bool.and_eq_true] at h
  have h1 := of_decide_eq_true h.1
  have h2 := of_decide_eq_true h.2
  omega
theorem so_rng1 {C : Cc} {W : WX} {ta : TA} {fA : XA} (ha : SoA C W ta fA) : SoIt C W (iRng1 ta) (xRng1 fA) := ⟨fun {env h ρ σ H R} he hh hp =>
  ha.go he hh ((Pst.bind hp).imp fun ds h1 ρ1 H1 e1 ok1 p1 vs hv => by
    split at p1
    · split at p1
      · rename_i j hj
        obtain ⟨v, ev, hw⟩ := one_arg hv
        subst ev
        cases hw
        obtain ⟨a, b⟩ := okR_ok hj
        exact ⟨j, rfl, a, b, p1 ρ1 H1 Ext.refl ok1 [] H1 _ (fun _ m => by cases m) Ext.refl ok1 (it_range 0 j.toNat)⟩
      · exact p1.elim
    · exact p1.elim)⟩
theorem so_rng2 {C : Cc} {W : WX} {ta : TA} {fA : XA} (ha : SoA C W ta fA) : SoIt C W (iRng2 ta) (xRng2 fA) := ⟨fun {env h ρ σ H R} he hh hp =>
  ha.go he hh ((Pst.bind hp).imp fun ds h1 ρ1 H1 e1 ok1 p1 vs hv => by
    split at p1
    · split at p1
      · rename_i i j hj
        rw [Bool.and_eq_true] at hj
        obtain ⟨v, u, rfl, hv, hu⟩ := two_args hv
        cases hv
        cases hu
        obtain ⟨a, b⟩ := okR_ok hj.1
        obtain ⟨c, d⟩ := okR_ok hj.2
        exact ⟨i, j, rfl, ⟨a, b, c, d⟩, p1 ρ1 H1 Ext.refl ok1 [] H1 _ (fun _ m => by cases m) Ext.refl ok1 (it_range i (j - i).toNat)⟩
      · exact p1.elim
    · exact p1.elim)⟩
theorem fi_rng1 {X : Cx} {W : WX} {tg a : Expr} {ta : TA} {fA : XA} {p pos : Pos} (hm : X.mg "range" = none) (ha : FAs X W [a] ta fA) (hg : Gl X "range" := by rfl) (hs : starEach [a] X.env = [(false, eval a X.env)] := by rfl) : FI X W tg (.Call (.Name "range" p) [a] [] pos) (iRng1 ta) (xRng1 fA) := ⟨pi_range1 hg hm ha.pe hs, so_rng1 ha.so⟩
theorem fi_rng2 {X : Cx} {W : WX} {tg a b : Expr} {ta : TA} {fA : XA} {p pos : Pos} (hm : X.mg "range" = none) (ha : FAs X W [a, b] ta fA) (hg : Gl X "range" := by rfl) (hs : starEach [a, b] X.env = [(false, eval a X.env), (false, eval b X.env)] := by rfl) (hs2 : starEach [b] X.env = [(false, eval b X.env)] := by rfl) :
    FI X W tg (.Call (.Name "range" p) [a, b] [] pos) (iRng2 ta) (xRng2 fA) := ⟨pi_range2 hg hm ha.pe hs hs2, so_rng2 ha.so⟩
end FL

/-! FJ: slices with a step, sorted, dicts, raise, repr. -/
namespace FL
open PySem PySem.Spec PyProof.Rows L2

/-! ### xs[lo:hi:st] of a list -/
def pick3 {α : Type} (xs : List α) (lo hi : Option Int) (st : Int) : List α :=
  (sliceRange (sliceBounds lo hi (some st) xs.length).1 (sliceBounds lo hi (some st) xs.length).2.1 (sliceBounds lo hi (some st) xs.length).2.2).filterMap (xs[·]?)
theorem pick3_val (its : List Value) (lo hi : Option Int) (st : Int) : slicePick its.toArray lo hi (some st) = (pick3 its lo hi st).toArray := by
  unfold slicePick pick3
  simp
theorem filterMap_embs {C : Cc} {ρ : List Addr} {H : Hp} {ds : List D} {vs : List V} (h : Embs C ρ H ds vs) : ∀ l : List Nat, Embs C ρ H (l.filterMap (ds[·]?)) (l.filterMap (vs[·]?))
  | [] => .nil
  | i :: r => by
    rw [List.filterMap_cons, List.filterMap_cons]
    cases e : ds[i]? with
    | none =>
      rw [show vs[i]? = none from List.getElem?_eq_none (emb_get h e)]
      exact filterMap_embs h r
    | some d =>
      obtain ⟨v, e1, hv⟩ := h.get e
      rw [e1]
      exact .cons hv (filterMap_embs h r)
theorem filterMap_vals {vs : List V} {us : List Value} (h : Vals vs us) : ∀ l : List Nat, Vals (l.filterMap (vs[·]?)) (l.filterMap (us[·]?))
  | [] => .nil
  | i :: r => by
    rw [List.filterMap_cons, List.filterMap_cons]
    cases e : vs[i]? with
    | none =>
      rw [h.none_of e]
      exact filterMap_vals h r
    | some v =>
      obtain ⟨u, e1, hv⟩ := h.get e
      rw [e1]
      exact .cons hv (filterMap_vals h r)
theorem sliceRange_len (a b c : Int) : (sliceRange a b c).length = (if c > 0 then (if a < b then (b - a + c - 1) / c else 0) else (if a > b then (a - b - c - 1) / (-c) else 0)).toNat := by
  unfold sliceRange
  simp
def tSl3 (K : PySem.W.Frag) (te : TE) (tl th ts : TO) : TE := fun σ H Q => te σ H fun x H1 => tl σ H1 fun l H2 => th σ H2 fun u H3 => ts σ H3 fun c H4 => ∃ a xs st, x = .ref a ∧ c = some st ∧ st ≠ 0 ∧ SqL K H4 a xs ∧ (pick3 xs l u st).length ≤ sizeLine ∧
  ∀ p, H4 p = none → Q (.ref p) (upd H4 p (.lst (pick3 xs l u st)))
theorem pe_slice3 {X : Cx} {e : Expr} {lo hi st : Option Expr} {te : TE} {tl th ts : TO} {p2 pos : Pos} (he : PE X e te) (hl : PO X lo tl) (hh : PO X hi th) (hs : PO X st ts) (ht : ∀ v r, subscripted (.Slice lo hi st p2) false v r = operate [v, r] (getItem v r)) : PE X (.Subscript e (.Slice lo hi st p2) pos) (tSl3 X.K te tl th ts) := by
  constructor
  intro pins s σ H Q I h
  apply Subscript_
  refine thn (he.run pins s σ H _ I h) ?_
  rintro v s1 ⟨x, H1, I1, r1, q1⟩
  apply wpAny_Slice
  refine thn (hl.run pins s1 σ H1 _ I1 q1) ?_
  rintro vl s2 ⟨l, H2, I2, pl, q2⟩
  refine thn (hh.run pins s2 σ H2 _ I2 q2) ?_
  rintro vu s3 ⟨u, H3, I3, pu, q3⟩
  refine thn (hs.run pins s3 σ H3 _ I3 q3) ?_
  rintro vs s4 ⟨c, H4, I4, pc, a, xs, stp, ex, ec, h0, hx, hz, q⟩
  subst ex ec
  cases r1
  have I5 : Inv X pins σ H4 { s4 with heap := s4.heap.push { cls := .type "slice", data := .fields #[vl, vu, vs] } } := I4.kept (t' := s4.toks) fun b ob z => Heap.get?_push_of_some _ z
  obtain ⟨its, r, hpl, hsz⟩ := I5.list hx
  have hlen := r.length
  refine tail_any (ops := [.ref a, .ref s4.heap.objs.size]) hpl.isList.typeIs (PySem.slot_list_getitem.lookup) ?_ (ht _ _)
  refine wpAny_getItem_list_slice hpl.isList (Heap.IsSliceOf.new _ vl vu vs) pl pu pc (fun z => h0 (Option.some.inj z)) ?_ (by rw [List.size_toArray]; omega)
  rw [pick3_val]
  have ep : pick3 xs l u stp = (sliceRange (sliceBounds l u (some stp) its.length).1 (sliceBounds l u (some stp) its.length).2.1 (sliceBounds l u (some stp) its.length).2.2).filterMap (xs[·]?) := by
    unfold pick3
    rw [hlen]
  refine ⟨.ref _, _, I5.laid (t' := s4.toks) (o := .lst (pick3 xs l u stp)) (fun b ob z => Heap.get?_push_of_some _ z) (Nat.le_refl _) ?_, rfl, q _ (I5.hok.fresh (Nat.le_refl _))⟩
  refine ⟨hz, pick3 its l u stp, 0, ?_, Heap.get?_push_size _ rfl⟩
  rw [ep]
  exact filterMap_vals r _
def xSl3 (f : XE) (lo hi st : XO) : XA := fun env h => (f env h).bind fun d h1 => (lo env h1).bind fun l h2 => (hi env h2).bind fun u h3 => (st env h3).bind fun c h4 => match c, d.lstI h4 with
  | some st, some ds => if st ≠ 0 ∧ (pick3 ds l u st).length ≤ 100000 then .ok (pick3 ds l u st) h4 else .stuck
  | _, _ => .stuck
theorem Embs.pick3 {C : Cc} {ρ : List Addr} {H : Hp} {ds : List D} {vs : List V} (h : Embs C ρ H ds vs) (l u : Option Int) (st : Int) : Embs C ρ H (FL.pick3 ds l u st) (FL.pick3 vs l u st) := by
  unfold FL.pick3
  rw [h.length]
  exact filterMap_embs h _
theorem fsl3 {X : Cx} {W : WX} {e : Expr} {lo hi st : Option Expr} {te : TE} {tl th ts : TO} {f : XE} {fl fh fs : XO} {p2 pos : Pos} (he : FE X W e te f) (hl : FO X W lo tl fl) (hh : FO X W hi th fh) (hs : FO X W st ts fs) (ht : ∀ v r, subscripted (.Slice lo hi st p2) false v r = operate [v, r] (getItem v r) := by exact fun _ _ => rfl) :
    FLs X W (.Subscript e (.Slice lo hi st p2) pos) (tSl3 X.K te tl th ts) (xSl3 f fl fh fs) :=
  ⟨pe_slice3 he.pe hl.po hh.po hs.po ht, ⟨fun {env h ρ σ H Q} en ok hp =>
    he.so.go en ok ((Pst.bind hp).imp fun d h1 ρ1 H1 e1 ok1 p1 v hv =>
      hl.so.go (en.mono e1) ok1 ((Pst.bind p1).imp fun l h2 ρ2 H2 e2 ok2 p2 =>
        hh.so.go ((en.mono e1).mono e2) ok2 ((Pst.bind p2).imp fun u h3 ρ3 H3 e3 ok3 p3 =>
          hs.so.go (((en.mono e1).mono e2).mono e3) ok3 ((Pst.bind p3).imp fun c h4 ρ4 H4 e4 ok4 p4 => by
            split at p4
            · rename_i st ds e
              split at p4
              · rename_i hc
                obtain ⟨a, vs, rfl, q1, q2⟩ := lst_of ok4 (((hv.mono e2).mono e3).mono e4) e
                have q3 := q1.pick3 l u st
                exact ⟨a, vs, st, rfl, rfl, hc.1, q2, by rw [← q3.length]; exact sz_ok hc.2, fun p n => p4 ρ4 H4 Ext.refl ok4 p _ n q3⟩
              · exact p4.elim
            · exact p4.elim))))⟩⟩

/-! ### str.index of one sign -/
def mSIndex : D → List D → Hs → Res D := fun d args h => match d, args with
  | .str a, [.str b] => (match Builtin.Str.occurrences ⟨a.toArray⟩ ⟨b.toArray⟩ 0 a.length 1 with
    | i :: _ => .ok (.int i) h
    | [] => .stuck)
  | _, _ => .stuck
def rSIndex : V → List V → Hp → VK → Prop := fun x xs H Q => ∃ a b i rest, x = .str a ∧ xs = [.str b] ∧ Builtin.Str.occurrences a b 0 a.length 1 = i :: rest ∧ Q (.int (i : Nat)) H
theorem so_sindex {C : Cc} {W : WX} : SoM C W "str" rSIndex mSIndex isStr := ⟨fun {h ρ σ H Q d x ds xs} ok hx hd hp => by
  unfold mSIndex at hp
  split at hp
  · split at hp
    · rename_i a b i r e
      obtain ⟨v, rfl, hv⟩ := one_arg hd
      cases hx
      cases hv
      exact ⟨_, _, i, r, rfl, rfl, by rw [strLen]; exact e, hp ρ H Ext.refl ok _ (.int _)⟩
    · exact hp.elim
  · exact hp.elim, fun {h ρ H d x} ok hx e => by
    unfold isStr at e
    split at e
    · cases hx
      rfl
    · cases e⟩
theorem fsindex {X : Cx} {W : WX} {o e : Expr} {to te : TE} {fo f : XE} {apos cpos : Pos} (ho : FE X W o to fo) (ha : FE X W e te f) (hs : starEach [e] X.env = (false, eval e X.env) :: starEach [] X.env := by rfl) (hbase : attributeBase o "index" X.env (eval o X.env) = eval o X.env := by rfl)
    (hfew : ((backTo cpos (starEach [e] X.env)).all (fun x => !x.1) && (backToKw cpos (keywordEach [] X.env)).all (fun x => x.1.isSome) && decide (([e] : List Expr).length + ([] : List Keyword).length + (if ([] : List Keyword).isEmpty then 0 else 1) < 30)) = true := by rfl)
    (hline : (apos.endLine == cpos.line) = true := by rfl) (hplain : (backTo cpos (starEach [] X.env)).any (·.1) = false := by rfl) : FE X W (.Call (.Attribute o "index" apos) [e] [] cpos) (tBM X.K "str" rSIndex to (tCons te tNil)) (xMeth isStr mSIndex fo (xCons f xNil)) :=
  ⟨pe_bm PySem.F.plainAttrs_str PySem.F.slot_str_index PySem.F.type_str_index mt_sindex ho.pe (pa_cons ha.pe pa_nil hs) hbase hfew hline hs hplain, so_meth so_sindex ho.so (so_cons ha.so so_nil)⟩

/-! ### sorted -/
def insBy {α : Type} (le : α → α → Bool) (x : α) : List α → List α
  | [] => [x]
  | y :: r => if le x y then x :: y :: r else y :: insBy le x r
def sortBy {α : Type} (le : α → α → Bool) : List α → List α
  | [] => []
  | x :: r => insBy le x (sortBy le r)
section
variable {α : Type} {le : α → α → Bool}
theorem insBy_perm (x : α) : ∀ l : List α, (insBy le x l).Perm (x :: l)
  | [] => .refl _
  | y :: r => by
    unfold insBy
    split
    · exact .refl _
    · exact ((insBy_perm x r).cons y).trans (.swap x y r)
theorem sortBy_perm : ∀ l : List α, (sortBy le l).Perm l
  | [] => .refl _
  | x :: r => (insBy_perm x _).trans ((sortBy_perm r).cons x)
theorem insBy_sorted (tot : ∀ a b, le a b = false → le b a = true) (tr : ∀ a b c, le a b = true → le b c = true → le a c = true) (x : α) : ∀ l : List α, l.Pairwise (fun a b => le a b = true) → (insBy le x l).Pairwise (fun a b => le a b = true)
  | [], _ => by
    unfold insBy
    exact List.pairwise_singleton _ _
  | y :: r, h => by
    unfold insBy
    have h' := List.pairwise_cons.mp h
    split
    · rename_i e
      refine List.pairwise_cons.mpr ⟨fun z hz => ?_, h⟩
      rcases List.mem_cons.mp hz with rfl | hz
      · exact e
      · exact tr _ _ _ e (h'.1 z hz)
    · rename_i e
      refine List.pairwise_cons.mpr ⟨fun z hz => ?_, insBy_sorted tot tr x r h'.2⟩
      have hz' := (insBy_perm (le := le) x r).mem_iff.mp hz
      rcases List.mem_cons.mp hz' with rfl | hz'
      · exact tot _ _ (by simpa using e)
      · exact h'.1 z hz'
theorem sortBy_sorted (tot : ∀ a b, le a b = false → le b a = true) (tr : ∀ a b c, le a b = true → le b c = true → le a c = true) : ∀ l : List α, (sortBy le l).Pairwise (fun a b => le a b = true)
  | [] => .nil
  | x :: r => insBy_sorted tot tr x _ (sortBy_sorted tot tr r)
end
def leI (a b : Int) : Bool := decide (a ≤ b)
theorem sortI_eq {ns ns' : List Int} (hp : ns'.Perm ns) (hs : ns'.Pairwise (· ≤ ·)) : ns' = sortBy leI ns := by
  refine List.Perm.eq_of_pairwise (le := fun a b => a ≤ b) (fun x y _ _ h1 h2 => Int.le_antisymm h1 h2) hs ?_ (hp.trans (sortBy_perm ns).symm)
  exact (sortBy_sorted (fun a b h => by
    have z := of_decide_eq_false h
    exact decide_eq_true (by omega)) (fun a b c h1 h2 => by
    have z1 := of_decide_eq_true h1
    have z2 := of_decide_eq_true h2
    exact decide_eq_true (by omega)) ns).imp fun h => of_decide_eq_true h
/-- sorted of a list of ints -/
def gSortI : List D → Hs → Res (List D) := fun ds h => match D.ints ds with
  | some ns => .ok ((sortBy leI ns).map .int) h
  | none => .stuck

theorem so_sortI {C : Cc} {W : WX} : SoFL C W (rSortedI C.K) gSortI := ⟨fun {h ρ σ H Q ds p vs} ok hl hd hp => by
  unfold gSortI at hp
  split at hp
  · rename_i ns e
    obtain ⟨rfl, _⟩ := ints_of e hd
    refine ⟨p, ns, rfl, hl, fun ns' q h1 h2 n => ?_⟩
    rw [sortI_eq h1 h2]
    exact hp ρ H Ext.refl ok q _ n (embs_ints _)
  · exact hp.elim⟩
/-- texts -/
def ltN : List Nat → List Nat → Bool
  | [], [] => false
  | [], _ :: _ => true
  | _ :: _, [] => false
  | a :: r, b :: t => Nat.blt a b || (Nat.beq a b && ltN r t)
theorem ltN_eq : ∀ a b : List Nat, ltN a b = PySem.Spec.ltCps a b
  | [], [] => rfl
  | [], _ :: _ => rfl
  | _ :: _, [] => rfl
  | a :: r, b :: t => by
    unfold ltN PySem.Spec.ltCps
    rw [ltN_eq r t]
    have h1 : Nat.blt a b = decide (a < b) := by
      rw [Bool.eq_iff_iff]
      simp [Nat.blt_eq]
    have h2 : Nat.beq a b = (a == b) := by
      rw [Bool.eq_iff_iff]
      simp [Nat.beq_eq]
    rw [h1, h2]
def leS (a b : List Nat) : Bool := !ltN b a
theorem leS_iff {a b : List Nat} : leS a b = true ↔ a ≤ b := by
  unfold leS
  rw [ltN_eq, PyProof.Rows.ltCps_eq]
  simp
theorem sortS_pw {l : List (List Nat)} : (sortBy leS l).Pairwise (fun a b => leS a b = true) :=
  sortBy_sorted (fun a b h => by
    rw [leS_iff]
    have : ¬ a ≤ b := fun z => by
      rw [leS_iff.mpr z] at h
      cases h
    exact (List.le_total a b).resolve_left this) (fun a b c h1 h2 => by
    rw [leS_iff] at *
    exact List.le_trans h1 h2) l
def D.strs : List D → Option (List (List Nat))
  | [] => some []
  | .str i :: r => (D.strs r).map (i :: ·)
  | _ => none
def mkS (cs : List Nat) : Str := ⟨cs.toArray⟩
theorem strs_of {C : Cc} {ρ : List Addr} {H : Hp} : ∀ {ds : List D} {ns : List (List Nat)} {vs : List V}, D.strs ds = some ns → Embs C ρ H ds vs → vs = (ns.map mkS).map V.str ∧ ds = ns.map .str
  | [], ns, vs, e, h => by
    cases e
    cases h
    exact ⟨rfl, rfl⟩
  | .str i :: r, ns, vs, e, h => by
    unfold D.strs at e
    cases q : D.strs r with
    | none => rw [q] at e; cases e
    | some ms =>
      rw [q] at e
      cases e
      cases h with
      | cons a b =>
        cases a
        obtain ⟨h1, h2⟩ := strs_of q b
        exact ⟨by rw [h1]; rfl, by rw [h2]; rfl⟩
  | .non :: _, _, _, e, _ => by cases e
  | .bl _ :: _, _, _, e, _ => by cases e
  | .int _ :: _, _, _, e, _ => by cases e
  | .ty _ :: _, _, _, e, _ => by cases e
  | .gl _ :: _, _, _, e, _ => by cases e
  | .tup _ :: _, _, _, e, _ => by cases e
  | .rol _ :: _, _, _, e, _ => by cases e
  | .ref _ :: _, _, _, e, _ => by cases e
theorem embs_strs {C : Cc} {ρ : List Addr} {H : Hp} : ∀ ns : List (List Nat), Embs C ρ H (ns.map .str) ((ns.map mkS).map V.str)
  | [] => .nil
  | n :: r => .cons (.str n) (embs_strs r)
theorem risingS_pw : ∀ (l : List Str) (x : Str), PyProof.Rows.risingS x l = true → (∀ y ∈ l, x.cps.toList ≤ y.cps.toList) ∧ l.Pairwise (fun a b => a.cps.toList ≤ b.cps.toList)
  | [], x, _ => ⟨fun _ m => (by cases m), .nil⟩
  | y :: r, x, h => by
    unfold PyProof.Rows.risingS at h
    rw [Bool.and_eq_true, PyProof.Rows.ltCps_eq] at h
    obtain ⟨h1, h2⟩ := h
    obtain ⟨a, b⟩ := risingS_pw r y h2
    have hxy : x.cps.toList ≤ y.cps.toList := by simpa using h1
    refine ⟨fun z hz => ?_, List.pairwise_cons.mpr ⟨a, b⟩⟩
    rcases List.mem_cons.mp hz with rfl | hz
    · exact hxy
    · exact List.le_trans hxy (a z hz)
theorem sortedS_pw {l : List Str} (h : PyProof.Rows.sortedS l = true) : l.Pairwise (fun a b => a.cps.toList ≤ b.cps.toList) := by
  cases l with
  | nil => exact .nil
  | cons x r =>
    obtain ⟨a, b⟩ := risingS_pw r x h
    exact List.pairwise_cons.mpr ⟨a, b⟩
theorem sortS_eq {ns : List (List Nat)} {ss : List Str} (hp : ss.Perm (ns.map mkS)) (hs : PyProof.Rows.sortedS ss = true) : ss = (sortBy leS ns).map mkS := by
  refine List.Perm.eq_of_pairwise (le := fun a b : Str => a.cps.toList ≤ b.cps.toList) (fun x y _ _ h1 h2 => ?_) (sortedS_pw hs) ?_ (hp.trans ((sortBy_perm ns).symm.map mkS))
  · have e := List.le_antisymm h1 h2
    cases x
    cases y
    have e2 := Array.toList_inj.mp e
    exact congrArg Str.mk e2
  · rw [List.pairwise_map]
    exact sortS_pw.imp fun {a b} h => by
      rw [leS_iff] at h
      exact h
def rSortedSA (K : PySem.W.Frag) : List V → Hp → VK → Prop := fun vs H Q => ∃ (a : Addr) (xs : List Str), vs = [V.ref a] ∧ SqL K H a (xs.map V.str) ∧
  ∀ (ys : List Str) (p : Addr), ys.Perm xs → PyProof.Rows.sortedS ys = true → H p = none → Q (.ref p) (upd H p (.lst (ys.map V.str)))
theorem cr_sortedSA {X : Cx} : CallR X (.builtin "sorted") (rSortedSA X.K) := by
  intro pins s σ H vs us Q I r h
  obtain ⟨a, xs, ev, hs, q⟩ := h
  subst ev
  obtain ⟨its, rv, hl, hz⟩ := I.list hs
  rw [Vals.ref1 r]
  have hlen := rv.length
  apply PyProof.Rows.sorted_strsAny hl.isList rv.strs (by rw [← hlen]; exact hz)
  intro out ys h1 h2 h3
  obtain ⟨ep, he'⟩ := PyProof.Rows.sortedAll_at s.heap its out
  have hy : (ys.map V.str).length ≤ sizeLine := by
    rw [List.length_map, h2.length_eq]
    rw [List.length_map] at hz
    exact hz
  refine ⟨.ref _, upd H (s.heap.objs.size + 1) (.lst (ys.map V.str)), ?_, rfl, q ys _ h2 h3 (I.hok.fresh (Nat.le_succ _))⟩
  exact I.laid (t' := s.toks) (fun _ _ => PyProof.Rows.sortedAll_old) (Nat.le_succ _) ⟨hy, out.toList, ep, vals_of_strs h1, he'⟩
def gSortS : List D → Hs → Res (List D) := fun ds h => match D.strs ds with
  | some ns => .ok ((sortBy leS ns).map .str) h
  | none => .stuck
theorem so_sortS {C : Cc} {W : WX} : SoFL C W (rSortedSA C.K) gSortS := ⟨fun {h ρ σ H Q ds p vs} ok hl hd hp => by
  unfold gSortS at hp
  split at hp
  · rename_i ns e
    obtain ⟨rfl, _⟩ := strs_of e hd
    refine ⟨p, ns.map mkS, rfl, hl, fun ys q h1 h2 n => ?_⟩
    rw [sortS_eq h1 h2]
    exact hp ρ H Ext.refl ok q _ n (embs_strs _)
  · exact hp.elim⟩

/-! ### dicts with ints and texts as keys -/
def kEq : KD → KD → Bool
  | .inl a, .inl b => decide (a = b)
  | .inr a, .inr b => natsEq a b
  | _, _ => false
theorem kEq_iff : ∀ a b : KD, kEq a b = decide (keyOf a = keyOf b)
  | .inl a, .inl b => by
    rw [Bool.eq_iff_iff]
    simp [kEq, keyOf]
  | .inr a, .inr b => by
    show natsEq a b = _
    rw [natsEq_iff, Bool.eq_iff_iff]
    simp [keyOf]
  | .inl _, .inr _ => by
    rw [Bool.eq_iff_iff]
    simp [kEq, keyOf]
  | .inr _, .inl _ => by
    rw [Bool.eq_iff_iff]
    simp [kEq, keyOf]
def D.key : D → Option KD
  | .int i => some (.inl i)
  | .str cs => some (.inr cs)
  | _ => none
def lookK (k : KD) : List (KD × D) → Option D
  | [] => none
  | (j, d) :: r => if kEq j k then some d else lookK k r
section
variable {C : Cc} {W : WX} {ρ : List Addr} {H : Hp}
theorem key_of_emb {d : D} {k : KD} {v : V} (hv : Emb C ρ H d v) (e : d.key = some k) : v = kV (keyOf k) := by
  unfold D.key at e
  split at e
  · cases e; cases hv; rfl
  · cases e; cases hv; rfl
  · cases e
theorem look_some {k : KD} : ∀ {kvs : List (KD × D)} {vs : List (Key × V)} {d : D}, EmbK C ρ H kvs vs → lookK k kvs = some d → ∃ v, valV vs (keyOf k) = some v ∧ Emb C ρ H d v
  | [], _, _, _, e => by cases e
  | (j, d') :: r, _, d, h, e => by
    unfold lookK at e
    cases h with
    | cons a b =>
      split at e
      · rename_i q
        cases e
        rw [kEq_iff] at q
        exact ⟨_, valV_pos (of_decide_eq_true q), a⟩
      · rename_i q
        rw [kEq_iff] at q
        rw [valV_neg (by simpa using q)]
        exact look_some b e
theorem look_none {k : KD} : ∀ {kvs : List (KD × D)} {vs : List (Key × V)}, EmbK C ρ H kvs vs → lookK k kvs = none → valV vs (keyOf k) = none
  | [], _, h, _ => by
    cases h
    rfl
  | (j, d') :: r, _, h, e => by
    unfold lookK at e
    cases h with
    | cons a b =>
      split at e
      · cases e
      · rename_i q
        rw [kEq_iff] at q
        rw [valV_neg (by simpa using q)]
        exact look_none b e
theorem EmbK.length {kvs : List (KD × D)} {vs : List (Key × V)} (h : EmbK C ρ H kvs vs) : kvs.length = vs.length := by
  induction h with
  | nil => rfl
  | cons _ _ ih => rw [List.length_cons, List.length_cons, ih]
theorem EmbK.append {a b : List (KD × D)} {vs ws : List (Key × V)} (h : EmbK C ρ H a vs) (h' : EmbK C ρ H b ws) : EmbK C ρ H (a ++ b) (vs ++ ws) := by
  induction h with
  | nil => exact h'
  | cons q _ ih => exact .cons q ih
/-- the values at keys that stand are set in their places -/
def setD (k : KD) (d : D) (kvs : List (KD × D)) : List (KD × D) := kvs.map fun p => if kEq p.1 k then (p.1, d) else p
def putK' (k : KD) (d : D) (kvs : List (KD × D)) : List (KD × D) := if (lookK k kvs).isSome then setD k d kvs else kvs ++ [(k, d)]
theorem EmbK.setD {k : KD} {d : D} {v : V} (hd : Emb C ρ H d v) {kvs : List (KD × D)} {vs : List (Key × V)} (h : EmbK C ρ H kvs vs) : EmbK C ρ H (FL.setD k d kvs) (vs.map fun kv => if kv.1 = keyOf k then (kv.1, v) else kv) := by
  induction h with
  | nil => exact .nil
  | @cons j e w r ws q _ ih =>
    unfold FL.setD
    rw [List.map_cons, List.map_cons]
    by_cases z : kEq j k = true
    · have z' : keyOf j = keyOf k := by
        rw [kEq_iff] at z
        exact of_decide_eq_true z
      rw [if_pos z, if_pos z']
      exact .cons hd ih
    · have z' : ¬ keyOf j = keyOf k := fun y => z (by rw [kEq_iff]; exact decide_eq_true y)
      rw [if_neg z, if_neg z']
      exact .cons q ih
theorem EmbK.put {k : KD} {d : D} {v : V} (hd : Emb C ρ H d v) {kvs : List (KD × D)} {vs : List (Key × V)} (h : EmbK C ρ H kvs vs) : EmbK C ρ H (putK' k d kvs) (putK vs (keyOf k) v) := by
  unfold putK'
  cases e : lookK k kvs with
  | none =>
    rw [putK_new v (look_none h e)]
    exact h.append (.cons hd .nil)
  | some d' =>
    obtain ⟨v', e', _⟩ := look_some h e
    have q : putK vs (keyOf k) v = vs.map fun kv => if kv.1 = keyOf k then (kv.1, v) else kv := by
      unfold putK
      rw [if_pos (by rw [valV_any, e']; rfl)]
    rw [q]
    exact h.setD hd
end
end FL

/-! FK: dicts, raise, repr. -/
namespace FL
open PySem PySem.Spec PyProof.Rows L2

/-- d[k] of a dict with ints and texts as keys -/
def xDGet (fd fk : XE) : XE := fun env h => (fd env h).bind fun d h1 => (fk env h1).bind fun k h2 => match d, k.key with
  | .ref i, some k => (match h2[i]? with
    | some (.dk kvs) => (match lookK k kvs with
      | some x => .ok x h2
      | none => .stuck)
    | _ => .stuck)
  | _, _ => .stuck
theorem so_dget {C : Cc} {W : WX} {td tk : TE} {fd fk : XE} (hd : SoE C W td fd) (hk : SoE C W tk fk) : SoE C W (tDGet td tk) (xDGet fd fk) := ⟨fun {env h ρ σ H Q} he hh hp =>
  hd.go he hh ((Pst.bind hp).imp fun d h1 ρ1 H1 e1 ok1 p1 x hx =>
    hk.go (he.mono e1) ok1 ((Pst.bind p1).imp fun k h2 ρ2 H2 e2 ok2 p2 y hy => by
      split at p2
      · rename_i i kk ek
        split at p2
        · rename_i kvs e
          split at p2
          · rename_i z ez
            cases hx with
            | ref ha =>
              obtain ⟨vs, q1, q2⟩ := ok2.ob _ _ _ (e2.at ha) e
              obtain ⟨v, ev, hv⟩ := look_some q2 ez
              have ey := key_of_emb hy ek
              subst ey
              refine ⟨_, v, rfl, ?_, p2 ρ2 H2 Ext.refl ok2 v hv⟩
              rw [← ev]
              exact DGet.k q1
          · exact p2.elim
        · exact p2.elim
      · exact p2.elim))⟩
theorem fdget {X : Cx} {W : WX} {o i : Expr} {td tk : TE} {fd fk : XE} {pos : Pos} {k : Nat} (hr : Room k X.A) (hd : FE X W o td fd) (hk : FE X W i tk fk) (hs : NoSl i := by exact fun _ _ => rfl) : FE X W (.Subscript o i pos) (tDGet td tk) (xDGet fd fk) :=
  ⟨pe_dget (hu_of hr) hd.pe hk.pe hs, so_dget hd.so hk.so⟩
/-- d.get(k, x) -/
def xDGet2 (fd fk fx : XE) : XE := fun env h => (fd env h).bind fun d h1 => (match d with
  | .ref i => (match h1[i]? with
    | some (.dk _) => Res.ok () h1
    | _ => .stuck)
  | _ => .stuck).bind fun _ h1 => (fk env h1).bind fun k h2 => (fx env h2).bind fun z h3 => match d, k.key with
  | .ref i, some k => (match h3[i]? with
    | some (.dk kvs) => .ok ((lookK k kvs).getD z) h3
    | _ => .stuck)
  | _, _ => .stuck
theorem getD_emb {C : Cc} {ρ : List Addr} {H : Hp} {k : KD} {kvs : List (KD × D)} {vs : List (Key × V)} {d : D} {v : V} (h : EmbK C ρ H kvs vs) (hd : Emb C ρ H d v) : Emb C ρ H ((lookK k kvs).getD d) ((valV vs (keyOf k)).getD v) := by
  cases e : lookK k kvs with
  | none =>
    rw [look_none h e]
    exact hd
  | some x =>
    obtain ⟨w, e1, hw⟩ := look_some h e
    rw [e1]
    exact hw
theorem so_dget2 {C : Cc} {W : WX} {td tk tx : TE} {fd fk fx : XE} (hd : SoE C W td fd) (hk : SoE C W tk fk) (hx : SoE C W tx fx) : SoE C W (tDGet2 td tk tx) (xDGet2 fd fk fx) := ⟨fun {env h ρ σ H Q} he hh hp =>
  hd.go he hh ((Pst.bind hp).imp fun d h1 ρ1 H1 e1 ok1 p1 x hx' => by
    have p1' := Pst.bind p1
    revert p1'
    split
    · rename_i i
      split
      · rename_i kvs e
        intro p1'
        have p1 := p1' ρ1 H1 Ext.refl ok1
        cases hx' with
        | @ref _ a ha =>
          obtain ⟨vs, q1, q2⟩ := ok1.ob _ _ _ ha e
          refine ⟨a, rfl, .inl ⟨vs, .inl q1⟩, hk.go (he.mono e1) ok1 ((Pst.bind p1).imp fun k h2 ρ2 H2 e2 ok2 p2 y hy => ?_)⟩
          refine hx.go ((he.mono e1).mono e2) ok2 ((Pst.bind p2).imp fun z h3 ρ3 H3 e3 ok3 p3 w hw => ?_)
          split at p3
          · rename_i j kk ej ek
            cases ej
            split at p3
            · rename_i kvs' e'
              obtain ⟨vs', r1, r2⟩ := ok3.ob _ _ _ (e3.at (e2.at ha)) e'
              have ey := key_of_emb (hy.mono e3) ek
              subst ey
              exact ⟨_, DGet.k r1, p3 ρ3 H3 Ext.refl ok3 _ (getD_emb r2 hw)⟩
            · exact p3.elim
          · exact p3.elim
      · exact fun p => p.elim
    · exact fun p => p.elim)⟩
theorem fdget2 {X : Cx} {W : WX} {o e f : Expr} {td tk tx : TE} {fd fk fx : XE} {apos cpos : Pos} {k : Nat} (hr : Room k X.A) (hd : FE X W o td fd) (hk : FE X W e tk fk) (hx : FE X W f tx fx) (m : M2 X o "get" apos e f cpos := by exact ⟨rfl, rfl, rfl, rfl⟩) : FE X W (.Call (.Attribute o "get" apos) [e, f] [] cpos) (tDGet2 td tk tx) (xDGet2 fd fk fx) :=
  ⟨pe_dget2 (hu_of hr) hd.pe hk.pe hx.pe m, so_dget2 hd.so hk.so hx.so⟩
/-- {} -/
def xDNew : XE := fun _ h => .ok (.ref h.length) (h ++ [.dk []])
theorem so_dnew {C : Cc} {W : WX} : SoE C W tDNewK xDNew := ⟨fun {env h ρ σ H Q} he hh hp p n => by
  have e2 : Ext ρ (ρ ++ [p]) H (upd H p (.dK [])) := Ext.laid n
  refine hp (ρ ++ [p]) _ e2 (hh.laid n ⟨[], upd_same, .nil⟩) _ (.ref ?_)
  rw [← hh.len, List.getElem?_append_right (Nat.le_refl _)]
  simp⟩
theorem fdnew {X : Cx} {W : WX} {pos : Pos} : FE X W (.Dict [] [] pos) tDNewK xDNew := ⟨pe_dnewK, so_dnew⟩
/-- d[k] = v -/
def sDPutK (fd fk fv : XE) : XS := fun env h => ((fv env h).bind fun v h1 => (fd env h1).bind fun d h2 => (fk env h2).bind fun k h3 => match d, k.key with
  | .ref i, some k => (match h3[i]? with
    | some (.dk kvs) => if kvs.length < 100000 then Res.ok () (h3.set i (.dk (putK' k v kvs))) else .stuck
    | _ => .stuck)
  | _, _ => .stuck).andS env fun _ h4 => .nx env h4
theorem so_dput {C : Cc} {W : WX} {td tk tv : TE} {fd fk fv : XE} (hd : SoE C W td fd) (hk : SoE C W tk fk) (hv : SoE C W tv fv) : SoS C W (sDPut td tk tv) (sDPutK fd fk fv) := ⟨fun {env h ρ σ H Dn} he hh hp =>
  hv.go he hh ((Pst.bind (PsS.andS he hp)).imp fun v h1 ρ1 H1 e1 ok1 p1 x hx =>
    hd.go (he.mono e1) ok1 ((Pst.bind p1).imp fun d h2 ρ2 H2 e2 ok2 p2 y hy =>
      hk.go ((he.mono e1).mono e2) ok2 ((Pst.bind p2).imp fun k h3 ρ3 H3 e3 ok3 p3 z hz => by
        split at p3
        · rename_i i kk ek
          split at p3
          · rename_i kvs e
            split at p3
            · rename_i hl
              cases hy with
              | @ref _ a ha =>
                have ha3 := e3.at ha
                obtain ⟨vs, q1, q2⟩ := ok3.ob _ _ _ ha3 e
                have ez := key_of_emb hz ek
                subst ez
                have ew := Ext.write (o := .dK (putK vs (keyOf kk) x)) ok3 ha3
                have ok4 := ok3.write (b := .dk (putK' kk v kvs)) ha3 ⟨_, upd_same, (q2.put ((hx.mono e2).mono e3)).mono ew⟩
                refine ⟨a, _, rfl, DPut.k q1 (by rw [← q2.length]; exact sz_lt' hl), ?_⟩
                exact p3 ρ3 _ ew ok4 ρ3 σ _ Ext.refl ok4 ((((he.mono e1).mono e2).mono e3).mono ew)
            · exact p3.elim
          · exact p3.elim
        · exact p3.elim)))⟩
theorem fs_dput {X : Cx} {W : WX} {o i e : Expr} {td tk tv : TE} {fd fk fv : XE} {pos' pos : Pos} {k : Nat} (hr : Room k X.A) (hd : FE X W o td fd) (hk : FE X W i tk fk) (hv : FE X W e tv fv) (hs : swapsWith e (some (.Subscript o i pos')) pos.line X.env = pure false := by rfl) :
    FS X W (.Assign [.Subscript o i pos'] e pos) (sDPut td tk tv) (sDPutK fd fk fv) := ⟨ps_dput (hu_of hr) hd.pe hk.pe hv.pe hs, so_dput hd.so hk.so hv.so⟩
/-- a display -/
structure FPs (X : Cx) (W : WX) (pos : Pos) (ks : List (Option Expr)) (vs : List Expr) (trs : List (TE × TE)) (fs : List (XE × XE)) : Prop where
  pp : PPs X pos ks vs trs
  so : fs.length = trs.length ∧ ∀ (i : Nat) (p : XE × XE), fs[i]? = some p → ∃ t : TE × TE, trs[i]? = some t ∧ SoE (cc X) W t.1 p.1 ∧ SoE (cc X) W t.2 p.2
theorem fp_nil {X : Cx} {W : WX} {pos : Pos} : FPs X W pos [] [] [] [] := ⟨pps_nil, rfl, fun i p e => by simp at e⟩
theorem fp_cons {X : Cx} {W : WX} {pos : Pos} {k v : Expr} {ks : List (Option Expr)} {vs : List Expr} {tk tv : TE} {fk fv : XE} {trs : List (TE × TE)} {fs : List (XE × XE)} (hk : FE X W k tk fk) (hv : FE X W v tv fv) (hr : FPs X W pos ks vs trs fs) : FPs X W pos (some k :: ks) (v :: vs) ((tk, tv) :: trs) ((fk, fv) :: fs) :=
  ⟨pps_cons hk.pe hv.pe hr.pp, by rw [List.length_cons, List.length_cons, hr.so.1], fun i p e => by
    cases i with
    | zero => cases e; exact ⟨_, rfl, hk.so, hv.so⟩
    | succ i => exact hr.so.2 i p e⟩
def xPairs : List (XE × XE) → Sl → Hs → Res (List (KD × D))
  | [], _, h => .ok [] h
  | (fk, fv) :: r, env, h => (fk env h).bind fun k h1 => (fv env h1).bind fun v h2 => (xPairs r env h2).bind fun kvs h3 => match k.key with
    | some k => .ok ((k, v) :: kvs) h3
    | none => .stuck
def mergeD (kvs more : List (KD × D)) : List (KD × D) := more.foldl (fun acc kv => putK' kv.1 kv.2 acc) kvs
def xDisp (fs : List (XE × XE)) : XE := fun env h => (xPairs fs env h).bind fun kvs h1 => if kvs.length ≤ 15 then .ok (.ref h1.length) (h1 ++ [.dk (mergeD [] kvs)]) else .stuck
theorem EmbK.merge {C : Cc} {ρ : List Addr} {H : Hp} : ∀ {more : List (KD × D)} {ms : List (Key × V)} {kvs : List (KD × D)} {vs : List (Key × V)}, EmbK C ρ H more ms → EmbK C ρ H kvs vs → EmbK C ρ H (mergeD kvs more) (mergeK vs ms) := by
  intro more
  induction more with
  | nil =>
    intro ms kvs vs h h'
    cases h
    exact h'
  | cons p r ih =>
    intro ms kvs vs h h'
    cases h with
    | @cons k _ _ _ _ a b =>
      have z := ih b (h'.put (k := k) a)
      exact z
theorem so_pairs {C : Cc} {W : WX} : ∀ {fs : List (XE × XE)} {trs : List (TE × TE)}, (fs.length = trs.length ∧ ∀ (i : Nat) (p : XE × XE), fs[i]? = some p → ∃ t : TE × TE, trs[i]? = some t ∧ SoE C W t.1 p.1 ∧ SoE C W t.2 p.2) →
    ∀ {env h ρ σ H R}, EnvOk C ρ H env σ → HeapOk C ρ h H → Pst C W ρ σ H (xPairs fs env h) (fun kvs h' ρ' H' => ∀ vs, EmbK C ρ' H' kvs vs → R (vs.map fun kv => (kV kv.1, kv.2)) H') → tPairs trs σ H R
  | [], [], _, env, h, ρ, σ, H, R, he, hh, hp => hp ρ H Ext.refl hh [] .nil
  | [], _ :: _, hs, _, _, _, _, _, _, _, _, _ => by cases hs.1
  | _ :: _, [], hs, _, _, _, _, _, _, _, _, _ => by cases hs.1
  | (fk, fv) :: r, (tk, tv) :: tr, hs, env, h, ρ, σ, H, R, he, hh, hp => by
    obtain ⟨t, et, hk, hv⟩ := hs.2 0 _ rfl
    cases et
    unfold xPairs at hp
    refine hk.go he hh ((Pst.bind hp).imp fun k h1 ρ1 H1 e1 ok1 p1 x hx => ?_)
    refine hv.go (he.mono e1) ok1 ((Pst.bind p1).imp fun v h2 ρ2 H2 e2 ok2 p2 y hy => ?_)
    refine so_pairs (fs := r) (trs := tr) ⟨Nat.succ.inj hs.1, fun i p e => hs.2 (i + 1) p e⟩ ((he.mono e1).mono e2) ok2 ((Pst.bind p2).imp fun kvs h3 ρ3 H3 e3 ok3 p3 vs hvs => ?_)
    split at p3
    · rename_i kk ek
      have ex := key_of_emb hx ek
      subst ex
      exact p3 ρ3 H3 Ext.refl ok3 _ (.cons (hy.mono e3) hvs)
    · exact p3.elim
theorem so_disp {C : Cc} {W : WX} {fs : List (XE × XE)} {trs : List (TE × TE)} (hs : fs.length = trs.length ∧ ∀ (i : Nat) (p : XE × XE), fs[i]? = some p → ∃ t : TE × TE, trs[i]? = some t ∧ SoE C W t.1 p.1 ∧ SoE C W t.2 p.2) : SoE C W (tDisp trs) (xDisp fs) := ⟨fun {env h ρ σ H Q} he hh hp p n => by
  have ef : Ext ρ ρ H (upd H p (.dK [])) := Ext.fresh n
  have ok0 := hh.fresh (o := .dK []) n
  have hq : Pst C W ρ σ (upd H p (.dK [])) (xPairs fs env h) (fun kvs h1 ρ1 H1 => Ext ρ ρ1 (upd H p (.dK [])) H1 ∧ HeapOk C ρ1 h1 H1 ∧ Pst C W ρ σ H (if kvs.length ≤ 15 then .ok (.ref h1.length) (h1 ++ [.dk (mergeD [] kvs)]) else .stuck) (GV C Q)) := by
    have hp' : Pst C W ρ σ H ((xPairs fs env h).bind fun kvs h1 => if kvs.length ≤ 15 then .ok (.ref h1.length) (h1 ++ [.dk (mergeD [] kvs)]) else .stuck) (GV C Q) := hp
    revert hp'
    cases xPairs fs env h with
    | ok kvs h1 => exact fun z ρ1 H1 e1 ok1 => ⟨e1, ok1, z⟩
    | exc c h1 => exact fun z ρ1 H1 a e1 ok1 hm => z ρ1 H1 a (ef.trans e1) ok1 hm
    | stuck => exact fun z => z
  refine so_pairs hs (he.mono ef) ok0 (hq.imp fun kvs h1 ρ1 H1 _ _ ⟨e1, ok1, p1⟩ vs hv => ?_)
  split at p1
  · rename_i hl
    have hD : H1 p = some (.dK []) := e1.keep p _ upd_same (hh.notin n)
    have nD : p ∉ ρ1 := fun m => by
      have z := e1.new p m (hh.notin n)
      rw [upd_same] at z
      cases z
    refine ⟨hD, vs, rfl, by rw [← hv.length]; exact hl, ?_⟩
    -- the dict is told of from here
    have lo : Low ρ1 (ρ1 ++ [p]) H1 (upd H1 p (.dK (mergeK [] vs))) := ⟨⟨[p], rfl⟩, fun a xs q => by rw [upd_ne (fun z => by subst z; rw [hD] at q; cases q)]; exact q, fun a o u q => by rw [upd_ne (fun z => by subst z; rw [hD] at q; cases q)]; exact q⟩
    have hm := (EmbK.merge (C := C) (kvs := []) (vs := []) hv .nil).low lo
    have e3 : Ext ρ (ρ1 ++ [p]) H (upd H1 p (.dK (mergeK [] vs))) := by
      refine ⟨?_, fun a o q na => ?_, fun a m na => ?_, fun a xs q => ?_, fun a o u q => ?_⟩
      · obtain ⟨l, el⟩ := e1.pre
        exact ⟨l ++ [p], by rw [el, List.append_assoc]⟩
      · rw [upd_ne (ne_of_none q n)]
        exact e1.keep a o (by rw [upd_ne (ne_of_none q n)]; exact q) na
      · rcases List.mem_append.mp m with z | z
        · have w := e1.new a z na
          by_cases y : a = p
          · rw [y]; exact n
          · rwa [upd_ne y] at w
        · rw [List.mem_singleton.mp z]; exact n
      · rw [upd_ne (ne_of_none q n)]
        exact e1.tup a xs (by rw [upd_ne (ne_of_none q n)]; exact q)
      · rw [upd_ne (ne_of_none q n)]
        exact e1.frz a o u (by rw [upd_ne (ne_of_none q n)]; exact q)
    have ok3 : HeapOk C (ρ1 ++ [p]) (h1 ++ [.dk (mergeD [] kvs)]) (upd H1 p (.dK (mergeK [] vs))) := by
      refine ⟨by rw [List.length_append, List.length_append, ok1.len]; rfl, List.nodup_append.mpr ⟨ok1.nd, by simp, fun x hx y hy z => nD (by rw [List.mem_singleton.mp hy] at z; rw [← z]; exact hx)⟩, fun j b o z1 z2 => ?_⟩
      by_cases hj : j < ρ1.length
      · rw [List.getElem?_append_left hj] at z1
        rw [List.getElem?_append_left (by rw [← ok1.len]; exact hj)] at z2
        have hne : b ≠ p := fun z => nD (by rw [← z]; exact List.mem_of_getElem? z1)
        exact (ok1.ob j b o z1 z2).low lo fun u q => by rw [upd_ne hne]; exact q
      · have hl' : j = ρ1.length := by
          have := (List.getElem?_eq_some_iff.mp z1).1
          rw [List.length_append] at this
          simp at this
          omega
        subst hl'
        rw [List.getElem?_append_right (Nat.le_refl _)] at z1
        rw [List.getElem?_append_right (by rw [ok1.len]; exact Nat.le_refl _), ok1.len] at z2
        simp at z1 z2
        subst z1 z2
        exact ⟨_, upd_same, hm⟩
    refine p1 (ρ1 ++ [p]) _ e3 ok3 _ (.ref ?_)
    rw [← ok1.len, List.getElem?_append_right (Nat.le_refl _)]
    simp
  · exact p1.elim⟩

theorem fdisp {X : Cx} {W : WX} {pos : Pos} {ks : List (Option Expr)} {vs : List Expr} {trs : List (TE × TE)} {fs : List (XE × XE)} (h : FPs X W pos ks vs trs fs) (hall : ks.all (·.isSome) = true := by rfl) (hl : ks.length = vs.length := by rfl) (h0 : ks ≠ [] := by exact fun z => by cases z) (h15 : ks.length ≤ 15 := by decide) :
    FE X W (.Dict ks vs pos) (tDisp trs) (xDisp fs) := ⟨pe_disp h.pp hall hl h0 h15, so_disp h.so⟩

/-! ### raise -/
/-- X() of an own class without own __init__ -/
theorem mk_own0 {X : Cx} {Cl : Addr} {bmB : List Value} {B newId initId : String} {x : Str} {p pos : Pos} (F : ExcBaseFacts B newId initId bmB) (q : PySem.W.excIn X.K Cl bmB newId = true) (gC : X.mg x = some (.ref Cl)) (kC : PySem.W.keepIn X.K (.ref Cl) = true) (r : Raises X (.ref Cl)) (hg : Gl X x)
    (hdb : (x == ("__debug__" : Str)) = false) : PMk X (.Call (.Name x p) [] [] pos) (fun _ H Q => Q (.ref Cl) none H) := by
  intro pins s σ H Q I h
  apply wpAny_Call_Name_kw
  apply ld_glob I hg gC _ hdb
  apply PySem.W.callWith_K0 I.kIn kC
  obtain ⟨bm, N, nm, qn, bs, hdct, sn, sub, ab, col, dd, k0, k1, k2, k3, k5, mN, hC, hN, hni, T⟩ := exc_obj I.kIn q
  apply wpAny_call_exc_subT F T hC hN hni _ (by show 0 ≤ sizeLine; exact Nat.zero_le _)
  intro h' e hm
  exact mk_of I hm r h (I.hok.gone hm.new)
def sRaise (c : Str) : XS := fun env h => .exc c env h
structure ExcK (K : PySem.W.Frag) (mg : Str → Option Value) (x : Str) (Cl : Addr) : Prop where
  g : mg x = some (.ref Cl)
  ex : PySem.W.excIn K Cl [.type "ValueError", .type "Exception", .type "BaseException", .type "object"] "ValueError.__new__" = true
  kp : PySem.W.keepIn K (.ref Cl) = true
  su : PySem.W.subIn K (.ref Cl) (.type "BaseException") = some true
  ty : PySem.W.typeIn K (.ref Cl) = some (.type "type")
theorem fs_raise {X : Cx} {W : WX} {x : Str} {Cl : Addr} {p pos pos' : Pos} (hc : X.calm = true) (tk : Takes X W) (E : ExcK X.K X.mg x Cl) (hg : Gl X x := by rfl) (hdb : (x == ("__debug__" : Str)) = false := by decide +kernel) :
    FS X W (.Raise (some (.Call (.Name x p) [] [] pos)) none pos') (fun _ σ H => W (.ref Cl) none σ H) (sRaise x) :=
  ⟨ps_raise hc tk (mk_own0 PySem.F.excBase_ValueError E.ex E.g E.kp (raises_own E.su E.ty) hg hdb), ⟨fun {env h ρ σ H Dn} he hh hp => hp ρ σ H Cl Ext.refl hh he E.g⟩⟩

/-! ### repr -/
mutual
/-- no more signs than that -/
def showMost : PyData → Nat
  | .none => 4
  | .bool _ => 5
  | .int _ => 1921
  | .str x => 10 * x.length + 2
  | .list xs => showMostAll xs + 2
  | .tuple xs => showMostAll xs + 3
  | .dict _ => 0
def showMostAll : List PyData → Nat
  | [] => 0
  | x :: r => showMost x + 2 + showMostAll r
end
theorem listText_le (ts : List Str) : (listText ts).length ≤ piled ts + 2 := by
  cases ts with
  | nil => decide +kernel
  | cons t r =>
    unfold listText
    rw [strLen_append]
    have h := textFrom_length_pos r 1 (("[" : Str) ++ (if (0 : Nat) > 0 then ", " else "" : String) ++ t) (Nat.succ_pos 0)
    have e : ((("[" : Str) ++ (if (0 : Nat) > 0 then ", " else "" : String) ++ t)).length = 1 + t.length := by
      rw [strLen_append, strLen_append]
      rfl
    have e2 : (textFrom 0 "[" (t :: r)).length = (textFrom 1 (("[" : Str) ++ (if (0 : Nat) > 0 then ", " else "" : String) ++ t) r).length := rfl
    have e3 : (("]" : String) : Str).length = 1 := rfl
    rw [e2, h, e, piled_cons, e3]
    omega
theorem tupleText_le (ts : List Str) : (tupleText ts).length ≤ piled ts + 3 := by
  unfold tupleText
  rw [strLen_append, strLen_append]
  have e1 : ((("(" : String) : Str)).length = 1 := rfl
  have e3 : (((if ts.length == 1 then ",)" else ")" : String) : Str)).length ≤ 2 := by split <;> decide
  rw [e1]
  by_cases h : ts = []
  · subst h
    have : (Str.join ", " ([] : List Str)).length = 0 := rfl
    omega
  · have := join_length_add ts h
    omega
mutual
theorem shown_le : ∀ d : PyData, d.canLay0 = true → d.showable = true → d.shown.length ≤ showMost d
  | .none, _, _ => by decide +kernel
  | .bool b, _, _ => by cases b <;> decide +kernel
  | .int i, _, h => by
    unfold PyData.showable at h
    exact PyProof.Rows.int_text_len_1921 (of_decide_eq_true h)
  | .str x, h, _ => by
    unfold PyData.canLay0 PyData.strOk at h
    refine StrLaws.reprText_len x fun c hc => ?_
    have := (Array.all_eq_true_iff_forall_mem.mp h) c (Array.mem_toList_iff.mp hc)
    have := of_decide_eq_true this
    omega
  | .list xs, h, h' => by
    unfold PyData.canLay0 at h
    unfold PyData.showable at h'
    unfold PyData.shown showMost
    have := shownAll_le xs h h'
    have := listText_le (PyData.shownAll xs)
    omega
  | .tuple xs, h, h' => by
    unfold PyData.canLay0 at h
    unfold PyData.showable at h'
    unfold PyData.shown showMost
    have := shownAll_le xs h h'
    have := tupleText_le (PyData.shownAll xs)
    omega
  | .dict _, h, _ => by
    unfold PyData.canLay0 at h
    cases h
theorem shownAll_le : ∀ ds : List PyData, PyData.canLayAll0 ds = true → PyData.showableAll ds = true → piled (PyData.shownAll ds) ≤ showMostAll ds
  | [], _, _ => Nat.le_refl _
  | d :: r, h, h' => by
    unfold PyData.canLayAll0 at h
    unfold PyData.showableAll at h'
    rw [Bool.and_eq_true] at h h'
    unfold PyData.shownAll showMostAll
    rw [piled_cons]
    have := shown_le d h.1 h'.1
    have := shownAll_le r h.2 h'.2
    omega
end
def rRepr (K : PySem.W.Frag) : List V → Hp → VK → Prop := fun xs H Q => ∃ x d, xs = [x] ∧ Dp K H x d ∧ d.canLay0 = true ∧ d.showable = true ∧ d.depth ≤ 60 ∧ d.shown.length ≤ sizeLine ∧ Q (.str d.shown) H
theorem cr_repr {X : Cx} {k : Nat} (hr : Room k X.A) (hgd : X.A.guards = some []) : CallR X (.builtin "repr") (rRepr X.K) := by
  intro pins s σ H xs us Q I r h
  obtain ⟨x, d, ex, hd, hl, hs, hdp, hz, q⟩ := h
  subst ex
  obtain ⟨u, eu, ru⟩ := vals1 r
  subst eu
  obtain ⟨as, rd⟩ := Dp.reads I d x u hd ru
  have fin : ∀ (s' : Shared) (t : Tok), Inv X pins σ H s' → EP X pins σ Q (.str d.shown t) s' := fun s' t J => ⟨.str d.shown, H, J, ⟨t, rfl⟩, q⟩
  have hu := hr.units
  cases rd with
  | none => exact P.repr_of_none (fin _ _ (I.tok _))
  | bool b => exact P.repr_of_bool (fin _ _ (I.tok _))
  | int i t =>
    unfold PyData.showable at hs
    exact P.repr_of_int (of_decide_eq_true hs) (fin _ _ (I.tok _))
  | str x t => exact P.repr_of_str (fin _ _ (I.tok _)) hz
  | list h1 h2 h3 h4 =>
    exact repr_of_reads' (.list h1 h2 h3 h4) hs (PyData.noDict_hsm (PyData.hasDict_of_canLay _ hl)) hgd (by omega) (fun _ _ e => e) (fun h' u' tk hk => fin _ _ (I.kept (t' := tk) hk)) hz
  | tuple h1 h2 h3 h4 =>
    exact repr_of_reads' (.tuple h1 h2 h3 h4) hs (PyData.noDict_hsm (PyData.hasDict_of_canLay _ hl)) hgd (by omega) (fun _ _ e => e) (fun h' u' tk hk => fin _ _ (I.kept (t' := tk) hk)) hz
  | dict h1 h2 h3 h4 h5 =>
    unfold PyData.canLay0 at hl
    cases hl
/-- the text of a datum -/
def reprD (d : PyData) : List Nat := d.shown.cps.toList
def okRepr (d : PyData) : Bool := d.canLay0 && d.showable && decide (d.depth ≤ 60) && decide (showMost d ≤ 16000000)
def gRepr : List D → Hs → Res D := fun args h => match args with
  | [d] => match d.tree h 64 with
    | some p => if okRepr p then .ok (.str (reprD p)) h else .stuck
    | none => .stuck
  | _ => .stuck
theorem repr_fin {C : Cc} {ρ : List Addr} {H : Hp} {p : PyData} (ho : okRepr p = true) : p.canLay0 = true ∧ p.showable = true ∧ p.depth ≤ 60 ∧ p.shown.length ≤ sizeLine ∧ Emb C ρ H (.str (reprD p)) (.str p.shown) := by
  unfold okRepr at ho
  simp only [Bool.and_eq_true, decide_eq_true_eq] at ho
  obtain ⟨⟨⟨h1, h2⟩, h3⟩, h4⟩ := ho
  refine ⟨h1, h2, h3, ?_, ?_⟩
  · have := shown_le p h1 h2
    rw [sizeLine_eq]
    omega
  · have e : (⟨(reprD p).toArray⟩ : Str) = p.shown := by
      unfold reprD
      rw [Array.toArray_toList]
    have q := Emb.str (C := C) (ρ := ρ) (H := H) (reprD p)
    rw [e] at q
    exact q
theorem so_repr {C : Cc} {W : WX} : SoC C W (rRepr C.K) gRepr := ⟨fun {h ρ σ H Q ds xs} ok hd hp => by
  unfold gRepr at hp
  split at hp
  · split at hp
    · split at hp
      · rename_i d p e ho
        obtain ⟨v, rfl, hv⟩ := one_arg hd
        obtain ⟨h1, h2, h3, h4, h5⟩ := repr_fin (C := C) (ρ := ρ) (H := H) ho
        exact ⟨v, p, rfl, tree_ok ok 64 _ _ _ e hv, h1, h2, h3, h4, hp ρ H Ext.refl ok _ h5⟩
      · exact hp.elim
    · exact hp.elim
  · exact hp.elim⟩
/-- of a list made for it -/
def gReprL : List D → Hs → Res D := fun ds h => match (treesBy (D.tree h 63) ds).map PyData.list with
  | some p => if okRepr p then .ok (.str (reprD p)) h else .stuck
  | none => .stuck
theorem so_reprF {C : Cc} {W : WX} : SoF C W (rRepr C.K) gReprL := ⟨fun {h ρ σ H Q ds p vs} ok hl hd hp => by
  unfold gReprL at hp
  split at hp
  · rename_i q e
    split at hp
    · rename_i ho
      obtain ⟨h1, h2, h3, h4, h5⟩ := repr_fin (C := C) (ρ := ρ) (H := H) ho
      cases z : treesBy (D.tree h 63) ds with
      | none => rw [z] at e; cases e
      | some ps =>
        rw [z] at e
        cases e
        exact ⟨_, _, rfl, .lst hl (trees_ok (fun d p v => tree_ok ok 63 d p v) z hd), h1, h2, h3, h4, hp ρ H Ext.refl ok _ h5⟩
    · exact hp.elim
  · exact hp.elim⟩
end FL

/-! FM: comprehensions of two clauses, name = [comprehension]. -/
namespace FL
open PySem PySem.Spec PyProof.Rows L2
theorem flc2 {X : Cx} {W : WX} {elt tg iter tg1 iter1 : Expr} {ifs ifs1 : List Expr} {scope : Scope} {own : List (Str × Nat)} {vs1 : List Nat} {pos : Pos} {wi wi1 : TI} {g g1 : TG} {tt tt1 : TT} {te : TE} {src src1 : XI} {G G1 : D → Sl → Option Sl} {t t1 : XB} {f : XE} (hc : X.calm = true) (hN : X.N.Nodup) (hi : FI X W tg iter wi src) (ok : BlkOk X.N X.env.scope scope own) (hv : ∀ i ∈ vs1, i ∈ own.map (·.2))
    (hg : ∀ s H C cl fp, FG (Blk X scope s H C cl fp) (own.map (·.2)) tg g G) (ht : ∀ s H C cl fp, FTs (Blk X scope s H C cl fp) W0 ifs tt t)
    (hi1 : ∀ s H C cl fp, FI (Blk X scope s H C cl fp) W0 tg1 iter1 wi1 src1) (hg1 : ∀ s H C cl fp, FG (Blk X scope s H C cl fp) vs1 tg1 g1 G1) (ht1 : ∀ s H C cl fp, FTs (Blk X scope s H C cl fp) W0 ifs1 tt1 t1)
    (he : ∀ s H C cl fp, FE (Blk X scope s H C cl fp) W0 elt te f) (hs : ∀ x, foldedSetIterable iter X.env x = pure x := by intro _; rfl) (hs1 : ∀ env x, foldedSetIterable iter1 env x = pure x := by intro _ _; rfl) :
    FLs X W (.ListComp elt [⟨tg, iter, ifs, 0⟩, ⟨tg1, iter1, ifs1, 0⟩] scope pos) (tLc2 wi g tt wi1 g1 tt1 te (own.map (·.2)) vs1) (xLc2 src (own.map (·.2)) vs1 G t src1 G1 t1 f) :=
  ⟨pe_lc2 hc hN hi.pi ok hv (fun s H C cl fp => (hg s H C cl fp).pg) (fun s H C cl fp => (ht s H C cl fp).pt) (fun s H C cl fp => (hi1 s H C cl fp).pi) (fun s H C cl fp => (hg1 s H C cl fp).pg) (fun s H C cl fp => (ht1 s H C cl fp).pt) (fun s H C cl fp => (he s H C cl fp).pe) hs hs1,
    so_lc2 hi.so (hg X.s_0 X.H_0 0 [] []).so (ht X.s_0 X.H_0 0 [] []).so (hi1 X.s_0 X.H_0 0 [] []).so (hg1 X.s_0 X.H_0 0 [] []).so (ht1 X.s_0 X.H_0 0 [] []).so (he X.s_0 X.H_0 0 [] []).so⟩
theorem fs_setLc {X : Cx} {W : WX} {i : Nat} {y : Str} {py : Pos} {elt tg iter : Expr} {ifs : List Expr} {scope : Scope} {own : List (Str × Nat)} {pos spos : Pos} {wi : TI} {g : TG} {tt : TT} {te : TE} {src : XI} {G : D → Sl → Option Sl} {t : XB} {f : XE} (hc : X.calm = true) (hN : X.N.Nodup) (hi : FI X W tg iter wi src) (ok : BlkOk X.N X.env.scope scope own)
    (hg : ∀ s H C cl fp, FG (Blk X scope s H C cl fp) (own.map (·.2)) tg g G) (ht : ∀ s H C cl fp, FTs (Blk X scope s H C cl fp) W0 ifs tt t) (he : ∀ s H C cl fp, FE (Blk X scope s H C cl fp) W0 elt te f) (hy : X.N[i]? = some y := by rfl) (hyl : X.env.scope.names.lookup y = some .local := by rfl) (hk : X.env.scope.kind = .function := by rfl)
    (hl : (py.line == pos.line) = true := by rfl) (ha : (scope.names.any fun (n, k) => n == y && (k == .local || k == .cell)) = false := by decide +kernel) (hs : ∀ x, foldedSetIterable iter X.env x = pure x := by intro _; rfl) :
    FS X W (.Assign [.Name y py] (.ListComp elt [⟨tg, iter, ifs, 0⟩] scope pos) spos) (tAsg (tLc wi g tt te (own.map (·.2))) (gName i)) (sAsg (xNew (xLc src (own.map (·.2)) G t f)) (gSet i)) :=
  ⟨ps_setLc hc hN hy hyl (sw_true hk hyl hl ha) hi.pi ok (fun s H C cl fp => (hg s H C cl fp).pg) (fun s H C cl fp => (ht s H C cl fp).pt) (fun s H C cl fp => (he s H C cl fp).pe) hs,
    so_asg (vs := [i]) (flc (pos := pos) hc hN hi ok hg ht he hs).val.so (so_gname (by simp))⟩
theorem fs_setLc2 {X : Cx} {W : WX} {i : Nat} {y : Str} {py : Pos} {elt tg iter tg1 iter1 : Expr} {ifs ifs1 : List Expr} {scope : Scope} {own : List (Str × Nat)} {vs1 : List Nat} {pos spos : Pos} {wi wi1 : TI} {g g1 : TG} {tt tt1 : TT} {te : TE} {src src1 : XI} {G G1 : D → Sl → Option Sl} {t t1 : XB} {f : XE} (hc : X.calm = true) (hN : X.N.Nodup) (hi : FI X W tg iter wi src) (ok : BlkOk X.N X.env.scope scope own) (hv : ∀ i ∈ vs1, i ∈ own.map (·.2))
    (hg : ∀ s H C cl fp, FG (Blk X scope s H C cl fp) (own.map (·.2)) tg g G) (ht : ∀ s H C cl fp, FTs (Blk X scope s H C cl fp) W0 ifs tt t)
    (hi1 : ∀ s H C cl fp, FI (Blk X scope s H C cl fp) W0 tg1 iter1 wi1 src1) (hg1 : ∀ s H C cl fp, FG (Blk X scope s H C cl fp) vs1 tg1 g1 G1) (ht1 : ∀ s H C cl fp, FTs (Blk X scope s H C cl fp) W0 ifs1 tt1 t1)
    (he : ∀ s H C cl fp, FE (Blk X scope s H C cl fp) W0 elt te f) (hy : X.N[i]? = some y := by rfl) (hyl : X.env.scope.names.lookup y = some .local := by rfl) (hk : X.env.scope.kind = .function := by rfl)
    (hl : (py.line == pos.line) = true := by rfl) (ha : (scope.names.any fun (n, k) => n == y && (k == .local || k == .cell)) = false := by decide +kernel) (hs : ∀ x, foldedSetIterable iter X.env x = pure x := by intro _; rfl) (hs1 : ∀ env x, foldedSetIterable iter1 env x = pure x := by intro _ _; rfl) :
    FS X W (.Assign [.Name y py] (.ListComp elt [⟨tg, iter, ifs, 0⟩, ⟨tg1, iter1, ifs1, 0⟩] scope pos) spos) (tAsg (tLc2 wi g tt wi1 g1 tt1 te (own.map (·.2)) vs1) (gName i)) (sAsg (xNew (xLc2 src (own.map (·.2)) vs1 G t src1 G1 t1 f)) (gSet i)) :=
  ⟨ps_setLc2 hc hN hy hyl (sw_true hk hyl hl ha) hi.pi ok hv (fun s H C cl fp => (hg s H C cl fp).pg) (fun s H C cl fp => (ht s H C cl fp).pt) (fun s H C cl fp => (hi1 s H C cl fp).pi) (fun s H C cl fp => (hg1 s H C cl fp).pg) (fun s H C cl fp => (ht1 s H C cl fp).pt) (fun s H C cl fp => (he s H C cl fp).pe) hs hs1,
    so_asg (vs := [i]) (flc2 (pos := pos) hc hN hi ok hv hg ht hi1 hg1 ht1 he hs hs1).val.so (so_gname (by simp))⟩
end FL

/-! FN: what is known of the program's names. -/
namespace FL
open PySem PySem.Spec PyProof.Rows L2
/-- the name x is a def that computes g -/
structure Kn (P : Program) (w : World) (K : PySem.W.Frag) (mg : Str → Option Value) (base : Heap) (k : Nat) (x : Str) (ps : List Str) (g : Fn) : Prop where
  ex : ∃ f fd, FnS P w K mg base k f fd ps g ∧ mg x = some (.ref f) ∧ PySem.W.keepIn K (.ref f) = true ∧ Binds K fd ps []
theorem takesN {X : Cx} : Takes X W0 := fun _ _ x => by
  obtain ⟨_, _, _, _, _, _, _, _, _, _, _, _, _, _, _, _, z⟩ := x
  exact z.elim
section
variable {X : Cx} {W : WX} {j k : Nat} {ps : List Str} {g : Fn} {x : Str} {p pos : Pos} {e : Expr} {es : List Expr} {t : TA} {fA : XA}
theorem kcall (c : Kn X.prog X.w X.K X.mg X.base j x ps g) (hr : Room k X.A) (hgd : X.A.guards = some []) (tk : Takes X W) (ha : FAs X W (e :: es) t fA) (hjk : j ≤ k := by decide)
    (hg : Gl X x := by rfl) (hdb : (x == ("__debug__" : Str)) = false := by decide +kernel) (he : starEach (e :: es) X.env = (false, eval e X.env) :: starEach es X.env := by rfl) (hpl : (backTo pos (starEach es X.env)).any (·.1) = false := by rfl) :
    FE X W (.Call (.Name x p) (e :: es) [] pos) (tCallF (cc X) W g t) (xCall g fA) := by
  obtain ⟨f, fd, F, hm, hk, hb⟩ := c.ex
  exact fcall F (hr.mono hjk) hgd hm hk hb tk ha hg hdb he hpl
theorem kcallH (c : Kn X.prog X.w X.K X.mg X.base j x ps g) (hr : Room k X.A) (hgd : X.A.guards = some []) (tk : Takes X W) (ha : FAs X W (e :: es) t fA) (hjk : j ≤ k := by decide)
    (hg : Gl X x := by rfl) (hdb : (x == ("__debug__" : Str)) = false := by decide +kernel) (he : starEach (e :: es) X.env = (false, eval e X.env) :: starEach es X.env := by rfl) (hpl : (backTo pos (starEach es X.env)).any (·.1) = false := by rfl) :
    FE X W (.Call (.Name x p) (e :: es) [] pos) (tCallF (cc X) W g t) (xCallH g fA) := by
  obtain ⟨f, fd, F, hm, hk, hb⟩ := c.ex
  exact fcallH F (hr.mono hjk) hgd hm hk hb tk ha hg hdb he hpl
theorem kcall0 (c : Kn X.prog X.w X.K X.mg X.base j x ps g) (hr : Room k X.A) (hgd : X.A.guards = some []) (tk : Takes X W) (hjk : j ≤ k := by decide)
    (hg : Gl X x := by rfl) (hdb : (x == ("__debug__" : Str)) = false := by decide +kernel) : FE X W (.Call (.Name x p) [] [] pos) (tCallF (cc X) W g tNil) (xCall g xNil) := by
  obtain ⟨f, fd, F, hm, hk, hb⟩ := c.ex
  exact fcall0 F (hr.mono hjk) hgd hm hk hb tk hg hdb
theorem kgi {x : Str} {i : Int} {pos : Pos} (h : ∃ t, X.mg x = some (.int i t)) (hg : Gl X x := by rfl) (hd : (x == ("__debug__" : Str)) = false := by decide +kernel) : FE X W (.Name x pos) (tC (.int i)) (xC (.int i)) := by
  obtain ⟨t, h⟩ := h
  exact fgi hg h hd
theorem kgs {x : Str} {cs : List Nat} {pos : Pos} (h : ∃ t, X.mg x = some (.str ⟨cs.toArray⟩ t)) (hg : Gl X x := by rfl) (hd : (x == ("__debug__" : Str)) = false := by decide +kernel) : FE X W (.Name x pos) (tC (.str ⟨cs.toArray⟩)) (xC (.str cs)) := by
  obtain ⟨t, h⟩ := h
  exact fgs cs hg h hd
end
section
variable {P : Program} {w : World} {K : PySem.W.Frag} {mg : Str → Option Value} {base : Heap}
/-- by a body -/
theorem Kn.by_ {x qual : Str} {st : Stmt} {f : Addr} {fd : FuncData} {N ps : List Str} {k np nl : Nat} {b : XS} (F : Fun K x qual st f fd) (m : mg x = some (.ref f)) (hb : Binds K fd ps []) (S : FnScope N ps (defScope st)) (hp : ps.length = np) (hl : N.length - np = nl)
    (body : ∀ (f : Addr) (cdv : Value) (A : Around) (outer : List Env) (s : Shared) (H : Hp) (E : XK), Room k (A.deeper (envOfC qual (defScope st) s.heap.objs.size f cdv)) → A.guards = some [] →
      ∃ t, FSs (cxOf (L2.CX P w) P w K mg base N qual (defScope st) f cdv A outer s H E) (wE E) (defBody st) t b) :
    Kn P w K mg base (k + 1) x ps (fnSem np nl b) := ⟨f, fd, fn_body F S hp hl (body f), m, F.kp, hb⟩
end
theorem tkOf {P : Program} {w : World} {K : PySem.W.Frag} {mg : Str → Option Value} {base : Heap} {N : List Str} {qual : Str} {sc : Scope} {f : Addr} {cdv : Value} {A : Around} {outer : List Env} {s : Shared} {H : Hp} {E : XK} : Takes (cxOf (L2.CX P w) P w K mg base N qual sc f cdv A outer s H E) (wE E) := takes_of rfl rfl rfl rfl
theorem psOf {P : Program} {w : World} {K : PySem.W.Frag} {mg : Str → Option Value} {base : Heap} {N : List Str} {qual : Str} {sc : Scope} {f : Addr} {cdv : Value} {A : Around} {outer : List Env} {s : Shared} {H : Hp} {E : XK} : PassesOwn (model P w) (cxOf (L2.CX P w) P w K mg base N qual sc f cdv A outer s H E).A (cxOf (L2.CX P w) P w K mg base N qual sc f cdv A outer s H E).env (cxOf (L2.CX P w) P w K mg base N qual sc f cdv A outer s H E).xe := passes_of rfl
/-- what the top has written at the name of a def -/
structure Rw (K : PySem.W.Frag) (x : Str) (st : Stmt) : Prop where
  ex : ∃ (f : Addr) (od an : Option Addr) (sl : Array (Option Value)) (oc kV dc pm cd ct : Value), PySem.W.nsIn K mainGlobals x = some (some (.ref f)) ∧
    K.lookup f = some ⟨oc, od, .func (PySem.W.fnOf x x (defArgs st) (defBody st) (defScope st) .none kV dc pm an cd ct), sl⟩ ∧ PySem.W.codeIn K cd x = true ∧ PySem.W.keepIn K (.ref f) = true
theorem mkRw {K : PySem.W.Frag} {x : Str} {st : Stmt} {f : Addr} {od an : Option Addr} {sl : Array (Option Value)} {oc kV dc pm cd ct : Value} (a : PySem.W.nsIn K mainGlobals x = some (some (.ref f)))
    (l : K.lookup f = some ⟨oc, od, .func (PySem.W.fnOf x x (defArgs st) (defBody st) (defScope st) .none kV dc pm an cd ct), sl⟩) (c : PySem.W.codeIn K cd x = true) (k : PySem.W.keepIn K (.ref f) = true) : Rw K x st := ⟨_, _, _, _, _, _, _, _, _, _, a, l, c, k⟩
theorem Rw.fun_ {K : PySem.W.Frag} {x : Str} {st : Stmt} {h : Heap} {mg : Str → Option Value} (r : Rw K x st) (X : K.In h) (G : h.Ns mainGlobals mg) : ∃ f fd, Fun K x x st f fd ∧ mg x = some (.ref f) := by
  obtain ⟨f, od, an, sl, oc, kV, dc, pm, cd, ct, a, l, c, k⟩ := r.ex
  exact ⟨f, _, fun_mk l c k, PySem.W.mg_of X G a⟩
end FL

/-! FM2: comprehensions, the readings of the block's parts as families. -/
namespace FL
open PySem PySem.Spec PyProof.Rows L2
/-- what may name the block -/
abbrev Fam (α : Type) := Shared → Hp → Addr → List (Str × Addr) → List Addr → α
abbrev Fam.at0 {α : Type} (X : Cx) (t : Fam α) : α := t X.s_0 X.H_0 0 [] []
abbrev Fam.Flat {α : Type} (X : Cx) (t : Fam α) : Prop := ∀ s H C cl fp, t s H C cl fp = t.at0 X
section
variable {X : Cx} {W : WX} {i : Nat} {y : Str} {py : Pos} {elt tg iter tg1 iter1 : Expr} {ifs ifs1 : List Expr} {scope : Scope} {own : List (Str × Nat)} {vs1 : List Nat} {pos spos : Pos} {wi : TI} {wi1 : Fam TI} {g g1 : Fam TG} {tt tt1 : Fam TT} {te : Fam TE} {src src1 : XI} {G G1 : D → Sl → Option Sl} {t t1 : XB} {f : XE}
theorem glc (hc : X.calm = true) (hN : X.N.Nodup) (hi : FI X W tg iter wi src) (ok : BlkOk X.N X.env.scope scope own)
    (hg : ∀ s H C cl fp, FG (Blk X scope s H C cl fp) (own.map (·.2)) tg (g s H C cl fp) G) (ht : ∀ s H C cl fp, FTs (Blk X scope s H C cl fp) W0 ifs (tt s H C cl fp) t) (he : ∀ s H C cl fp, FE (Blk X scope s H C cl fp) W0 elt (te s H C cl fp) f)
    (kg : g.Flat X := by intro _ _ _ _ _; rfl) (kt : tt.Flat X := by intro _ _ _ _ _; rfl) (ke : te.Flat X := by intro _ _ _ _ _; rfl) (hs : ∀ x, foldedSetIterable iter X.env x = pure x := by intro _; rfl) :
    FLs X W (.ListComp elt [⟨tg, iter, ifs, 0⟩] scope pos) (tLc wi (g.at0 X) (tt.at0 X) (te.at0 X) (own.map (·.2))) (xLc src (own.map (·.2)) G t f) :=
  flc hc hN hi ok (fun s H C cl fp => kg s H C cl fp ▸ hg s H C cl fp) (fun s H C cl fp => kt s H C cl fp ▸ ht s H C cl fp) (fun s H C cl fp => ke s H C cl fp ▸ he s H C cl fp) hs
theorem gs_setLc (hc : X.calm = true) (hN : X.N.Nodup) (hi : FI X W tg iter wi src) (ok : BlkOk X.N X.env.scope scope own)
    (hg : ∀ s H C cl fp, FG (Blk X scope s H C cl fp) (own.map (·.2)) tg (g s H C cl fp) G) (ht : ∀ s H C cl fp, FTs (Blk X scope s H C cl fp) W0 ifs (tt s H C cl fp) t) (he : ∀ s H C cl fp, FE (Blk X scope s H C cl fp) W0 elt (te s H C cl fp) f)
    (kg : g.Flat X := by intro _ _ _ _ _; rfl) (kt : tt.Flat X := by intro _ _ _ _ _; rfl) (ke : te.Flat X := by intro _ _ _ _ _; rfl)
    (hy : X.N[i]? = some y := by rfl) (hyl : X.env.scope.names.lookup y = some .local := by rfl) (hk : X.env.scope.kind = .function := by rfl)
    (hl : (py.line == pos.line) = true := by rfl) (ha : (scope.names.any fun (n, k) => n == y && (k == .local || k == .cell)) = false := by decide +kernel) (hs : ∀ x, foldedSetIterable iter X.env x = pure x := by intro _; rfl) :
    FS X W (.Assign [.Name y py] (.ListComp elt [⟨tg, iter, ifs, 0⟩] scope pos) spos) (tAsg (tLc wi (g.at0 X) (tt.at0 X) (te.at0 X) (own.map (·.2))) (gName i)) (sAsg (xNew (xLc src (own.map (·.2)) G t f)) (gSet i)) :=
  fs_setLc hc hN hi ok (fun s H C cl fp => kg s H C cl fp ▸ hg s H C cl fp) (fun s H C cl fp => kt s H C cl fp ▸ ht s H C cl fp) (fun s H C cl fp => ke s H C cl fp ▸ he s H C cl fp) hy hyl hk hl ha hs
theorem glc2 (hc : X.calm = true) (hN : X.N.Nodup) (hi : FI X W tg iter wi src) (ok : BlkOk X.N X.env.scope scope own) (hv : ∀ i ∈ vs1, i ∈ own.map (·.2))
    (hg : ∀ s H C cl fp, FG (Blk X scope s H C cl fp) (own.map (·.2)) tg (g s H C cl fp) G) (ht : ∀ s H C cl fp, FTs (Blk X scope s H C cl fp) W0 ifs (tt s H C cl fp) t)
    (hi1 : ∀ s H C cl fp, FI (Blk X scope s H C cl fp) W0 tg1 iter1 (wi1 s H C cl fp) src1) (hg1 : ∀ s H C cl fp, FG (Blk X scope s H C cl fp) vs1 tg1 (g1 s H C cl fp) G1) (ht1 : ∀ s H C cl fp, FTs (Blk X scope s H C cl fp) W0 ifs1 (tt1 s H C cl fp) t1)
    (he : ∀ s H C cl fp, FE (Blk X scope s H C cl fp) W0 elt (te s H C cl fp) f)
    (kg : g.Flat X := by intro _ _ _ _ _; rfl) (kt : tt.Flat X := by intro _ _ _ _ _; rfl) (ki : wi1.Flat X := by intro _ _ _ _ _; rfl) (kg1 : g1.Flat X := by intro _ _ _ _ _; rfl) (kt1 : tt1.Flat X := by intro _ _ _ _ _; rfl) (ke : te.Flat X := by intro _ _ _ _ _; rfl)
    (hs : ∀ x, foldedSetIterable iter X.env x = pure x := by intro _; rfl) (hs1 : ∀ env x, foldedSetIterable iter1 env x = pure x := by intro _ _; rfl) :
    FLs X W (.ListComp elt [⟨tg, iter, ifs, 0⟩, ⟨tg1, iter1, ifs1, 0⟩] scope pos) (tLc2 wi (g.at0 X) (tt.at0 X) (wi1.at0 X) (g1.at0 X) (tt1.at0 X) (te.at0 X) (own.map (·.2)) vs1) (xLc2 src (own.map (·.2)) vs1 G t src1 G1 t1 f) :=
  flc2 hc hN hi ok hv (fun s H C cl fp => kg s H C cl fp ▸ hg s H C cl fp) (fun s H C cl fp => kt s H C cl fp ▸ ht s H C cl fp) (fun s H C cl fp => ki s H C cl fp ▸ hi1 s H C cl fp) (fun s H C cl fp => kg1 s H C cl fp ▸ hg1 s H C cl fp) (fun s H C cl fp => kt1 s H C cl fp ▸ ht1 s H C cl fp) (fun s H C cl fp => ke s H C cl fp ▸ he s H C cl fp) hs hs1
theorem gs_setLc2 (hc : X.calm = true) (hN : X.N.Nodup) (hi : FI X W tg iter wi src) (ok : BlkOk X.N X.env.scope scope own) (hv : ∀ i ∈ vs1, i ∈ own.map (·.2))
    (hg : ∀ s H C cl fp, FG (Blk X scope s H C cl fp) (own.map (·.2)) tg (g s H C cl fp) G) (ht : ∀ s H C cl fp, FTs (Blk X scope s H C cl fp) W0 ifs (tt s H C cl fp) t)
    (hi1 : ∀ s H C cl fp, FI (Blk X scope s H C cl fp) W0 tg1 iter1 (wi1 s H C cl fp) src1) (hg1 : ∀ s H C cl fp, FG (Blk X scope s H C cl fp) vs1 tg1 (g1 s H C cl fp) G1) (ht1 : ∀ s H C cl fp, FTs (Blk X scope s H C cl fp) W0 ifs1 (tt1 s H C cl fp) t1)
    (he : ∀ s H C cl fp, FE (Blk X scope s H C cl fp) W0 elt (te s H C cl fp) f)
    (kg : g.Flat X := by intro _ _ _ _ _; rfl) (kt : tt.Flat X := by intro _ _ _ _ _; rfl) (ki : wi1.Flat X := by intro _ _ _ _ _; rfl) (kg1 : g1.Flat X := by intro _ _ _ _ _; rfl) (kt1 : tt1.Flat X := by intro _ _ _ _ _; rfl) (ke : te.Flat X := by intro _ _ _ _ _; rfl)
    (hy : X.N[i]? = some y := by rfl) (hyl : X.env.scope.names.lookup y = some .local := by rfl) (hk : X.env.scope.kind = .function := by rfl)
    (hl : (py.line == pos.line) = true := by rfl) (ha : (scope.names.any fun (n, k) => n == y && (k == .local || k == .cell)) = false := by decide +kernel)
    (hs : ∀ x, foldedSetIterable iter X.env x = pure x := by intro _; rfl) (hs1 : ∀ env x, foldedSetIterable iter1 env x = pure x := by intro _ _; rfl) :
    FS X W (.Assign [.Name y py] (.ListComp elt [⟨tg, iter, ifs, 0⟩, ⟨tg1, iter1, ifs1, 0⟩] scope pos) spos) (tAsg (tLc2 wi (g.at0 X) (tt.at0 X) (wi1.at0 X) (g1.at0 X) (tt1.at0 X) (te.at0 X) (own.map (·.2)) vs1) (gName i)) (sAsg (xNew (xLc2 src (own.map (·.2)) vs1 G t src1 G1 t1 f)) (gSet i)) :=
  fs_setLc2 hc hN hi ok hv (fun s H C cl fp => kg s H C cl fp ▸ hg s H C cl fp) (fun s H C cl fp => kt s H C cl fp ▸ ht s H C cl fp) (fun s H C cl fp => ki s H C cl fp ▸ hi1 s H C cl fp) (fun s H C cl fp => kg1 s H C cl fp ▸ hg1 s H C cl fp) (fun s H C cl fp => kt1 s H C cl fp ▸ ht1 s H C cl fp) (fun s H C cl fp => ke s H C cl fp ▸ he s H C cl fp) hy hyl hk hl ha hs hs1
end
end FL

/-! FT: heaps kept small. -/
namespace FL
open PySem PySem.Spec PyProof.Rows L2
/-! ### of data without references: over the empty heap -/
def pureEnv (env : Sl) : Sl := env.map fun o => match o with
  | some d => if d.pure then some d else none
  | none => none
theorem EnvOk.pures {C : Cc} {ρ ρ1 : List Addr} {H : Hp} {env : Sl} {σ : L2.St} (he : EnvOk C ρ H env σ) : EnvOk C ρ1 H (pureEnv env) σ := by
  refine ⟨by unfold pureEnv; rw [List.length_map]; exact he.len, fun i d e => ?_⟩
  unfold pureEnv at e
  rw [List.getElem?_map] at e
  cases q : env[i]? with
  | none => rw [q] at e; cases e
  | some o =>
    rw [q] at e
    cases o with
    | none => cases e
    | some d' =>
      have e' : (if d'.pure then some d' else none) = some d := Option.some.inj e
      split at e'
      · rename_i hp
        cases e'
        obtain ⟨v, q1, q2⟩ := he.at_ i d q
        exact ⟨v, q1, q2.pure hp⟩
      · cases e'
def xIso (f : XE) : XE := fun env h => match f (pureEnv env) [] with
  | .ok d _ => if d.pure then .ok d h else .stuck
  | _ => .stuck
theorem so_iso {C : Cc} {W : WX} {te : TE} {f : XE} (s : SoE C W te f) : SoE C W te (xIso f) := ⟨fun {env h ρ σ H Q} he hh hp => by
  refine s.go (ρ := []) he.pures HeapOk.nil ?_
  unfold xIso at hp
  revert hp
  cases f (pureEnv env) [] with
  | ok d h' =>
    intro hp ρ' H' e1 ok1 v hv
    dsimp only at hp
    split at hp
    · rename_i hd
      exact hp ρ H' (ext_nil (C := C) (h1 := h) e1) (heap_nil e1 hh) v (hv.pure hd)
    · exact hp.elim
  | exc c h' => exact fun hp => hp.elim
  | stuck => exact fun hp => hp⟩
theorem fiso {X : Cx} {W : WX} {e : Expr} {te : TE} {f : XE} (h : FE X W e te f) : FE X W e te (xIso f) := ⟨h.pe, so_iso h.so⟩
end FL

/-! FU: the hand: what a law draws from. -/
namespace FL
open PySem PySem.Spec PyProof.Rows L2
/-- the drawing, by its constants -/
def bDraw (mix : XE) (c1 a4 m4 : Int) : XS := (sSeq (sIf (xAndB (xTest (xOp dEq (xOp gIx (xVar 0) (xC (.int (2)))) (xC (.int (0))))) (xTest (xOp dLt (xOp gIx (xVar 0) (xC (.int (1)))) (xB gLen (xCons (xOp gIx (xVar 0) (xC (.int (0)))) xNil))))) (sSeq (sAsg (xOp gIx (xOp gIx (xVar 0) (xC (.int (0)))) (xOp gIx (xVar 0) (xC (.int (1))))) (gSet 2))
  (sSeq (sSetIx (xOp dAdd (xOp gIx (xVar 0) (xC (.int (1)))) (xC (.int (1)))) (xVar 0) (xC (.int (1))))
  (sSeq (sSetIx (xOp dMod (xB gInt (xCons mix xNil)) (xC (.int (2147483629)))) (xVar 0) (xC (.int (3))))
  (sIf (xTest (xOp dGe (xVar 2) (xOp dPow (xC (.int (10))) (xC (.int (18)))))) (sSetIx (xVar 2) (xVar 0) (xC (.int (2)))) sNext)))) sNext)
  (sSeq (sIf (xTest (xOp dGt (xOp gIx (xVar 0) (xC (.int (2)))) (xC (.int (0))))) (sSeq (sAsg (xOp dMod (xB gInt (xCons (xOp gIx (xVar 0) (xC (.int (2)))) xNil)) (xVar 1)) (gSet 3))
  (sSeq (sSetIx (xOp dDiv (xOp gIx (xVar 0) (xC (.int (2)))) (xVar 1)) (xVar 0) (xC (.int (2))))
  (sRet (xVar 3)))) sNext)
  (sSeq (sSetIx (xOp dAdd (xOp gIx (xVar 0) (xC (.int (4)))) (xC (.int (1)))) (xVar 0) (xC (.int (4))))
  (sSeq (sAsg (xOp dMod (xB gInt (xCons (xOp dMulI (xB gInt (xCons (xOp dAdd (xOp gIx (xVar 0) (xC (.int (3)))) (xOp dMulI (xC (.int (7919))) (xOp gIx (xVar 0) (xC (.int (4)))))) xNil)) (xC (.int c1))) xNil)) (xC (.int (2147483647)))) (gSet 4))
  (sSeq (sAsg (xOp dMod (xB gInt (xCons (xOp dMulI (xVar 4) (xOp dAdd (xOp dDiv (xVar 4) (xC (.int (1009)))) (xC (.int (69621))))) xNil)) (xC (.int (2147483647)))) (gSet 4))
  (sSeq (sAsg (xOp dMod (xB gInt (xCons (xOp dMulI (xVar 4) (xOp dAdd (xOp dDiv (xVar 4) (xC (.int (2003)))) (xC (.int a4)))) xNil)) (xC (.int m4))) (gSet 4))
  (sRet (xOp dMod (xB gInt (xCons (xOp dDiv (xVar 4) (xC (.int (16)))) xNil)) (xVar 1)))))))))
def mixA (k : Int) : XE := xOp dAdd (xOp dAdd (xOp dMulI (xOp gIx (xVar 0) (xC (.int (3)))) (xC (.int (69621)))) (xVar 2)) (xC (.int k))
def mixM (m k : Int) : XE := xOp dAdd (xOp dAdd (xOp dMulI (xOp gIx (xVar 0) (xC (.int (3)))) (xC (.int (69621)))) (xOp dMulI (xVar 2) (xC (.int m)))) (xC (.int k))
abbrev hnd (ci : Nat) (p q r c : Int) : List D := [.ref ci, .int p, .int q, .int r, .int c]
/-- numbers that a product bears -/
def Big (z : Int) : Prop := 0 ≤ z ∧ z.natAbs.log2 ≤ 2000000
theorem Big.of {z : Int} (h : 0 ≤ z) (h2 : z < 18446744073709551616) : Big z := ⟨h, by
  by_cases e : z.natAbs = 0
  · rw [e]; decide
  · have : z.natAbs.log2 < 64 := (Nat.log2_lt e).mpr (by omega)
    omega⟩
theorem Big.div {z m : Int} (h : Big z) (hm : 0 < m) : Big (z / m) := by
  obtain ⟨h0, h1⟩ := h
  refine ⟨Int.ediv_nonneg h0 (by omega), ?_⟩
  have e : (z / m).natAbs ≤ z.natAbs := by
    have := Int.ediv_le_self m h0
    have := Int.ediv_nonneg h0 (Int.le_of_lt hm)
    omega
  by_cases z0 : (z / m).natAbs = 0
  · rw [z0]; show Nat.log2 0 ≤ _; decide
  · have hz : z.natAbs ≠ 0 := by omega
    exact Nat.le_trans ((Nat.le_log2 hz).mpr (Nat.le_trans (Nat.log2_self_le z0) e)) h1
theorem fits_small {i j : Int} (h1 : 0 ≤ i) (h2 : i < 18446744073709551616) (h3 : 0 ≤ j) (h4 : j < 18446744073709551616) : mulFits i j = true := by
  unfold mulFits
  rw [Bool.or_eq_true, Bool.and_eq_true]
  exact .inl ⟨decide_eq_true (by omega), decide_eq_true (by omega)⟩
theorem Big.fits {i j : Int} (h : Big i) (h3 : Big j) : mulFits i j = true := by
  unfold mulFits
  rw [Bool.or_eq_true]
  have := h.2
  have := h3.2
  exact .inr (decide_eq_true (by omega))
/-- the hand at hi, after at most n draws -/
structure Hand (h : Hs) (hi : Nat) (n : Nat) (p q r c : Int) (ci : Nat) (cells : List Int) : Prop where
  at_ : h[hi]? = some (.lst (hnd ci p q r c))
  ne : ci ≠ hi
  cs : h[ci]? = some (.lst (cells.map .int))
  big : ∀ z ∈ cells, Big z
  p0 : 0 ≤ p
  q0 : Big q
  r0 : 0 ≤ r
  r1 : r < 4294967296
  c0 : 0 ≤ c
  c1 : c ≤ n
def IsHand (h : Hs) (hi n : Nat) : Prop := ∃ p q r c ci cells, Hand h hi n p q r c ci cells
theorem lt_of_get {α : Type} {l : List α} {i : Nat} {a : α} (h : l[i]? = some a) : i < l.length := (List.getElem?_eq_some_iff.mp h).1
/-- from behind the first part -/
def bDraw2 (c1 a4 m4 : Int) : XS := (sSeq (sIf (xTest (xOp dGt (xOp gIx (xVar 0) (xC (.int (2)))) (xC (.int (0))))) (sSeq (sAsg (xOp dMod (xB gInt (xCons (xOp gIx (xVar 0) (xC (.int (2)))) xNil)) (xVar 1)) (gSet 3))
  (sSeq (sSetIx (xOp dDiv (xOp gIx (xVar 0) (xC (.int (2)))) (xVar 1)) (xVar 0) (xC (.int (2))))
  (sRet (xVar 3)))) sNext)
  (sSeq (sSetIx (xOp dAdd (xOp gIx (xVar 0) (xC (.int (4)))) (xC (.int (1)))) (xVar 0) (xC (.int (4))))
  (sSeq (sAsg (xOp dMod (xB gInt (xCons (xOp dMulI (xB gInt (xCons (xOp dAdd (xOp gIx (xVar 0) (xC (.int (3)))) (xOp dMulI (xC (.int (7919))) (xOp gIx (xVar 0) (xC (.int (4)))))) xNil)) (xC (.int c1))) xNil)) (xC (.int (2147483647)))) (gSet 4))
  (sSeq (sAsg (xOp dMod (xB gInt (xCons (xOp dMulI (xVar 4) (xOp dAdd (xOp dDiv (xVar 4) (xC (.int (1009)))) (xC (.int (69621))))) xNil)) (xC (.int (2147483647)))) (gSet 4))
  (sSeq (sAsg (xOp dMod (xB gInt (xCons (xOp dMulI (xVar 4) (xOp dAdd (xOp dDiv (xVar 4) (xC (.int (2003)))) (xC (.int a4)))) xNil)) (xC (.int m4))) (gSet 4))
  (sRet (xOp dMod (xB gInt (xCons (xOp dDiv (xVar 4) (xC (.int (16)))) xNil)) (xVar 1))))))))
theorem draw2 {h : Hs} {hi n ci : Nat} {p q r c : Int} {cells : List Int} {c1 a4 m4 many : Int} {x2 x3 x4 : Option D} (hh : Hand h hi n p q r c ci cells) (hn : n < 1000000) (hm : 0 < many) (hm2 : many < 1000000) (hc : 0 ≤ c1) (hc2 : c1 < 1000000) (ha : 0 ≤ a4) (ha2 : a4 < 1000000) (h4 : 0 < m4) (h42 : m4 < 4294967296) :
    ∃ z o, bDraw2 c1 a4 m4 [some (.ref hi), some (.int many), x2, x3, x4] h = .rt (.int z) (h.set hi o) ∧ 0 ≤ z ∧ z < many ∧ IsHand (h.set hi o) hi (n + 1) := by
  have hl := lt_of_get hh.at_
  have hne : ∀ o : Ob, (h.set hi o)[ci]? = some (.lst (cells.map .int)) := fun o => by
    rw [List.getElem?_set_ne (fun e => hh.ne e.symm)]
    exact hh.cs
  have hat : ∀ o : Ob, (h.set hi o)[hi]? = some o := fun o => List.getElem?_set_self hl
  have g : ∀ (k : Int) (d : D), atI (hnd ci p q r c) k = some d → gIx (.ref hi) (.int k) h = .ok d h := fun k d e => by
    unfold gIx D.seq
    simp only [hh.at_, e]
  have dv : divFits many = true := by
    unfold divFits
    rw [Bool.and_eq_true, Bool.or_eq_true]
    exact ⟨decide_eq_true hm, .inl (decide_eq_true (by omega))⟩
  by_cases hq : 0 < q
  · refine ⟨q % many, .lst (hnd ci p (q / many) r c), ?_, Int.emod_nonneg _ (by omega), Int.emod_lt_of_pos _ hm, p, q / many, r, c, ci, cells, hat _, hh.ne, hne _, hh.big, hh.p0, hh.q0.div hm, hh.r0, hh.r1, hh.c0, by have := hh.c1; omega⟩
    simp [bDraw2, sSeq, sIf, xTest, xOp, xVar, xC, Res.bind, g 2 (.int q) rfl, dGt, dI0, Res.andS, hq, SRes.seq, sAsg, xB, xCons, xNil, gInt, dMod, dI, hm, gSet, sSetIx, dDiv, dv, hh.at_, ixN, sRet]
  · have q0 : q = 0 := by have := hh.q0.1; omega
    have := hh.c0
    have := hh.c1
    have := hh.r0
    have := hh.r1
    have f1 : mulFits 7919 (c + 1) = true := fits_small (by omega) (by omega) (by omega) (by omega)
    have f2 : mulFits (r + 7919 * (c + 1)) c1 = true := fits_small (by omega) (by omega) hc (by omega)
    generalize hw : h.set hi (.lst (hnd ci p q r (c + 1))) = h2
    have at2 : h2[hi]? = some (.lst (hnd ci p q r (c + 1))) := by rw [← hw]; exact hat _
    have g2 : ∀ (k : Int) (d : D), atI (hnd ci p q r (c + 1)) k = some d → gIx (.ref hi) (.int k) h2 = .ok d h2 := fun k d e => by
      unfold gIx D.seq
      simp only [at2, e]
    generalize hA : (r + 7919 * (c + 1)) * c1 % 2147483647 = A
    have a0 : 0 ≤ A := by rw [← hA]; exact Int.emod_nonneg _ (by decide)
    have a1 : A < 2147483647 := by rw [← hA]; exact Int.emod_lt_of_pos _ (by decide)
    have f3 : mulFits A (A / 1009 + 69621) = true := fits_small (by omega) (by omega) (by omega) (by omega)
    generalize hB : A * (A / 1009 + 69621) % 2147483647 = B
    have b0 : 0 ≤ B := by rw [← hB]; exact Int.emod_nonneg _ (by decide)
    have b1 : B < 2147483647 := by rw [← hB]; exact Int.emod_lt_of_pos _ (by decide)
    have f4 : mulFits B (B / 2003 + a4) = true := fits_small (by omega) (by omega) (by omega) (by omega)
    generalize hC : B * (B / 2003 + a4) % m4 = E
    refine ⟨E / 16 % many, .lst (hnd ci p q r (c + 1)), ?_, Int.emod_nonneg _ (by omega), Int.emod_lt_of_pos _ hm, p, q, r, c + 1, ci, cells, hat _, hh.ne, hne _, hh.big, hh.p0, hh.q0, hh.r0, hh.r1, by omega, by omega⟩
    have d1 : divFits 1009 = true := by decide +kernel
    have d2 : divFits 2003 = true := by decide +kernel
    have d3 : divFits 16 = true := by decide +kernel
    rw [hw]
    simp [bDraw2, sSeq, sIf, xTest, xOp, xVar, xC, Res.bind, g 2 (.int q) rfl, g 4 (.int c) rfl, dGt, dI0, Res.andS, hq, sNext, SRes.seq, sAsg, xB, xCons, xNil, gInt, dMod, dI, hm, gSet, sSetIx, dDiv, dAdd, dMulI, f1, f2, d1, d2, d3, hA, f3, hB, f4, hC, h4, hh.at_, hw, ixN, sRet, g2 3 (.int r) rfl, g2 4 (.int (c + 1)) rfl]
structure MixOk (mix : XE) : Prop where
  go : ∀ {env h hi ci p q r c cell}, env[0]? = some (some (.ref hi)) → env[2]? = some (some (.int cell)) → h[hi]? = some (.lst (hnd ci p q r c)) → 0 ≤ r → r < 4294967296 → Big cell → ∃ z, mix env h = .ok (.int z) h
theorem mixA_ok {k : Int} : MixOk (mixA k) := ⟨fun {env h hi ci p q r c cell} h1 h2 h3 h4 h5 h6 => by
  have g : gIx (.ref hi) (.int 3) h = .ok (.int r) h := by
    unfold gIx D.seq
    simp only [h3]
    rfl
  have f1 : mulFits r 69621 = true := fits_small (by omega) (by omega) (by omega) (by omega)
  exact ⟨r * 69621 + cell + k, by simp [mixA, xOp, xVar, h1, h2, Res.bind, xC, g, dMulI, dI, f1, dAdd]⟩⟩
theorem mixM_ok {m k : Int} (hm : 0 ≤ m) (hm2 : m < 1000000) : MixOk (mixM m k) := ⟨fun {env h hi ci p q r c cell} h1 h2 h3 h4 h5 h6 => by
  have g : gIx (.ref hi) (.int 3) h = .ok (.int r) h := by
    unfold gIx D.seq
    simp only [h3]
    rfl
  have f1 : mulFits r 69621 = true := fits_small (by omega) (by omega) (by omega) (by omega)
  have f2 : mulFits cell m = true := h6.fits (.of hm (by omega))
  exact ⟨r * 69621 + cell * m + k, by simp [mixM, xOp, xVar, h1, h2, Res.bind, xC, g, dMulI, dI, f1, f2, dAdd]⟩⟩
theorem set_same {α : Type} : ∀ {l : List α} {i : Nat} {a : α}, l[i]? = some a → l = l.set i a
  | [], _, _, h => by simp at h
  | x :: r, 0, a, h => by
    have e : x = a := Option.some.inj h
    rw [e]
    rfl
  | x :: r, i + 1, a, h => by
    show x :: r = x :: r.set i a
    rw [← set_same (l := r) (i := i) h]
theorem draw_ok {mix : XE} {h : Hs} {hi n : Nat} {c1 a4 m4 many : Int} (hx : MixOk mix) (hh : IsHand h hi n) (hn : n < 1000000) (hm : 0 < many) (hm2 : many < 1000000) (hc : 0 ≤ c1) (hc2 : c1 < 1000000) (ha : 0 ≤ a4) (ha2 : a4 < 1000000) (h4 : 0 < m4) (h42 : m4 < 4294967296) :
    ∃ z o, fnSem 2 3 (bDraw mix c1 a4 m4) [.ref hi, .int many] h = .ok (.int z) (h.set hi o) ∧ 0 ≤ z ∧ z < many ∧ IsHand (h.set hi o) hi (n + 1) := by
  obtain ⟨p, q, r, c, ci, cells, hh⟩ := hh
  have hl := lt_of_get hh.at_
  have g : ∀ (k : Int) (d : D), atI (hnd ci p q r c) k = some d → gIx (.ref hi) (.int k) h = .ok d h := fun k d e => by
    unfold gIx D.seq
    simp only [hh.at_, e]
  have gl : gLen [.ref ci] h = .ok (.int cells.length) h := by
    unfold gLen D.seq
    simp only [hh.cs, List.length_map]
  have eq0 : dEq (.int q) (.int 0) h = .ok (.bl (decide (q = 0))) h := by
    unfold dEq dEqv
    rfl
  have fin : ∀ {h1 : Hs} {e2 : Option D} {p' q' r' : Int}, (∃ o, h1 = h.set hi o) → Hand h1 hi n p' q' r' c ci cells →
      ((sIf (xAndB (xTest (xOp dEq (xOp gIx (xVar 0) (xC (.int (2)))) (xC (.int (0))))) (xTest (xOp dLt (xOp gIx (xVar 0) (xC (.int (1)))) (xB gLen (xCons (xOp gIx (xVar 0) (xC (.int (0)))) xNil))))) (sSeq (sAsg (xOp gIx (xOp gIx (xVar 0) (xC (.int (0)))) (xOp gIx (xVar 0) (xC (.int (1))))) (gSet 2))
  (sSeq (sSetIx (xOp dAdd (xOp gIx (xVar 0) (xC (.int (1)))) (xC (.int (1)))) (xVar 0) (xC (.int (1))))
  (sSeq (sSetIx (xOp dMod (xB gInt (xCons mix xNil)) (xC (.int (2147483629)))) (xVar 0) (xC (.int (3))))
  (sIf (xTest (xOp dGe (xVar 2) (xOp dPow (xC (.int (10))) (xC (.int (18)))))) (sSetIx (xVar 2) (xVar 0) (xC (.int (2)))) sNext)))) sNext) [some (.ref hi), some (.int many), none, none, none] h = .nx [some (.ref hi), some (.int many), e2, none, none] h1) →
      ∃ z o, fnSem 2 3 (bDraw mix c1 a4 m4) [.ref hi, .int many] h = .ok (.int z) (h.set hi o) ∧ 0 ≤ z ∧ z < many ∧ IsHand (h.set hi o) hi (n + 1) := fun {h1 e2 p' q' r'} ho k1 k2 => by
    obtain ⟨o1, ho⟩ := ho
    obtain ⟨z, o, w1, w2, w3, w4⟩ := draw2 (x2 := e2) (x3 := none) (x4 := none) k1 hn hm hm2 hc hc2 ha ha2 h4 h42
    have es : h1.set hi o = h.set hi o := by rw [ho, List.set_set]
    rw [es] at w1 w4
    refine ⟨z, o, ?_, w2, w3, w4⟩
    show retOf (SRes.seq ((sIf _ _ _) [some (.ref hi), some (.int many), none, none, none] h) (bDraw2 c1 a4 m4)) = _
    rw [k2]
    unfold SRes.seq
    dsimp only
    rw [w1]
    rfl
  by_cases hq : q = 0
  · subst hq
    by_cases hp : p < cells.length
    · have hp0 := hh.p0
      have hpn : p.toNat < cells.length := by omega
      generalize hcell : cells[p.toNat] = cell
      have hbig : Big cell := hh.big _ (by rw [← hcell]; exact List.getElem_mem hpn)
      have gc : gIx (.ref ci) (.int p) h = .ok (.int cell) h := by
        have e : atI (cells.map D.int) p = some (.int cell) := by
          unfold atI ixN
          rw [List.length_map, if_pos hp0, if_pos hp, Option.bind_some, List.getElem?_map, List.getElem?_eq_getElem hpn, hcell]
          rfl
        unfold gIx D.seq
        simp only [hh.cs, e]
      generalize hw : h.set hi (.lst (hnd ci (p + 1) 0 r c)) = h2
      have at2 : h2[hi]? = some (.lst (hnd ci (p + 1) 0 r c)) := by rw [← hw]; exact List.getElem?_set_self hl
      have hl2 : hi < h2.length := lt_of_get at2
      obtain ⟨mz, hmz⟩ := hx.go (env := [some (.ref hi), some (.int many), some (.int cell), none, none]) (h := h2) (cell := cell) rfl rfl at2 hh.r0 hh.r1 hbig
      generalize hR : mz % 2147483629 = R
      have r0 : 0 ≤ R := by rw [← hR]; exact Int.emod_nonneg _ (by decide)
      have r1 : R < 2147483629 := by rw [← hR]; exact Int.emod_lt_of_pos _ (by decide)
      generalize hw3 : h2.set hi (.lst (hnd ci (p + 1) 0 R c)) = h3
      have at3 : h3[hi]? = some (.lst (hnd ci (p + 1) 0 R c)) := by rw [← hw3]; exact List.getElem?_set_self hl2
      have hl3 : hi < h3.length := lt_of_get at3
      have pf : powFits 10 18 = true := by decide +kernel
      have cs3 : h3[ci]? = some (.lst (cells.map .int)) := by
        rw [← hw3, List.getElem?_set_ne (fun e => hh.ne e.symm), ← hw, List.getElem?_set_ne (fun e => hh.ne e.symm)]
        exact hh.cs
      by_cases hb : (1000000000000000000 : Int) ≤ cell
      · refine fin (h1 := h3.set hi (.lst (hnd ci (p + 1) cell R c))) (e2 := some (.int cell)) ⟨.lst (hnd ci (p + 1) cell R c), ?_⟩ ⟨List.getElem?_set_self hl3, hh.ne, ?_, hh.big, by omega, hbig, r0, by omega, hh.c0, hh.c1⟩ ?_
        · rw [← hw3, ← hw, List.set_set, List.set_set]
        · rw [List.getElem?_set_ne (fun e => hh.ne e.symm)]
          exact cs3
        · simp [sSeq, sIf, xAndB, xTest, xOp, xVar, xC, Res.bind, g 2 (.int 0) rfl, g 1 (.int p) rfl, g 0 (.ref ci) rfl, eq0, dLt, dI0, Res.andS, xB, xCons, xNil, gl, hp, SRes.seq, sAsg, gc, gSet, sSetIx, dAdd, hh.at_, ixN, hw, hmz, gInt, dMod, dI, hR, at2, hw3, dGe, dPow, pf, hb, at3]
      · refine fin (h1 := h3) (e2 := some (.int cell)) ⟨.lst (hnd ci (p + 1) 0 R c), ?_⟩ ⟨at3, hh.ne, cs3, hh.big, by omega, hh.q0, r0, by omega, hh.c0, hh.c1⟩ ?_
        · rw [← hw3, ← hw, List.set_set]
        · simp [sSeq, sIf, xAndB, xTest, xOp, xVar, xC, Res.bind, g 2 (.int 0) rfl, g 1 (.int p) rfl, g 0 (.ref ci) rfl, eq0, dLt, dI0, Res.andS, xB, xCons, xNil, gl, hp, SRes.seq, sAsg, gc, gSet, sSetIx, dAdd, hh.at_, ixN, hw, hmz, gInt, dMod, dI, hR, at2, hw3, dGe, dPow, pf, hb, at3, sNext]
    · refine fin (h1 := h) (e2 := none) ⟨.lst (hnd ci p 0 r c), ?_⟩ hh ?_
      · exact set_same hh.at_
      · simp [sSeq, sIf, xAndB, xTest, xOp, xVar, xC, Res.bind, g 2 (.int 0) rfl, g 1 (.int p) rfl, g 0 (.ref ci) rfl, eq0, dLt, dI0, Res.andS, xB, xCons, xNil, gl, hp, sNext]
  · refine fin (h1 := h) (e2 := none) ⟨.lst (hnd ci p q r c), ?_⟩ hh ?_
    · exact set_same hh.at_
    · simp [sSeq, sIf, xAndB, xTest, xOp, xVar, xC, Res.bind, g 2 (.int q) rfl, eq0, hq, Res.andS, sNext]
end FL

/-! FV: the hand is made. -/
namespace FL
open PySem PySem.Spec PyProof.Rows L2
theorem lcD_map {G : D → Sl → Option Sl} {f : XE} {env : Sl} {φ : D → D} {h : Hs} : ∀ (ds : List D) (n : Nat), (∀ d ∈ ds, ∃ e, G d env = some e ∧ f e h = .ok (φ d) h) → n + ds.length ≤ 100000 → lcD G tYesF (elOne f) env ds n h = .ok (ds.map φ) h
  | [], n, _, _ => rfl
  | d :: r, n, hd, hn => by
    obtain ⟨e, h1, h2⟩ := hd d (by simp)
    have ih := lcD_map r (n + 1) (fun x hx => hd x (List.mem_cons_of_mem _ hx)) (by rw [List.length_cons] at hn; omega)
    have hlt : n < 100000 := by
      rw [List.length_cons] at hn
      omega
    unfold lcD
    rw [h1]
    simp [tYesF, Res.bindN, elOne, hlt, h2, ih]
def bHand (el : XE) (k0 kk : Int) : XS := (sSeq (sAsg (xNew (xLc (xSrcN (xSlL (xVar 0) xNoPart (xPart (xC (.int (63)))))) [2] (gSet 2) tYesF el)) (gSet 1))
  (sRet (xNew (xLst (xCons (xVar 1) (xCons (xC (.int (0))) (xCons (xC (.int (0))) (xCons (xOp dAdd (xC (.int k0)) (xOp dMulI (xC (.int kk)) (xB gLen (xCons (xVar 1) xNil)))) (xCons (xC (.int (0))) xNil)))))))))
def elM : XE := (xOp dMod (xB gInt (xCons (xB gAbs (xCons (xB gInt (xCons (xVar 2) xNil)) xNil)) xNil)) (xOp dPow (xC (.int (10))) (xC (.int (36)))))
def elA : XE := (xB gAbs (xCons (xB gInt (xCons (xVar 2) xNil)) xNil))
structure ElOk (el : XE) : Prop where
  ex : ∃ φ : Int → Int, (∀ z, Builtin.Int.intBits z ≤ 1048576 → Big (φ z)) ∧ ∀ (env : Sl) (h : Hs) (z : Int), env[2]? = some (some (.int z)) → el env h = .ok (.int (φ z)) h
theorem elM_ok : ElOk elM := ⟨fun z => (if z < 0 then -z else z) % 1000000000000000000000000000000000000, fun z _ => by
    have h0 := Int.emod_nonneg (if z < 0 then -z else z) (show (1000000000000000000000000000000000000 : Int) ≠ 0 by decide)
    have h1 := Int.emod_lt_of_pos (if z < 0 then -z else z) (show (0 : Int) < 1000000000000000000000000000000000000 by decide)
    refine ⟨h0, ?_⟩
    show ((if z < 0 then -z else z) % 1000000000000000000000000000000000000).natAbs.log2 ≤ _
    generalize (if z < 0 then -z else z) % 1000000000000000000000000000000000000 = y at h0 h1
    by_cases e : y.natAbs = 0
    · rw [e]; decide
    · have : y.natAbs.log2 < 120 := (Nat.log2_lt e).mpr (by
        have : (2 : Nat) ^ 120 = 1329227995784915872903807060280344576 := by decide
        omega)
      omega, fun env h z hz => by
    have pf : powFits 10 36 = true := by decide +kernel
    simp [elM, xOp, xB, xCons, xVar, hz, Res.bind, xNil, gInt, gAbs, xC, dPow, dI, pf, dMod]⟩
theorem elA_ok : ElOk elA := ⟨fun z => if z < 0 then -z else z, fun z hz => by
    refine ⟨by show 0 ≤ (if z < 0 then -z else z); split <;> omega, ?_⟩
    show (if z < 0 then -z else z).natAbs.log2 ≤ _
    have e : (if z < 0 then -z else z).natAbs = z.natAbs := by split <;> omega
    rw [e]
    unfold Builtin.Int.intBits at hz
    by_cases z0 : z.natAbs = 0
    · rw [z0]; decide
    · have zn : (z == 0) = false := by
        rw [beq_eq_false_iff_ne]
        intro q
        rw [q] at z0
        exact z0 rfl
      rw [zn] at hz
      simp only [Bool.false_eq_true, ↓reduceIte] at hz
      omega, fun env h z hz => by
    simp [elA, xB, xCons, xVar, hz, Res.bind, xNil, gInt, gAbs]⟩
theorem hand_ok {el : XE} {k0 kk : Int} (he : ElOk el) (h1 : 0 ≤ k0) (h2 : k0 < 1000000) (h3 : 0 ≤ kk) (h4 : kk < 1000000) (ns : List Int) (hl : ns.length ≤ 63) (hb : ∀ z ∈ ns, Builtin.Int.intBits z ≤ 1048576) :
    ∃ a b, fnSem 1 2 (bHand el k0 kk) [.rol (ns.map .int)] [] = .ok (.ref 1) [a, b] ∧ IsHand [a, b] 1 0 := by
  obtain ⟨φ, hbig, hφ⟩ := he.ex
  have hc : cutD (ns.map D.int) none (some 63) = ns.map D.int := by
    unfold cutD
    have e1 : HT.sIx (ns.map D.int).length 0 none = 0 := HT.sIx_none _ _
    have e2 : HT.sIx (ns.map D.int).length (ns.map D.int).length (some 63) = min 63 (ns.map D.int).length := HT.sIx_nat _ _ 63
    rw [e1, e2]
    show List.take _ (ns.map D.int) = _
    exact List.take_of_length_le (by rw [List.length_map]; omega)
  have hm : lcD (gSet 2) tYesF (elOne el) [some (.rol (ns.map .int)), none, none] (ns.map D.int) 0 [] = .ok ((ns.map D.int).map fun d => match d with | .int z => .int (φ z) | d => d) [] :=
    lcD_map _ 0 (fun d hd => by
      obtain ⟨z, hz, rfl⟩ := List.mem_map.mp hd
      exact ⟨_, rfl, hφ _ _ _ rfl⟩) (by rw [List.length_map]; omega)
  have hmm : ((ns.map D.int).map fun d => match d with | .int z => D.int (φ z) | d => d) = (ns.map φ).map D.int := by
    rw [List.map_map, List.map_map]
    rfl
  rw [hmm] at hm
  have f : mulFits kk ns.length = true := fits_small h3 (by omega) (by omega) (by omega)
  have fin : 0 ≤ kk * ns.length := Int.mul_nonneg h3 (by omega)
  have fin2 : kk * ns.length ≤ 1000000 * 63 := Int.mul_le_mul (by omega) (by omega) (by omega) (by omega)
  refine ⟨.lst ((ns.map φ).map D.int), .lst (hnd 0 0 0 (k0 + kk * ns.length) 0), ?_, 0, 0, k0 + kk * ns.length, 0, 0, ns.map φ, rfl, by decide, rfl, fun z hz => ?_, by omega, .of (by omega) (by omega), by omega, by omega, by omega, by omega⟩
  · simp [fnSem, bHand, sSeq, sAsg, xNew, xLc, xSrcN, xSlL, xVar, Res.bind, xNoPart, xPart, xC, D.lstI, hc, lcS, Src.known, wipeD, hm, Res.bindN, Res.andS, gSet, SRes.seq, sRet, xLst, xCons, xOp, xB, xNil, gLen, D.seq, dMulI, dI, f, dAdd, retOf]
  · obtain ⟨y, hy, rfl⟩ := List.mem_map.mp hz
    exact hbig y (hb y hy)
end FL

/-! FX: closed calls told by evaluation. -/
namespace FL
open PySem PySem.Spec PyProof.Rows L2
mutual
def D.eqb : D → D → Bool
  | .non, .non => true
  | .bl a, .bl b => a == b
  | .int a, .int b => decide (a = b)
  | .str a, .str b => natsEq a b
  | .tup a, .tup b => D.eqbs a b
  | .rol a, .rol b => D.eqbs a b
  | .ref a, .ref b => Nat.beq a b
  | _, _ => false
def D.eqbs : List D → List D → Bool
  | [], [] => true
  | a :: r, b :: t => D.eqb a b && D.eqbs r t
  | _, _ => false
end
mutual
theorem D.eqb_ok : ∀ {a b : D}, D.eqb a b = true → a = b
  | .non, b, h => by cases b <;> first | rfl | (unfold D.eqb at h; cases h)
  | .bl x, b, h => by
    cases b <;> first | (unfold D.eqb at h; cases h; done) | skip
    unfold D.eqb at h
    rw [eq_of_beq h]
  | .int x, b, h => by
    cases b <;> first | (unfold D.eqb at h; cases h; done) | skip
    unfold D.eqb at h
    rw [of_decide_eq_true h]
  | .str x, b, h => by
    cases b <;> first | (unfold D.eqb at h; cases h; done) | skip
    unfold D.eqb at h
    rw [of_decide_eq_true ((natsEq_iff _ _).symm.trans h)]
  | .ty x, b, h => by cases b <;> (unfold D.eqb at h; cases h)
  | .gl x, b, h => by cases b <;> (unfold D.eqb at h; cases h)
  | .tup x, b, h => by
    cases b <;> first | (unfold D.eqb at h; cases h; done) | skip
    unfold D.eqb at h
    rw [D.eqbs_ok h]
  | .rol x, b, h => by
    cases b <;> first | (unfold D.eqb at h; cases h; done) | skip
    unfold D.eqb at h
    rw [D.eqbs_ok h]
  | .ref x, b, h => by
    cases b <;> first | (unfold D.eqb at h; cases h; done) | skip
    unfold D.eqb at h
    rw [Nat.eq_of_beq_eq_true h]
theorem D.eqbs_ok : ∀ {a b : List D}, D.eqbs a b = true → a = b
  | [], b, h => by
    cases b
    · rfl
    · unfold D.eqbs at h; cases h
  | x :: r, b, h => by
    cases b
    · unfold D.eqbs at h; cases h
    · unfold D.eqbs at h
      rw [Bool.and_eq_true] at h
      rw [D.eqb_ok h.1, D.eqbs_ok h.2]
end
def okIs (r : Res D) (d : D) : Bool := match r with
  | .ok x _ => D.eqb x d
  | _ => false
theorem okIs_ex {r : Res D} {d : D} (h : okIs r d = true) : ∃ h', r = .ok d h' := by
  unfold okIs at h
  split at h
  · rw [D.eqb_ok h]
    exact ⟨_, rfl⟩
  · cases h
theorem callG_is {g : Fn} {ds : List D} {h1 : Hs} {d : D} (hg : okIs (g ds []) d = true) (hd : D.pures ds = true) (hp : d.pure = true) : callG g ds h1 = .ok d h1 := by
  obtain ⟨h', e⟩ := okIs_ex hg
  unfold callG settle
  rw [if_pos hd, e]
  dsimp only
  rw [if_pos hp]
theorem natsEq_self (x : List Nat) : natsEq x x = true := (natsEq_iff x x).trans (decide_eq_true rfl)
theorem dNe_str {x : List Nat} {h : Hs} : dNe (.str x) (.str x) h = .ok (.bl false) h := by
  unfold dNe dEqv
  dsimp only
  rw [natsEq_self]
  rfl
theorem dEq_str {x : List Nat} {h : Hs} : dEq (.str x) (.str x) h = .ok (.bl true) h := by
  unfold dEq dEqv
  dsimp only
  rw [natsEq_self]
theorem dEq_int {x y : Int} {h : Hs} : dEq (.int x) (.int y) h = .ok (.bl (decide (x = y))) h := rfl
theorem dNe_int {x y : Int} {h : Hs} : dNe (.int x) (.int y) h = .ok (.bl (!decide (x = y))) h := rfl
theorem IsHand.app {h : Hs} {hi n : Nat} (I : IsHand h hi n) (l : Hs) : IsHand (h ++ l) hi n := by
  obtain ⟨p, q, r, c, ci, cells, H⟩ := I
  exact ⟨p, q, r, c, ci, cells, by rw [List.getElem?_append_left (lt_of_get H.at_)]; exact H.at_, H.ne, by rw [List.getElem?_append_left (lt_of_get H.cs)]; exact H.cs, H.big, H.p0, H.q0, H.r0, H.r1, H.c0, H.c1⟩
theorem gRepr_of {d : D} {h : Hs} {p : PyData} (e : d.tree h 64 = some p) (ho : okRepr p = true) : gRepr [d] h = .ok (.str (reprD p)) h := by
  unfold gRepr
  dsimp only
  rw [e]
  dsimp only
  rw [if_pos ho]
end FL

/-! FY: enumerate and zip. -/
namespace FL
open PySem PySem.Spec PyProof.Rows L2
set_option maxHeartbeats 1000000 in
theorem meets_enum_newT (l : Addr) (items : Array Value) (n : Nat) (dct : Option Addr) (sl : Array (Option Value)) :
    Meets (Builtin.«enumerate.__new__» ⟨[.type "enumerate", .ref l], []⟩) (fun _ R s => s.heap.get? l = some { cls := .type "tuple", dict := dct, data := .seq items n, slots := sl } ∧
      R (.ok (.ret (.ref (s.heap.push { cls := .type "tuple_iterator", data := .fields #[.ref l, .int 0 0] }).objs.size)))
        { s with heap := (s.heap.push { cls := .type "tuple_iterator", data := .fields #[.ref l, .int 0 0] }).push { cls := .type "enumerate", data := .fields #[.none, .bool false, .ref s.heap.objs.size, rawInt 0, .none, .none] } }) :=
  .of_wp fun prog w A R s h => by
    obtain ⟨hp, g, d, tk, os⟩ := s; obtain ⟨hl, h⟩ := h
    have hsub := sub_enumerate
    have hL : Heap.IsTuple (Shared.heap ⟨hp, g, d, tk, os⟩) l items := ⟨_, hl, rfl, n, rfl⟩
    wp_walk using AutoSeq1.wpAny_loadPart' hl
    refine wpAny_stack_any fun st => wpAny_pure ?_
    split
    · rename_i c _ _ _ _ _
      cases (c == Value.type "enumerate")
      · wp_walk using AutoSeq1.wpAny_loadPart' hl, wpAny_pyIter_tuple hL
        exact ⟨_, rfl, h⟩
      · wp_walk using AutoSeq1.wpAny_loadPart' hl, wpAny_pyIter_tuple hL
        exact ⟨_, rfl, h⟩
    · wp_walk using AutoSeq1.wpAny_loadPart' hl, wpAny_pyIter_tuple hL
      exact ⟨_, rfl, h⟩
theorem call_enum_tuple {prog : Program} {w : World} {A : Around} {E : Value → Shared → Prop} {s : Shared} {l : Addr} {items : Array Value} {Q : Value → Shared → Prop} (hL : s.heap.IsTuple l items)
    (h : ∀ h', IsEnum h' (s.heap.objs.size + 1) s.heap.objs.size 0 .none → h'.IsTupleIter s.heap.objs.size l 0 → h'.objs.size = s.heap.objs.size + 2 →
      (∀ b o, s.heap.get? b = some o → h'.get? b = some o) → Q (.ref (s.heap.objs.size + 1)) { s with heap := h' }) :
    wpAny (model prog w) A (call (.type "enumerate") [.ref l]) Q E s := by
  obtain ⟨⟨c, dct, dt, sl⟩, hl, hc, n, hd⟩ := hL
  replace hc : c = .type "tuple" := hc
  replace hd : dt = .seq items n := hd
  subst hc hd
  refine callType_new F.called_enumerate (by decide) (F.typeCall_enumerate_1 _) (F.newCall_enumerate_1 _) (fun obj => F.args_object_init_2 obj _) F.entry_enumerate_new
    (meets_enum_newT l items n dct sl) ⟨hl, ?_⟩
  have hz : (s.heap.push { cls := .type "tuple_iterator", data := .fields #[.ref l, .int 0 0] }).objs.size = s.heap.objs.size + 1 := Heap.size_push ..
  show _ ∧ _
  rw [hz]
  have he : IsEnum ((s.heap.push { cls := .type "tuple_iterator", data := .fields #[.ref l, .int 0 0] }).push
      { cls := .type "enumerate", data := .fields #[.none, .bool false, .ref s.heap.objs.size, rawInt 0, .none, .none] }) (s.heap.objs.size + 1) s.heap.objs.size 0 .none := by
    have := Heap.get?_push_size (s.heap.push { cls := .type "tuple_iterator", data := .fields #[.ref l, .int 0 0] })
      (o := { cls := .type "enumerate", data := .fields #[.none, .bool false, .ref s.heap.objs.size, rawInt 0, .none, .none] }) rfl
    rw [hz] at this; exact this
  refine ⟨⟨_, he, rfl⟩, h _ he ⟨_, Heap.get?_push_of_some _ (Heap.get?_push_size _ rfl), rfl, rfl⟩ (by rw [Heap.size_push, hz]) fun b o x => Heap.get?_push_of_some _ (Heap.get?_push_of_some _ x)⟩
/-- a pair of a turn -/
def YldE (i : Nat) (H : Hp) (v : V) (H' : Hp) (P : V → Prop) : Prop := ∃ T x, v = .ref T ∧ H T = none ∧ H' = upd H T (.tup [.int (i : Nat), x]) ∧ P x
/-- the tuple at a, each item in a new pair -/
def IteT (K : PySem.W.Frag) (a : Addr) : It :=
  ⟨fun i H => ∃ (xs : List V) (x : V), SqT K H a xs ∧ xs[i]? = some x, fun i H v H' => YldE i H v H' fun x => ∀ xs, SqT K H a xs → xs[i]? = some x, fun i H => ∃ xs : List V, SqT K H a xs ∧ xs.length ≤ i⟩
def IteS (x : Str) : It :=
  ⟨fun i _ => i < x.cps.size, fun i H v H' => YldE i H v H' fun y => ∃ c, x.cps[i]? = some c ∧ y = .str ⟨#[c]⟩, fun i _ => x.cps.size ≤ i⟩
section
variable {P : Program} {w : World} {K : PySem.W.Frag} {elts : List Expr} {kk : Nat} {tpos : Pos}
/-- one turn, by what is drawn from -/
theorem enum_item {X : Cx} {pins : List (Addr × Obj)} {σ : L2.St} {H : Hp} {s : Shared} {E : Value → Shared → Prop} {e it : Addr} {fp : List Addr} {n i : Nat} {Pv : Nat → Value → Prop} {Sf : Nat → Heap → Prop} {old : Value} {tn : Nat → Heap → Prop} {J : It}
    (I : Inv X pins σ H s) (hf : ∀ b ∈ [e, it], FpOk X pins H b) (D : Draws X.prog X.w X.A.in1 it fp n Pv Sf) (he : IsEnum s.heap e it ((i : Nat) : Int) old) (hst : Sf i s.heap) (hlt : i < n) (hne : e ≠ it) (hef : e ∉ fp)
    (htn : ∀ h x, IsEnum h e it (((i + 1 : Nat)) : Int) x → (∃ h0, Sf (i + 1) h0 ∧ Heap.SameBut e h0 h) → tn (i + 1) h)
    (hv : ∀ u, Pv i u → ∃ x, RelV x u ∧ ∀ T, H T = none → J.yld i H (.ref T) (upd H T (.tup [.int (i : Nat), x]))) (hsz : it < s.heap.objs.size) :
    wpAny (model X.prog X.w) X.A (pyNext (.ref e)) (fun r s1 => ∃ u, r = some u ∧
      wpAny (model X.prog X.w) X.A (letOwnedTupleGo (.Tuple elts kk tpos) (.ref e) u) (fun _ s2 => ∃ x H', Inv X pins σ H' s2 ∧ RelV x u ∧ J.yld i H x H' ∧ tn (i + 1) s2.heap ∧ ∀ b ∈ [e, it], H' b = none) E s1) E s := by
  have hel : e < s.heap.objs.size := Heap.lt_size he
  refine wpAny_pyNext_enum_itemD D he hst hlt hne hef fun u h' tk hPu ho hst' hT hsz' hk => ?_
  obtain ⟨x, ru, yl⟩ := hv u hPu
  refine ⟨_, rfl, wpAny_letOwnedTupleGo_enum (s := { s with heap := h', toks := tk + 1 }) ho fun h'' he' sb => ?_⟩
  have hT2 : h''.get? s.heap.objs.size = some { cls := .type "tuple", data := .seq #[.int i tk, u] } := (sb.2 _ (Nat.ne_of_gt hel)).trans hT
  have new : ObjOk X.prog X.w (upd H s.heap.objs.size (.tup [.int (i : Nat), x])) h'' s.heap.objs.size (.tup [.int (i : Nat), x]) :=
    ⟨by show 2 ≤ sizeLine; decide, [.int i tk, u], .cons ⟨_, rfl⟩ (.cons ru .nil), ⟨_, hT2, rfl, _, rfl⟩⟩
  have I1 : Inv X pins σ (upd H s.heap.objs.size (.tup [.int (i : Nat), x])) { s with heap := h'', toks := tk + 1 } :=
    I.turnedNew (ch := [e, it]) (fun b ob hb q => (sb.2 b (fun z => hb (by simp [z]))).trans (hk b ob (fun z => hb (by simp [z])) (fun z => hb (by simp [z])) q)) hf (Nat.le_refl _) new
  refine ⟨.ref s.heap.objs.size, _, I1, rfl, yl _ (I.hok.fresh (Nat.le_refl _)), htn _ u ?_ ⟨_, hst', sb⟩, fun b hb => ?_⟩
  · have e1 : ((i + 1 : Nat) : Int) = (i : Int) + 1 := by omega
    rw [e1]; exact he'
  · have hb' : b < s.heap.objs.size := by
      have e' : b = e ∨ b = it := by simpa using hb
      rcases e' with z | z
      · rw [z]; exact hel
      · rw [z]; exact hsz
    rw [upd_ne (Nat.ne_of_lt hb')]
    exact (hf b hb).1
theorem turn_enumT (a e it : Addr) : Turn P w K (.Tuple elts kk tpos) (IteT K a) [e, it] e (fun i h => (∃ old, IsEnum h e it ((i : Nat) : Int) old) ∧ h.IsTupleIter it a i ∧ e ≠ it) where
  mem := by simp
  obj := fun i h st b hb => by
    obtain ⟨⟨old, he⟩, ⟨o, ho, hc, hd⟩, _⟩ := st
    have e' : b = e ∨ b = it := by simpa using hb
    rcases e' with z | z
    · rw [z]; exact ⟨_, he, fun v q => nomatch q⟩
    · rw [z]; exact ⟨o, ho, fun v q => by rw [hd] at q; cases q⟩
  keep := fun i h h' st k => let ⟨⟨old, he⟩, hi, hne⟩ := st; ⟨⟨old, k e (by simp) _ he⟩, hi.at fun o q => k it (by simp) o q, hne⟩
  item := by
    intro X hP hw hK hc i pins s σ H E I hf st hg
    subst hP hw hK
    obtain ⟨⟨old, he⟩, hit, hne⟩ := st
    obtain ⟨xs, x, hq, hx⟩ := hg
    obtain ⟨its, rv, p, hz⟩ := I.tuple hq
    have hil : it < s.heap.objs.size := by obtain ⟨_, q, _⟩ := hit; exact Heap.lt_size q
    have hti : a ≠ it := fun z => by
      obtain ⟨o1, q1, q2, _⟩ := id p
      obtain ⟨o2, q3, q4, _⟩ := id hit
      rw [z, q3] at q1
      cases q1
      rw [q4] at q2
      exact absurd q2 (by decide)
    have hte : a ≠ e := fun z => by
      obtain ⟨o1, q1, q2, _⟩ := id p
      rw [z] at q1
      have := he.symm.trans q1
      cases this
      exact absurd (show Value.type "enumerate" = Value.type "tuple" from q2) (by decide)
    have D := Draws.tuple (prog := X.prog) (w := X.w) (A := X.A.in1) (I.ok.hd hc) it a hti its.toArray
    refine enum_item (tn := fun i h => (∃ old, IsEnum h e it ((i : Nat) : Int) old) ∧ h.IsTupleIter it a i ∧ e ≠ it) (J := IteT X.K a) I hf D he ⟨hit, p⟩ ?_ hne ?_ ?_ ?_ hil
    · obtain ⟨u, hu, _⟩ := rv.get hx
      simpa using (List.getElem?_eq_some_iff.mp hu).1
    · intro m
      have e' : e = it ∨ e = a := by simpa using m
      rcases e' with z | z
      · exact hne z
      · exact hte z.symm
    · rintro h x0 q1 ⟨h0, ⟨q2, _⟩, q3⟩
      exact ⟨⟨_, q1⟩, q2.at fun o q => (q3.2 it (Ne.symm hne)).trans q, hne⟩
    · intro u hu
      obtain ⟨u', hu', ru⟩ := rv.get hx
      have e2 : u' = u := by
        have hu2 : its[i]? = some u := by simpa using hu
        rw [hu'] at hu2
        exact Option.some.inj hu2
      subst e2
      exact ⟨x, ru, fun T hT => ⟨T, x, rfl, hT, rfl, fun ys hy => by rw [I.tuple_inj hy hq]; exact hx⟩⟩
  done := by
    intro X hP hw hK hc i pins s σ H E I hf st hg
    subst hP hw hK
    obtain ⟨⟨old, he⟩, hit, hne⟩ := st
    obtain ⟨xs, hq, hx⟩ := hg
    obtain ⟨its, rv, p, hz⟩ := I.tuple hq
    obtain ⟨f0, f1, f2, f3, f4, f5⟩ := hf it (by simp)
    have hl := rv.length
    have hT : s.TypeIs (.ref e) "enumerate" := ⟨_, he, rfl⟩
    unfold pyNext
    refine wpAny_bind (wpAny_attempt (wpAny_callSpecial?_slot (name := Str.ofString "__next__") hT F.slot_enumerate_next
      (wpAny_call_entry F.slot_enumerate_next hT F.entry_enumerate_next ?_ (F.args_enumerate_next_1 _))))
    show wpAny _ _ (field (.ref e) 2 >>= _) _ _ _
    refine wpAny_bind (wpAny_field he rfl (x := .ref it) rfl ?_)
    refine wpAny_bind (wpAny_nextOf_tuple_end (I.ok.hd hc) hit p (by simp; omega) fun h' x he' hx' => ?_)
    obtain ⟨o, ho, hc⟩ := hx'
    refine wpAny_bind (wpAny_isInstance (T := "StopIteration") (b := true) ⟨o, ho, hc⟩ isSubtype_stop ?_)
    exact wpAny_pure ⟨rfl, I.turned (t' := s.toks) (fun b o hb q => he' b o hb q) f0 f1 f3 f4 f5⟩
  self := fun A i s Q E st h => let ⟨⟨_, he⟩, _⟩ := st; wpAny_pyIter_enum he h
theorem turn_enumS (x : Str) (t : Tok) (e it : Addr) : Turn P w K (.Tuple elts kk tpos) (IteS x) [e, it] e (fun i h => (∃ old, IsEnum h e it ((i : Nat) : Int) old) ∧ h.IsStrIter it (strIterType x) x t i ∧ e ≠ it) where
  mem := by simp
  obj := fun i h st b hb => by
    obtain ⟨⟨old, he⟩, ⟨o, ho, hc, hd⟩, _⟩ := st
    have e' : b = e ∨ b = it := by simpa using hb
    rcases e' with z | z
    · rw [z]; exact ⟨_, he, fun v q => nomatch q⟩
    · rw [z]; exact ⟨o, ho, fun v q => by rw [hd] at q; cases q⟩
  keep := fun i h h' st k => let ⟨⟨old, he⟩, hi, hne⟩ := st; ⟨⟨old, k e (by simp) _ he⟩, let ⟨o, ho, r⟩ := hi; ⟨o, k it (by simp) o ho, r⟩, hne⟩
  item := by
    intro X hP hw hK hc i pins s σ H E I hf st hg
    subst hP hw hK
    obtain ⟨⟨old, he⟩, hit, hne⟩ := st
    have hil : it < s.heap.objs.size := by obtain ⟨_, q, _⟩ := hit; exact Heap.lt_size q
    have D := Draws.text (prog := X.prog) (w := X.w) (A := X.A.in1) (I.ok.hd hc) it x t
    refine enum_item (tn := fun i h => (∃ old, IsEnum h e it ((i : Nat) : Int) old) ∧ h.IsStrIter it (strIterType x) x t i ∧ e ≠ it) (J := IteS x) I hf D he hit hg hne ?_ ?_ ?_ hil
    · intro m
      have e' : e = it := by simpa using m
      exact hne e'
    · rintro h x0 q1 ⟨h0, q2, q3⟩
      obtain ⟨o, ho, r⟩ := q2
      exact ⟨⟨_, q1⟩, ⟨o, (q3.2 it (Ne.symm hne)).trans ho, r⟩, hne⟩
    · rintro u ⟨c, v, hcx, rfl⟩
      exact ⟨.str ⟨#[c]⟩, ⟨v, rfl⟩, fun T hT => ⟨T, _, rfl, hT, rfl, c, hcx, rfl⟩⟩
  done := by
    intro X hP hw hK hc i pins s σ H E I hf st hg
    subst hP hw hK
    obtain ⟨⟨old, he⟩, hit, hne⟩ := st
    obtain ⟨f0, f1, f2, f3, f4, f5⟩ := hf it (by simp)
    have hT : s.TypeIs (.ref e) "enumerate" := ⟨_, he, rfl⟩
    have hx : x.cps[i]? = none := by
      have : x.cps.size ≤ i := hg
      simpa using this
    unfold pyNext
    refine wpAny_bind (wpAny_attempt (wpAny_callSpecial?_slot (name := Str.ofString "__next__") hT F.slot_enumerate_next
      (wpAny_call_entry F.slot_enumerate_next hT F.entry_enumerate_next ?_ (F.args_enumerate_next_1 _))))
    show wpAny _ _ (field (.ref e) 2 >>= _) _ _ _
    refine wpAny_bind (wpAny_field he rfl (x := .ref it) rfl ?_)
    cases ha : x.cps.all (· < 128)
    · rw [strIterType, ha] at hit
      refine wpAny_bind (wpAny_nextOf_wide_end (I.ok.hd hc) hit hx fun h' x he' hx' => ?_)
      obtain ⟨o, ho, hc⟩ := hx'
      refine wpAny_bind (wpAny_isInstance (T := "StopIteration") (b := true) ⟨o, ho, hc⟩ isSubtype_stop ?_)
      exact wpAny_pure ⟨rfl, I.turned (t' := s.toks) (fun b o hb q => he' b o hb q) f0 f1 f3 f4 f5⟩
    · rw [strIterType, ha] at hit
      refine wpAny_bind (wpAny_nextOf_ascii_end (I.ok.hd hc) hit hx fun h' x he' hx' => ?_)
      obtain ⟨o, ho, hc⟩ := hx'
      refine wpAny_bind (wpAny_isInstance (T := "StopIteration") (b := true) ⟨o, ho, hc⟩ isSubtype_stop ?_)
      exact wpAny_pure ⟨rfl, I.turned (t' := s.toks) (fun b o hb q => he' b o hb q) f0 f1 f3 f4 f5⟩
  self := fun A i s Q E st h => let ⟨⟨_, he⟩, _⟩ := st; wpAny_pyIter_enum he h
end
def iEnumA (K : PySem.W.Frag) (ta : TA) : TI := fun σ H R => ta σ H fun vs H1 => (∃ a, vs = [.ref a] ∧ (∃ xs, SqL K H1 a xs) ∧ R (Ite K a) H1) ∨ (∃ a, vs = [.ref a] ∧ (∃ xs, SqT K H1 a xs) ∧ R (IteT K a) H1) ∨ ∃ x, vs = [.str x] ∧ R (IteS x) H1
theorem pi_enumA {X : Cx} {e : Expr} {ta : TA} {p pos tpos : Pos} {elts : List Expr} {kk : Nat} (hg : Gl X "enumerate") (hm : X.mg "enumerate" = none) (ha : PA X [e] ta) (hs : starEach [e] X.env = [(false, eval e X.env)] := by rfl) :
    PI X (.Tuple elts kk tpos) (.Call (.Name "enumerate" p) [e] [] pos) (iEnumA X.K ta) := by
  refine ⟨fun pins s σ H R I h => ?_⟩
  refine Call_ (ld_blt I hg hm boot_enumerate (PyProof.Rows.callWith_type1 (thn (ha.run pos pins s σ H _ I h) fun us s1 ⟨vs, H1, I1, r1, q1⟩ => ?_) hs rfl))
  have fr : ∀ b, b ∈ [s1.heap.objs.size + 1, s1.heap.objs.size] → FpOk X pins H1 b := fun b hb => by
    have e' : b = s1.heap.objs.size + 1 ∨ b = s1.heap.objs.size := by simpa using hb
    have hle : s1.heap.objs.size ≤ b := by
      rcases e' with z | z
      · rw [z]; exact Nat.le_add_right _ _
      · rw [z]; exact Nat.le_refl _
    exact I1.fpOk hle (I1.hok.fresh hle)
  rcases q1 with ⟨a, ex, ⟨xs, hq⟩, q⟩ | ⟨a, ex, ⟨xs, hq⟩, q⟩ | ⟨x, ex, q⟩
  · subst ex
    cases r1 with
    | cons r rr =>
      cases rr
      cases r
      obtain ⟨its, rv, p', hz⟩ := I1.list hq
      refine call_enumerate_list p'.isList fun h' he hit hsz hk => wpAny_pyIter_enum he ?_
      have I2 : Inv X pins σ H1 { s1 with heap := h' } := I1.kept (t' := s1.toks) hk
      exact ⟨s1.heap.objs.size + 1, [s1.heap.objs.size + 1, s1.heap.objs.size], _, _, H1, rfl, I2, turn_enum a (s1.heap.objs.size + 1) s1.heap.objs.size, ⟨⟨.none, he⟩, hit, Nat.succ_ne_self _⟩, fr, q⟩
  · subst ex
    cases r1 with
    | cons r rr =>
      cases rr
      cases r
      obtain ⟨its, rv, p', hz⟩ := I1.tuple hq
      refine call_enum_tuple (show s1.heap.IsTuple a its.toArray from p') fun h' he hit hsz hk => wpAny_pyIter_enum he ?_
      have I2 : Inv X pins σ H1 { s1 with heap := h' } := I1.kept (t' := s1.toks) hk
      exact ⟨s1.heap.objs.size + 1, [s1.heap.objs.size + 1, s1.heap.objs.size], _, _, H1, rfl, I2, turn_enumT a (s1.heap.objs.size + 1) s1.heap.objs.size, ⟨⟨.none, he⟩, hit, Nat.succ_ne_self _⟩, fr, q⟩
  · subst ex
    cases r1 with
    | cons r rr =>
      cases rr
      obtain ⟨t, et⟩ := r
      subst et
      refine call_enumerate_str fun h' he hit hsz hk => wpAny_pyIter_enum he ?_
      have I2 : Inv X pins σ H1 { s1 with heap := h' } := I1.kept (t' := s1.toks) hk
      exact ⟨s1.heap.objs.size + 1, [s1.heap.objs.size + 1, s1.heap.objs.size], _, _, H1, rfl, I2, turn_enumS x t (s1.heap.objs.size + 1) s1.heap.objs.size, ⟨⟨.none, he⟩, hit, Nat.succ_ne_self _⟩, fr, q⟩
end FL

/-! FZ: enumerate and zip as sources, join, repetitions, slices of tuples and texts. -/
namespace FL
open PySem PySem.Spec PyProof.Rows L2 RZ

/-! ### pairs that come one by one -/
def prD : List D → List D → List D
  | a :: r, b :: t => .tup [a, b] :: prD r t
  | _, _ => []
theorem prD_get : ∀ {ds es : List D} {j : Nat} {d : D}, (prD ds es)[j]? = some d → ∃ a b, ds[j]? = some a ∧ es[j]? = some b ∧ d = .tup [a, b]
  | [], _, j, d, h => by simp [prD] at h
  | _ :: _, [], j, d, h => by simp [prD] at h
  | a :: r, b :: t, 0, d, h => ⟨a, b, rfl, rfl, (Option.some.inj h).symm⟩
  | a :: r, b :: t, j + 1, d, h => prD_get (ds := r) (es := t) (j := j) h
theorem prD_none : ∀ {ds es : List D} {j : Nat}, (prD ds es)[j]? = none → ds.length ≤ j ∨ es.length ≤ j
  | [], _, j, h => .inl (Nat.zero_le _)
  | _ :: _, [], j, h => .inr (Nat.zero_le _)
  | a :: r, b :: t, 0, h => by cases h
  | a :: r, b :: t, j + 1, h => by
    rcases prD_none (ds := r) (es := t) (j := j) h with q | q
    · exact .inl (Nat.succ_le_succ q)
    · exact .inr (Nat.succ_le_succ q)
theorem it_pairs {C : Cc} {ρ0 : List Addr} {H0 : Hp} {fr : List Addr} {J : It} {ds es : List D} {vs ws : List V} (hs : Embs C ρ0 H0 ds vs) (ht : Embs C ρ0 H0 es ws)
    (hgo : ∀ {ρ : List Addr} {H : Hp}, Low ρ0 ρ H0 H → (∀ p, p ∈ fr → ∀ o, H0 p = some o → H p = some o) → ∀ {i : Nat} {v w : V}, vs[i]? = some v → ws[i]? = some w → J.go i H ∧ ∀ x H', J.yld i H x H' → ∃ T, x = .ref T ∧ H T = none ∧ H' = upd H T (.tup [v, w]))
    (hst : ∀ {ρ : List Addr} {H : Hp}, Low ρ0 ρ H0 H → (∀ p, p ∈ fr → ∀ o, H0 p = some o → H p = some o) → ∀ {i : Nat}, vs.length ≤ i ∨ ws.length ≤ i → J.stop i H) : ItOk C ρ0 H0 fr J (Src.one (.con (prD ds es))).nxt := by
  refine ⟨fun {ρ H h j d} low keep ok e => ?_, fun {ρ H h j} low keep ok e => ?_⟩
  · have e1 : (prD ds es)[j]? = some d := Option.some.inj e
    obtain ⟨a, b, q1, q2, rfl⟩ := prD_get e1
    obtain ⟨v, e3, hv⟩ := hs.get q1
    obtain ⟨w, e4, hw⟩ := ht.get q2
    obtain ⟨g, y⟩ := hgo low keep e3 e4
    refine ⟨g, fun x H' z => ?_⟩
    obtain ⟨T, rfl, nT, rfl⟩ := y x H' z
    have ex : Ext ρ ρ H (upd H T (.tup [v, w])) := Ext.fresh nT
    exact ⟨ex, ok.fresh nT, .tup (.inl (.inl upd_same)) (.cons ((hv.low low).mono ex) (.cons ((hw.low low).mono ex) .nil))⟩
  · have e1 : (prD ds es)[j]? = none := Option.some.inj e
    refine hst low keep ?_
    rw [← hs.length, ← ht.length]
    exact prD_none e1

/-! ### enumerate -/
theorem it_live_enum {C : Cc} {ρ0 : List Addr} {H0 : Hp} {i : Nat} {a : Addr} (ha : ρ0[i]? = some a) : ItOk C ρ0 H0 [] (Ite C.K a) (Src.enum (.live i)).nxt := by
  refine ⟨fun {ρ H h j d} low keep ok e => ?_, fun {ρ H h j} low keep ok e => ?_⟩
  · obtain ⟨ds, e1, e2⟩ := map_some_some e
    unfold View.at at e1
    dsimp only at e1
    split at e1
    · rename_i ds' q
      cases e1
      obtain ⟨vs, q1, q2⟩ := ok.ob _ _ _ (low.at ha) q
      cases q3 : ds[j]? with
      | none => rw [q3] at e2; cases e2
      | some d' =>
        rw [q3] at e2
        cases e2
        obtain ⟨v, e3, hv⟩ := q2.get q3
        refine ⟨⟨vs, v, SqL.of q1, e3⟩, fun x H' y => ?_⟩
        obtain ⟨T, x', rfl, nT, rfl, y⟩ := y
        have e4 := y vs (SqL.of q1)
        rw [e3] at e4
        cases e4
        have ex : Ext ρ ρ H (upd H T (.tup [.int (j : Nat), v])) := Ext.fresh nT
        exact ⟨ex, ok.fresh nT, .tup (.inl (.inl upd_same)) (.cons (.int _) (.cons (hv.mono ex) .nil))⟩
    · cases e1
  · obtain ⟨ds, e1, e2⟩ := map_some_none e
    unfold View.at at e1
    dsimp only at e1
    split at e1
    · rename_i ds' q
      cases e1
      obtain ⟨vs, q1, q2⟩ := ok.ob _ _ _ (low.at ha) q
      cases q3 : ds[j]? with
      | none => exact ⟨vs, SqL.of q1, emb_get q2 q3⟩
      | some d' => rw [q3] at e2; cases e2
    · cases e1
def enD (ds : List D) : List D := prD (rangeD 0 ds.length) ds
def enumOf (h : Hs) (d : D) : Option Src := match d with
  | .tup ds => some (.one (.con (enD ds)))
  | .rol ds => some (.one (.con (enD ds)))
  | .str cs => some (.one (.con (enD (cs.map fun c => .str [c]))))
  | .ref i => match h[i]? with
    | some (.lst _) => some (.enum (.live i))
    | _ => none
  | _ => none
def xEnum (fA : XA) : XI := fun env h => (fA env h).bind fun ds h1 => match ds with
  | [d] => (match enumOf h1 d with
    | some s => .ok s h1
    | none => .stuck)
  | _ => .stuck
theorem range_get {n i : Nat} {v : V} (h : ((List.range n).map fun (k : Nat) => V.int (0 + k))[i]? = some v) : v = .int (i : Nat) := by
  rw [List.getElem?_map] at h
  cases q : (List.range n)[i]? with
  | none => rw [q] at h; cases h
  | some k =>
    rw [q] at h
    cases h
    have := (List.getElem?_eq_some_iff.mp q).2
    rw [List.getElem_range] at this
    subst this
    show V.int (0 + _) = _
    rw [Int.zero_add]
theorem so_enum {C : Cc} {W : WX} {ta : TA} {fA : XA} (ha : SoA C W ta fA) : SoIt C W (iEnumA C.K ta) (xEnum fA) := ⟨fun {env h ρ σ H R} he hh hp =>
  ha.go he hh ((Pst.bind hp).imp fun ds h1 ρ1 H1 e1 ok1 p1 vs hv => by
    have er : ∀ (m : Nat) (ρ : List Addr) (H : Hp), Embs C ρ H (rangeD 0 m) ((List.range m).map fun (k : Nat) => V.int (0 + k)) := fun m ρ H => embs_range 0 _
    split at p1
    · rename_i d
      cases hv with
      | cons hv hr =>
        cases hr
        unfold enumOf at p1
        split at p1
        · rename_i s es
          revert p1
          split at es
          · rename_i ds
            cases es
            intro p1
            cases hv with
            | @tup _ xs a hs hx =>
              refine .inr (.inl ⟨a, rfl, ⟨xs, hs⟩, p1 ρ1 H1 Ext.refl ok1 [] H1 _ (fun _ m => by cases m) Ext.refl ok1 (it_pairs (er _ _ _) hx (fun {ρ H} low _ {i v w} e e2 => ?_) (fun {ρ H} low _ {i} e => ?_))⟩)
              · refine ⟨⟨xs, w, low.sqT hs, e2⟩, fun x H' y => ?_⟩
                obtain ⟨T, x', rfl, nT, rfl, y⟩ := y
                have q := y xs (low.sqT hs)
                rw [e2] at q
                cases q
                rw [range_get e]
                exact ⟨T, rfl, nT, rfl⟩
              · refine ⟨xs, low.sqT hs, ?_⟩
                rw [List.length_map, List.length_range, hx.length] at e
                omega
          · rename_i ds
            cases es
            intro p1
            cases hv with
            | @rol _ xs a hs hx =>
              refine .inl ⟨a, rfl, ⟨xs, hs.seq⟩, p1 ρ1 H1 Ext.refl ok1 [] H1 _ (fun _ m => by cases m) Ext.refl ok1 (it_pairs (er _ _ _) hx (fun {ρ H} low _ {i v w} e e2 => ?_) (fun {ρ H} low _ {i} e => ?_))⟩
              · refine ⟨⟨xs, w, (low.roL hs).seq, e2⟩, fun x H' y => ?_⟩
                obtain ⟨T, x', rfl, nT, rfl, y⟩ := y
                have q := y xs (low.roL hs).seq
                rw [e2] at q
                cases q
                rw [range_get e]
                exact ⟨T, rfl, nT, rfl⟩
              · refine ⟨xs, (low.roL hs).seq, ?_⟩
                rw [List.length_map, List.length_range, hx.length] at e
                omega
          · rename_i cs
            cases es
            intro p1
            cases hv
            refine .inr (.inr ⟨_, rfl, p1 ρ1 H1 Ext.refl ok1 [] H1 _ (fun _ m => by cases m) Ext.refl ok1 (it_pairs (er _ _ _) (embs_signs cs) (fun {ρ H} low _ {i v w} e e2 => ?_) (fun {ρ H} low _ {i} e => ?_))⟩)
            · rw [List.getElem?_map] at e2
              cases q : cs[i]? with
              | none => rw [q] at e2; cases e2
              | some c =>
                rw [q] at e2
                cases e2
                have hi := (List.getElem?_eq_some_iff.mp q).1
                refine ⟨by show i < cs.toArray.size; simpa using hi, fun x H' y => ?_⟩
                obtain ⟨T, x', rfl, nT, rfl, c', y2, rfl⟩ := y
                have y4 : cs[i]? = some c' := by simpa using y2
                rw [q] at y4
                cases y4
                rw [range_get e]
                exact ⟨T, rfl, nT, rfl⟩
            · show cs.toArray.size ≤ i
              simp only [List.length_map, List.length_range] at e
              simp only [List.size_toArray]
              omega
          · rename_i i
            split at es
            · rename_i ds q
              cases es
              intro p1
              cases hv with
              | @ref _ a ha =>
                obtain ⟨xs, q1, q2⟩ := ok1.ob _ _ _ ha q
                exact .inl ⟨a, rfl, ⟨xs, SqL.of q1⟩, p1 ρ1 H1 Ext.refl ok1 [] H1 _ (fun _ m => by cases m) Ext.refl ok1 (it_live_enum ha)⟩
            · cases es
          · cases es
        · exact p1.elim
    · exact p1.elim)⟩
theorem fi_enum {X : Cx} {W : WX} {e : Expr} {ta : TA} {fA : XA} {p pos tpos : Pos} {elts : List Expr} {kk : Nat} (hm : X.mg "enumerate" = none) (ha : FAs X W [e] ta fA) (hg : Gl X "enumerate" := by rfl) (hs : starEach [e] X.env = [(false, eval e X.env)] := by rfl) :
    FI X W (.Tuple elts kk tpos) (.Call (.Name "enumerate" p) [e] [] pos) (iEnumA X.K ta) (xEnum fA) := ⟨pi_enumA hg hm ha.pe hs, so_enum ha.so⟩

/-! ### zip of two -/
/-- of two lists that were just made -/
def xZipNN (fa fb : XA) : XI := fun env h => (fa env h).bind fun ds h1 => (fb env h1).bind fun es h2 => .ok (.one (.con (prD ds es))) h2
theorem so_zipNN {C : Cc} {W : WX} {ta tb : TE} {fa fb : XA} (ha : SoL C W ta fa) (hb : SoL C W tb fb) : SoIt C W (iZipA C.K (tCons ta (tCons tb tNil))) (xZipNN fa fb) := ⟨fun {env h ρ σ H R} he hh hp =>
  ha.go he hh ((Pst.bind hp).imp fun ds h1 ρ1 H1 e1 ok1 p1 p vs n hs =>
    hb.go ((he.mono e1).mono (Ext.fresh n)) (ok1.fresh n) ((Pst.bind (Pst.mono p1 (Ext.fresh n))).imp fun es h2 ρ2 H2 e2 ok2 p2 q ws m hs2 => by
      have k := fresh_kept (vs := vs) ok1 n e2
      have npq := ne_of_none k m
      have k2 : (upd H2 q (.lst ws)) p = some (.lst vs) := by rw [upd_ne npq]; exact k
      have fn : ∀ {r : Addr}, H2 r = none → H r = none := fun {r} z => by
        cases y : H r with
        | none => rfl
        | some o =>
          by_cases hm : r ∈ ρ
          · exact absurd (e2.sub r (e1.sub r hm)) (ok2.notin z)
          · have y1 := e1.keep r o y hm
            have hr1 : r ∉ ρ1 := fun mm => by
              have := e1.new r mm hm
              rw [y] at this
              cases this
            have y2 : (upd H1 p (.lst vs)) r = some o := by
              rw [upd_ne (ne_of_none y1 n)]
              exact y1
            have y3 := e2.keep r o y2 hr1
            rw [z] at y3
            cases y3
      have np : H p = none := by
        cases y : H p with
        | none => rfl
        | some o =>
          by_cases hm : p ∈ ρ
          · exact absurd (e1.sub p hm) (ok1.notin n)
          · have y1 := e1.keep p o y hm
            rw [n] at y1
            cases y1
      refine ⟨p, q, vs, ws, rfl, .inl ⟨SqL.of k2, SqL.of upd_same, p2 ρ2 H2 Ext.refl ok2 [p, q] (upd H2 q (.lst ws)) _ (fun r mr => ?_) (Ext.fresh m) (ok2.fresh m)
        (it_pairs (((hs.mono (Ext.fresh n)).mono e2).mono (Ext.fresh m)) (hs2.mono (Ext.fresh m)) (fun {ρ H} low keep {i v w} e e' => ?_) (fun {ρ H} low keep {i} e => ?_))⟩⟩
      · have e' : r = p ∨ r = q := by simpa using mr
        rcases e' with z | z
        · subst z
          refine ⟨np, fun mm => ?_⟩
          have hr1 : r ∉ ρ1 := ok1.notin n
          have := e2.new r mm hr1
          rw [upd_same] at this
          cases this
        · subst z
          exact ⟨fn m, ok2.notin m⟩
      · have k3 := keep p (by simp) _ k2
        have k4 := keep q (by simp) _ upd_same
        refine ⟨⟨vs, ws, v, w, SqL.of k3, SqL.of k4, e, e'⟩, fun x H' y => ?_⟩
        obtain ⟨T, x', y', rfl, nT, rfl, f1, f2⟩ := y
        have z1 := (f1 vs (SqL.of k3)).symm.trans e
        have z2 := (f2 ws (SqL.of k4)).symm.trans e'
        cases z1
        cases z2
        exact ⟨T, rfl, nT, rfl⟩
      · have k3 := keep p (by simp) _ k2
        have k4 := keep q (by simp) _ upd_same
        exact ⟨vs, ws, SqL.of k3, SqL.of k4, e⟩))⟩
theorem fi_zipNN {X : Cx} {W : WX} {e e2 : Expr} {ta tb : TE} {fa fb : XA} {p pos tpos : Pos} {elts : List Expr} {kk : Nat} (hm : X.mg "zip" = none) (ha : FLs X W e ta fa) (hb : FLs X W e2 tb fb) (hg : Gl X "zip" := by rfl)
    (hs : starEach [e, e2] X.env = (false, eval e X.env) :: starEach [e2] X.env := by rfl) (hs2 : starEach [e2] X.env = (false, eval e2 X.env) :: starEach [] X.env := by rfl) (hpl : (backTo pos (starEach [e2] X.env)).any (·.1) = false := by rfl) :
    FI X W (.Tuple elts kk tpos) (.Call (.Name "zip" p) [e, e2] [] pos) (iZipA X.K (tCons ta (tCons tb tNil))) (xZipNN fa fb) := ⟨pi_zipA hg hm (pa_cons ha.pe (pa_cons hb.pe pa_nil hs2) hs) hs hpl, so_zipNN ha.so hb.so⟩
/-- of two tuples -/
def xZipT (fA : XA) : XI := fun env h => (fA env h).bind fun ds h1 => match ds with
  | [.tup xs, .tup ys] => .ok (.one (.con (prD xs ys))) h1
  | _ => .stuck
theorem so_zipT {C : Cc} {W : WX} {ta : TA} {fA : XA} (ha : SoA C W ta fA) : SoIt C W (iZipA C.K ta) (xZipT fA) := ⟨fun {env h ρ σ H R} he hh hp =>
  ha.go he hh ((Pst.bind hp).imp fun ds h1 ρ1 H1 e1 ok1 p1 vs hv => by
    split at p1
    · cases hv with
      | cons a hr =>
        cases hr with
        | cons b hr =>
          cases hr
          cases a with
          | @tup _ xs p hs hx =>
            cases b with
            | @tup _ ys q hs2 hy =>
              refine ⟨p, q, xs, ys, rfl, .inr ⟨hs, hs2, p1 ρ1 H1 Ext.refl ok1 [] H1 _ (fun _ m => by cases m) Ext.refl ok1 (it_pairs hx hy (fun {ρ H} low _ {i v w} e e2 => ?_) (fun {ρ H} low _ {i} e => ⟨xs, ys, low.sqT hs, low.sqT hs2, e⟩))⟩⟩
              refine ⟨⟨xs, ys, v, w, low.sqT hs, low.sqT hs2, e, e2⟩, fun x H' y => ?_⟩
              obtain ⟨T, x', y', rfl, nT, rfl, f1, f2⟩ := y
              have z1 := (f1 xs (low.sqT hs)).symm.trans e
              have z2 := (f2 ys (low.sqT hs2)).symm.trans e2
              cases z1
              cases z2
              exact ⟨T, rfl, nT, rfl⟩
    · exact p1.elim)⟩
theorem fi_zipT {X : Cx} {W : WX} {e e2 : Expr} {ta : TA} {fA : XA} {p pos tpos : Pos} {elts : List Expr} {kk : Nat} (hm : X.mg "zip" = none) (ha : FAs X W [e, e2] ta fA) (hg : Gl X "zip" := by rfl)
    (hs : starEach [e, e2] X.env = (false, eval e X.env) :: starEach [e2] X.env := by rfl) (hpl : (backTo pos (starEach [e2] X.env)).any (·.1) = false := by rfl) :
    FI X W (.Tuple elts kk tpos) (.Call (.Name "zip" p) [e, e2] [] pos) (iZipA X.K ta) (xZipT fA) := ⟨pi_zipA hg hm ha.pe hs hpl, so_zipT ha.so⟩
end FL

/-! FZ2: list sums, join, repetitions, slices of tuples and texts. -/
namespace FL
open PySem PySem.Spec PyProof.Rows L2
/-! ### [..] + name -/
def xCatNV (fa : XA) (fb : XE) : XA := fun env h => (fa env h).bind fun ds h1 => (fb env h1).bind fun e h2 => match e with
  | .ref j => (match h2[j]? with
    | some (.lst es) => if ds.length + es.length ≤ 100000 then .ok (ds ++ es) h2 else .stuck
    | _ => .stuck)
  | _ => .stuck
theorem so_catNV {C : Cc} {W : WX} {ta tb : TE} {fa : XA} {fb : XE} (ha : SoL C W ta fa) (hb : SoE C W tb fb) : SoL C W (tOp rCat ta tb) (xCatNV fa fb) := ⟨fun {env h ρ σ H Q} he hh hp =>
  ha.go he hh ((Pst.bind hp).imp fun ds h1 ρ1 H1 e1 ok1 p1 p vs n hs =>
    hb.go ((he.mono e1).mono (Ext.fresh n)) (ok1.fresh n) ((Pst.bind (Pst.mono p1 (Ext.fresh n))).imp fun e h2 ρ2 H2 e2 ok2 p2 u hu => by
      split at p2
      · rename_i j
        split at p2
        · rename_i es r
          split at p2
          · rename_i hl
            cases hu with
            | ref hb =>
              have k := fresh_kept (vs := vs) ok1 n e2
              obtain ⟨zs, r1, r2⟩ := ok2.ob _ _ _ hb r
              exact ⟨p, _, vs, zs, rfl, rfl, k, r1, by rw [← hs.length, ← r2.length]; exact sz_ok hl, fun q m => p2 ρ2 H2 Ext.refl ok2 q _ m ((hs.mono ((Ext.fresh (o := .lst vs) n).trans e2)).append r2)⟩
          · exact p2.elim
        · exact p2.elim
      · exact p2.elim))⟩
theorem fcatNV {X : Cx} {W : WX} {a b : Expr} {ta tb : TE} {fa : XA} {fb : XE} {pos : Pos} (ha : FLs X W a ta fa) (hb : FE X W b tb fb) : FLs X W (.BinOp a .Add b pos) (tOp rCat ta tb) (xCatNV fa fb) := ⟨pe_op op_cat ha.pe hb.pe, so_catNV ha.so hb.so⟩
/-! ### [..] * n -/
theorem embs_flat {C : Cc} {ρ : List Addr} {H : Hp} {ds : List D} {vs : List V} (h : Embs C ρ H ds vs) : ∀ n : Nat, Embs C ρ H (List.replicate n ds).flatten (List.replicate n vs).flatten
  | 0 => .nil
  | n + 1 => by
    rw [List.replicate_succ, List.replicate_succ, List.flatten_cons, List.flatten_cons]
    exact h.append (embs_flat h n)
theorem so_repN {C : Cc} {W : WX} {ta tb : TE} {fa : XA} {fb : XE} (ha : SoL C W ta fa) (hb : SoE C W tb fb) : SoL C W (tOp rRep ta tb) (xRepN fa fb) := ⟨fun {env h ρ σ H Q} he hh hp =>
  ha.go he hh ((Pst.bind hp).imp fun ds h1 ρ1 H1 e1 ok1 p1 p vs n hs =>
    hb.go ((he.mono e1).mono (Ext.fresh n)) (ok1.fresh n) ((Pst.bind (Pst.mono p1 (Ext.fresh n))).imp fun e h2 ρ2 H2 e2 ok2 p2 u hu => by
      split at p2
      · rename_i k
        split at p2
        · rename_i hl
          cases hu
          have kk := fresh_kept (vs := vs) ok1 n e2
          exact ⟨p, k, vs, rfl, rfl, kk, by omega, by omega, by rw [← hs.length]; exact sz_ok hl.2.2, fun q m => p2 ρ2 H2 Ext.refl ok2 q _ m (embs_flat (hs.mono ((Ext.fresh (o := .lst vs) n).trans e2)) _)⟩
        · exact p2.elim
      · exact p2.elim))⟩
theorem frepN {X : Cx} {W : WX} {a b : Expr} {ta tb : TE} {fa : XA} {fb : XE} {pos : Pos} (ha : FLs X W a ta fa) (hb : FE X W b tb fb) : FLs X W (.BinOp a .Mult b pos) (tOp rRep ta tb) (xRepN fa fb) := ⟨pe_op op_rep ha.pe hb.pe, so_repN ha.so hb.so⟩
/-! ### sep.join([..]) -/
def joinN (a : List Nat) : List (List Nat) → List Nat := TL.joinL a
def xJoinN (fo : XE) (fA : XA) : XE := fun env h => (fo env h).bind fun d h1 => match d with
  | .str a => (fA env h1).bind fun ds h2 => (match D.strs ds with
    | some ys => if (ys.map (·.length)).sum + ys.length * a.length ≤ 16777216 then .ok (.str (joinN a ys)) h2 else .stuck
    | none => .stuck)
  | _ => .stuck
theorem mkS_len (l : List (List Nat)) : (l.map mkS).map (·.length) = l.map (·.length) := by
  rw [List.map_map]
  rfl
theorem so_joinN {C : Cc} {W : WX} {to te : TE} {fo : XE} {fA : XA} (ho : SoE C W to fo) (ha : SoL C W te fA) : SoE C W (tM1 (fun x xs H Q => ∃ a p, ∃ ys : List Str, x = .str a ∧ xs = [.ref p] ∧ (SqL C.K H p (ys.map V.str) ∨ SqT C.K H p (ys.map V.str)) ∧
      (ys.map (·.length)).sum + ys.length * a.length ≤ 16777216 ∧ Q (.str (Txt.join a ys)) H) to te) (xJoinN fo fA) := ⟨fun {env h ρ σ H Q} he hh hp =>
  ho.go he hh ((Pst.bind hp).imp fun d h1 ρ1 H1 e1 ok1 p1 x hx => by
    split at p1
    · rename_i a
      cases hx
      refine ⟨⟨_, rfl⟩, ha.go (he.mono e1) ok1 ((Pst.bind p1).imp fun ds h2 ρ2 H2 e2 ok2 p2 p vs n hs => ?_)⟩
      split at p2
      · rename_i ys es
        split at p2
        · rename_i hl
          obtain ⟨rfl, _⟩ := strs_of es hs
          refine ⟨mkS a, p, ys.map mkS, rfl, rfl, .inl (SqL.of upd_same), ?_, ?_⟩
          · rw [mkS_len, List.length_map]
            exact hl
          · have e : Txt.join (mkS a) (ys.map mkS) = mkS (joinN a ys) := SX.join_S a ys
            rw [e]
            exact p2 ρ2 _ (Ext.fresh n) (ok2.fresh n) _ (.str _)
        · exact p2.elim
      · exact p2.elim
    · exact p1.elim)⟩
theorem fjoinN {X : Cx} {W : WX} {o e : Expr} {to te : TE} {fo : XE} {fA : XA} {apos pos : Pos} (ho : FE X W o to fo) (ha : FLs X W e te fA) (hs : starEach [e] X.env = [(false, eval e X.env)] := by rfl) (hbase : attributeBase o "join" X.env (eval o X.env) = eval o X.env := by rfl) (hline : (apos.endLine == pos.line) = true := by rfl) :
    FE X W (.Call (.Attribute o "join" apos) [e] [] pos) (tM1 (fun x xs H Q => ∃ a p, ∃ ys : List Str, x = .str a ∧ xs = [.ref p] ∧ (SqL X.K H p (ys.map V.str) ∨ SqT X.K H p (ys.map V.str)) ∧
      (ys.map (·.length)).sum + ys.length * a.length ≤ 16777216 ∧ Q (.str (Txt.join a ys)) H) to te) (xJoinN fo fA) := ⟨pe_join ho.pe ha.pe hs hbase hline, so_joinN ho.so ha.so⟩
/-! ### text * n -/
def dRepS : D → D → Hs → Res D := fun a b h => match a, b with
  | .str cs, .int k => if k < 100000 ∧ -100000 < k ∧ cs.length * k.toNat ≤ 100000 then .ok (.str (List.replicate k.toNat cs).flatten) h else .stuck
  | _, _ => .stuck
def rRepS : R2 := fun x y H Q => ∃ (cs : List Nat) (k : Int), x = .str ⟨cs.toArray⟩ ∧ y = .int k ∧ k < 100000 ∧ -100000 < k ∧ cs.length * k.toNat ≤ 100000 ∧ Q (.str ⟨(List.replicate k.toNat cs).flatten.toArray⟩) H
theorem foldl_repN (its : List Nat) : ∀ (k : Nat) (acc : List Nat), List.foldl (fun x1 x2 => x1 ++ x2) acc.toArray (List.replicate k its.toArray) = (acc ++ (List.replicate k its).flatten).toArray
  | 0, acc => by simp
  | k + 1, acc => by
    have e : acc.toArray ++ its.toArray = (acc ++ its).toArray := by simp
    rw [List.replicate_succ, List.foldl_cons, e, foldl_repN its k (acc ++ its), List.replicate_succ, List.flatten_cons, List.append_assoc]
theorem op_repS {X : Cx} : OpR X (binaryOp .Mult) rRepS := by
  intro pins s σ H x y v u Q I rx ry h
  obtain ⟨cs, k, rfl, rfl, h1, h2, h3, q⟩ := h
  obtain ⟨t, rfl⟩ := rx
  obtain ⟨t', rfl⟩ := ry
  have hlen : (⟨cs.toArray⟩ : Str).length = cs.length := by simp [Str.length]
  refine P.mul_str (by rw [decide_eq_false (by omega), decide_eq_false (by omega)]; rfl) (fun a b => ?_) (fun a b => ?_) ?_
  · rw [hlen]
    have hk : 1 ≤ k := by omega
    have : (cs.length : Int) ≤ 100000 := by
      have : cs.length * 1 ≤ cs.length * k.toNat := Nat.mul_le_mul_left _ (by omega)
      omega
    have : (9223372036854 : Int) ≤ (2 ^ 63 - 1) / k := Int.le_ediv_of_mul_le (by omega) (by omega)
    omega
  · rw [hlen]
    unfold Builtin.Str.tooLong
    refine decide_eq_false ?_
    have := sz_ok h3
    omega
  · by_cases c : k < 1
    · rw [if_pos c]
      have e : k.toNat = 0 := by omega
      rw [e] at q
      exact ⟨by decide, .str _, H, I.tok _, ⟨_, rfl⟩, q⟩
    · rw [if_neg c]
      by_cases c2 : (k == 1 || (⟨cs.toArray⟩ : Str).length == 0) = true
      · rw [if_pos c2]
        have e : (List.replicate k.toNat cs).flatten = cs := by
          rw [Bool.or_eq_true] at c2
          rcases c2 with z | z
          · have z' : k = 1 := eq_of_beq z
            subst z'
            show (List.replicate 1 cs).flatten = cs
            simp
          · have z' : cs.length = 0 := by
              have := eq_of_beq z
              rwa [hlen] at this
            have z2 := List.eq_nil_of_length_eq_zero z'
            subst z2
            simp
        rw [e] at q
        exact ⟨.str _, H, I, ⟨t, rfl⟩, q⟩
      · rw [if_neg c2]
        have e : List.foldl (fun x1 x2 => x1 ++ x2) #[] (List.replicate k.toNat cs.toArray) = (List.replicate k.toNat cs).flatten.toArray := by
          have := foldl_repN cs k.toNat []
          rw [List.nil_append] at this
          exact this
        show _ ∧ _
        rw [e]
        refine ⟨?_, .str _, H, I.tok _, ⟨_, rfl⟩, q⟩
        show (List.replicate k.toNat cs).flatten.toArray.size ≤ sizeLine
        rw [List.size_toArray]
        have : (List.replicate k.toNat cs).flatten.length = k.toNat * cs.length := by simp
        rw [this, Nat.mul_comm]
        exact sz_ok h3
theorem so_repS {C : Cc} {W : WX} : SoO C W rRepS dRepS := ⟨fun {h ρ σ H Q d1 d2 x y} ok hx hy hp => by
  unfold dRepS at hp
  split at hp
  · split at hp
    · rename_i cs k hl
      cases hx
      cases hy
      exact ⟨cs, k, rfl, rfl, hl.1, hl.2.1, hl.2.2, hp ρ H Ext.refl ok _ (.str _)⟩
    · exact hp.elim
  · exact hp.elim⟩
theorem frepS {X : Cx} {W : WX} {a b : Expr} {ta tb : TE} {fa fb : XE} {pos : Pos} (ha : FE X W a ta fa) (hb : FE X W b tb fb) : FE X W (.BinOp a .Mult b pos) (tOp rRepS ta tb) (xOp dRepS fa fb) := fop op_repS so_repS ha hb
/-! ### text[::-1] -/
theorem sliceRev (z : Str) : (Builtin.Str.strSliceIndices none none (-1) z.length).filterMap (z.cps[·]?) = z.cps.toList.reverse := by
  show (sliceRange ((z.length : Int) - 1) (-1) (-1)).filterMap (z.cps[·]?) = _
  rw [PySem.W.krv_sliceRange, PySem.W.krv_range, List.filterMap_reverse]
  show ((List.range z.cps.size).filterMap (z.cps[·]?)).reverse = _
  rw [PySem.W.krv_all]
def tRevS (te : TE) : TE := fun σ H Q => te σ H fun x H1 => ∃ cs : List Nat, x = .str ⟨cs.toArray⟩ ∧ cs.length ≤ 100000 ∧ Q (.str ⟨cs.reverse.toArray⟩) H1
theorem pe_revS {X : Cx} {e : Expr} {te : TE} {k : Nat} {p1 p2 p3 pos : Pos} (he : PE X e te) : PE X (.Subscript e (.Slice none none (some (.UnaryOp .USub (.Constant (.int 1) k p1) p2)) p3) pos) (tRevS te) := by
  refine ⟨fun pins s σ H Q I h => ?_⟩
  refine Subscript_ (thn (he.run pins s σ H _ I h) fun v s1 ⟨x, H1, I1, r1, q1⟩ => ?_)
  obtain ⟨cs, ex, hl, q⟩ := q1
  subst ex
  obtain ⟨t, rfl⟩ := r1
  have hst : PO X (some (.UnaryOp .USub (.Constant (.int 1) k p1) p2)) (tPart (tUn (rU fun i => .int (-i)) (tC (.int 1)))) := po_some (pe_un un_neg pe_int)
  refine wpAny_Slice (thn (po_none.run pins s1 σ H1 (fun o H2 => o = none ∧ H2 = H1) I1 ⟨rfl, rfl⟩) fun vl s2 ⟨l, H2, I2, pl, el, e2⟩ => ?_)
  subst el e2
  refine thn (po_none.run pins s2 σ H2 (fun o H3 => o = none ∧ H3 = H2) I2 ⟨rfl, rfl⟩) fun vu s3 ⟨u, H3, I3, pu, eu, e3⟩ => ?_
  subst eu e3
  refine thn (hst.run pins s3 σ H3 (fun o H4 => o = some (-1) ∧ H4 = H3) I3 ⟨1, rfl, -1, rfl, rfl, rfl⟩) fun vs s4 ⟨o, H4, I4, ps, eo, e4⟩ => ?_
  subst eo e4
  have I5 : Inv X pins σ H4 { s4 with heap := s4.heap.push { cls := .type "slice", data := .fields #[vl, vu, vs] } } := I4.kept (t' := s4.toks) fun b ob q => Heap.get?_push_of_some _ q
  show wpAny (model X.prog X.w) X.A (subscriptTail e (.Slice none none (some (.UnaryOp .USub (.Constant (.int 1) k p1) p2)) p3) (.str ⟨cs.toArray⟩ t) (.ref s4.heap.objs.size)) (EP X pins σ Q) X.xe { s4 with heap := s4.heap.push { cls := .type "slice", data := .fields #[vl, vu, vs] } }
  obtain ⟨l', rfl, hl'⟩ := IsPart.raw pl
  obtain ⟨u', rfl, hu'⟩ := IsPart.raw pu
  obtain ⟨c', rfl, hc'⟩ := IsPart.raw ps
  refine tail_any (ops := [.str ⟨cs.toArray⟩ t, .ref s4.heap.objs.size]) (typeIs_str _ _ _) (F.slot_str_getitem.lookup) ?_ (by with_unfolding_all rfl)
  obtain ⟨os, hos, hcs, hds⟩ := Heap.IsSliceOf.new s4.heap (partValue l') (partValue u') (partValue c')
  refine wpAny_getItem_str_slice (l := l') (u := u') (st := c') ⟨os, hos, hcs, hds⟩ (by rw [hc']; rfl) ?_
  unfold sliceMade slicePicked
  rw [hl', hu', hc']
  rw [if_neg (by show ¬ ((((-1 : Int) == 1) && _) = true); exact Bool.false_ne_true)]
  have e : ((Builtin.Str.strSliceIndices none none ((some (-1 : Int)).getD 1) (⟨cs.toArray⟩ : Str).length).filterMap ((⟨cs.toArray⟩ : Str).cps[·]?)) = cs.reverse := sliceRev ⟨cs.toArray⟩
  rw [e]
  refine ⟨?_, .str _, H4, I5.tok _, ⟨_, rfl⟩, q⟩
  show cs.reverse.toArray.size ≤ sizeLine
  rw [List.size_toArray, List.length_reverse]
  exact sz_ok hl
def xRevS (f : XE) : XE := fun env h => (f env h).bind fun d h1 => match d with
  | .str cs => if cs.length ≤ 100000 then .ok (.str cs.reverse) h1 else .stuck
  | _ => .stuck
theorem frevS {X : Cx} {W : WX} {e : Expr} {te : TE} {f : XE} {k : Nat} {p1 p2 p3 pos : Pos} (he : FE X W e te f) : FE X W (.Subscript e (.Slice none none (some (.UnaryOp .USub (.Constant (.int 1) k p1) p2)) p3) pos) (tRevS te) (xRevS f) :=
  ⟨pe_revS he.pe, ⟨fun {env h ρ σ H Q} en ok hp => he.so.go en ok ((Pst.bind hp).imp fun d h1 ρ1 H1 e1 ok1 p1 v hv => by
    split at p1
    · rename_i cs
      split at p1
      · rename_i hl
        cases hv
        exact ⟨cs, rfl, hl, p1 ρ1 H1 Ext.refl ok1 _ (.str _)⟩
      · exact p1.elim
    · exact p1.elim)⟩⟩
/-! ### slices of tuples, of texts -/
def xSlV (f : XE) (lo hi : XO) : XE := fun env h => (f env h).bind fun d h1 => (lo env h1).bind fun l h2 => (hi env h2).bind fun u h3 => match d with
  | .tup ds => .ok (.tup (cutD ds l u)) h3
  | .str cs => if cs.length ≤ 100000 then .ok (.str (cutD cs l u)) h3 else .stuck
  | _ => .stuck
theorem sl_val {X : Cx} : SlR X (fun x lo hi H Q => rSlA X.K x lo hi H Q ∨ rSlS x lo hi H Q) := SlR.or sl_tupA sl_str
theorem cut_whole {α : Type} {xs : List α} {lo hi : Option Int} (h : HT.sIx xs.length 0 lo = 0 ∧ HT.sIx xs.length xs.length hi = xs.length) : cutD xs lo hi = xs := by
  unfold cutD
  rw [h.1, h.2]
  exact List.take_of_length_le (by simp)
theorem fslV {X : Cx} {W : WX} {e : Expr} {lo hi : Option Expr} {te : TE} {tl th : TO} {f : XE} {fl fh : XO} {p2 pos : Pos} (he : FE X W e te f) (hl : FO X W lo tl fl) (hh : FO X W hi th fh) : FE X W (.Subscript e (.Slice lo hi none p2) pos) (tSl (fun x lo hi H Q => rSlA X.K x lo hi H Q ∨ rSlS x lo hi H Q) te tl th) (xSlV f fl fh) :=
  ⟨pe_slice sl_val he.pe hl.po hh.po, ⟨fun {env h ρ σ H Q} en ok hp =>
    he.so.go en ok ((Pst.bind hp).imp fun d h1 ρ1 H1 e1 ok1 p1 v hv =>
      hl.so.go (en.mono e1) ok1 ((Pst.bind p1).imp fun l h2 ρ2 H2 e2 ok2 p2 =>
        hh.so.go ((en.mono e1).mono e2) ok2 ((Pst.bind p2).imp fun u h3 ρ3 H3 e3 ok3 p3 => by
          have hv3 := (hv.mono e2).mono e3
          split at p3
          · rename_i ds
            cases hv3 with
            | @tup _ xs a hs hx =>
              refine .inl ⟨a, xs, rfl, hs, fun hw => ?_, fun _ p n => ?_⟩
              · rw [← hx.length] at hw
                exact p3 ρ3 H3 Ext.refl ok3 _ (by rw [cut_whole hw]; exact .tup hs hx)
              · exact p3 ρ3 _ (Ext.fresh n) (ok3.fresh n) _ (.tup (.inl (.inl upd_same)) ((hx.cut l u).mono (Ext.fresh n)))
          · rename_i cs
            split at p3
            · rename_i hl
              cases hv3
              refine .inr ⟨_, rfl, ?_, p3 ρ3 H3 Ext.refl ok3 _ ?_⟩
              · show cs.toArray.size ≤ sizeLine
                rw [List.size_toArray]
                exact sz_ok hl
              · have ec : cutS (⟨cs.toArray⟩ : Str) l u = ⟨(cutD cs l u).toArray⟩ := by
                  unfold cutS cutD
                  simp [Str.length]
                rw [ec]
                exact .str _
            · exact p3.elim
          · exact p3.elim)))⟩⟩
end FL

/-! FZ3: sorted(tuple of ints), max and min, tuple * n, d[i] -= x, raise and except. -/
namespace FL
open PySem PySem.Spec PyProof.Rows L2
section
variable {prog : Program} {w : World} {A : Around} {E : Value → Shared → Prop} {s : Shared}
theorem collect_tup {l : Addr} {vs : List Value} {Q : List Value → Shared → Prop} (hl : s.heap.IsTuple l vs.toArray)
    (h : Q vs { s with heap := (s.heap.push (seqObj "list" #[] 0)).update s.heap.objs.size (Obj.mapSeq (· ++ vs.toArray)) }) (hsz : vs.length ≤ sizeLine) :
    wpAny (model prog w) A (collect (.ref l)) Q E s := by
  obtain ⟨o, ho, hc, n, hd⟩ := id hl
  unfold collect
  apply wpAny_bind
  apply wpAny_runValue
  apply codeAny_builtin entry_proto_collect'
  show wpAny _ _ (do again (.builtin "list.__iadd__" ⟨[← newList [], .ref l], []⟩)) _ _ s
  apply wpAny_bind
  refine wpAny_newList (wpAny_pure ⟨Code.quiet_builtin _ (by decide +kernel), codeAny_builtin entry_list_iadd' ?_⟩)
  show wpAny _ _ (Builtin.List.listExtendWith (.ref s.heap.objs.size) (.ref l) (.ref s.heap.objs.size)) _ _ { s with heap := s.heap.push (seqObj "list" #[] 0) }
  unfold Builtin.List.listExtendWith
  have ho' : (s.heap.push (seqObj "list" #[] 0)).get? l = some o := Heap.get?_push_of_some _ ho
  refine wpAny_bind (wpAny_typeOf (T := "tuple") ⟨o, ho', hc⟩ ?_)
  have ht : (Value.type "tuple" == Value.type "tuple") = true := by rfl
  rw [if_pos (by rw [ht]; simp)]
  refine wpAny_bind (listItems_at ho' hd ?_)
  refine wpAny_bind (listItems_at (xs := #[]) (n := 0) (Heap.get?_push_size _ rfl) rfl ?_)
  rw [if_neg (by simp)]
  refine wpAny_bind (listUpdate_at (xs := #[]) (n := 0) (Heap.get?_push_size _ rfl) rfl ?_ (Nat.zero_le _) (by show (#[] ++ vs.toArray).size ≤ sizeLine + 1; simp only [Array.size_append, List.size_toArray, List.length_nil]; omega))
  apply wpAny_pure
  show wpAny (model prog w) A (do
      let o ← load s.heap.objs.size
      match o.data with
      | .seq xs _ => pure xs.toList
      | _ => unsupported "internal:collect") Q E { s with heap := (s.heap.push (seqObj "list" #[] 0)).update s.heap.objs.size (Obj.mapSeq (· ++ vs.toArray)) }
  refine wpAny_bind (wpAny_load (get?_update_seq (Heap.get?_push_size _ rfl) _) ?_)
  show wpAny _ _ (pure ((#[] : Array Value) ++ vs.toArray).toList) Q E _
  rw [show ((#[] : Array Value) ++ vs.toArray).toList = vs by simp]
  exact wpAny_pure h
theorem sorted_tup {l : Addr} {vs : List Value} {ns : List Int} {Q : Value → Shared → Prop} (hl : s.heap.IsTuple l vs.toArray) (hI : IntsAre vs ns) (hz : vs.length ≤ sizeLine)
    (h : ∀ (out : Array Value) (ns' : List Int), IntsAre out.toList ns' → ns'.Perm ns → ns'.Pairwise (· ≤ ·) → Q (.ref (s.heap.objs.size + 1)) { s with heap := sortedAll s.heap vs out }) :
    wpAny (model prog w) A (call (.builtin "sorted") [.ref l]) Q E s := by
  refine Calls.call_function_entry kind_sorted plain_sorted entry_sorted (args_sorted1 _) ?_
  unfold Builtin.«sorted»
  refine wpAny_bind (m := checkCount "sorted" 1 1 _) (wpAny_pure ?_)
  refine wpAny_bind (collect_tup hl ?_ hz)
  refine wpAny_bind (wpAny_newList ?_ hz)
  have hsz : ((s.heap.push (seqObj "list" #[] 0)).update s.heap.objs.size (Obj.mapSeq (· ++ vs.toArray))).objs.size = s.heap.objs.size + 1 := by
    rw [Heap.size_update, size_push']
  have hoL : (((s.heap.push (seqObj "list" #[] 0)).update s.heap.objs.size (Obj.mapSeq (· ++ vs.toArray))).push (seqObj "list" vs.toArray 0)).get? (s.heap.objs.size + 1) = some (seqObj "list" vs.toArray 0) := by
    rw [← hsz]; exact Heap.get?_push_size _ rfl
  show wpAny _ _ _ _ _ { s with heap := ((s.heap.push (seqObj "list" #[] 0)).update s.heap.objs.size (Obj.mapSeq (· ++ vs.toArray))).push (seqObj "list" vs.toArray 0) }
  rw [hsz]
  refine wpAny_bind (wpAny_holding (wpAny_call_entry slot_list_sort ⟨_, hoL, rfl⟩ entry_list_sort (list_sort_treeAny hoL hI hz fun out ns' a1 a2 a3 => ⟨_, rfl, ?_⟩) (args_list_sort _)))
  exact wpAny_pure ⟨_, rfl, h out ns' a1 a2 a3⟩
end
def rSortedIA (K : PySem.W.Frag) : List V → Hp → VK → Prop := fun vs H Q => ∃ (a : Addr) (ns : List Int), vs = [V.ref a] ∧ (SqL K H a (ns.map V.int) ∨ SqT K H a (ns.map V.int)) ∧
  ∀ (ns' : List Int) (p : Addr), ns'.Perm ns → ns'.Pairwise (· ≤ ·) → H p = none → Q (.ref p) (upd H p (.lst (ns'.map V.int)))
theorem cr_sortedIA {X : Cx} : CallR X (.builtin "sorted") (rSortedIA X.K) := by
  intro pins s σ H vs us Q I r h
  obtain ⟨a, ns, rfl, hs | hs, q⟩ := h
  · exact cr_sortedI pins s σ H _ us Q I r ⟨a, ns, rfl, hs, q⟩
  · obtain ⟨its, rv, hl, hz⟩ := I.tuple hs
    rw [Vals.ref1 r]
    have hi := rv.ints
    have hlen := rv.length
    refine sorted_tup hl hi (by rw [← rv.length]; exact hz) fun out ns' k1 k2 k3 => ?_
    obtain ⟨ep, he'⟩ := PyProof.Rows.sortedAll_at s.heap its out
    have hlen : (ns'.map V.int).length ≤ sizeLine := by
      rw [List.length_map, k2.length_eq]
      rw [List.length_map] at hz
      exact hz
    exact ⟨.ref _, upd H (s.heap.objs.size + 1) (.lst (ns'.map V.int)), I.laid (t' := s.toks) (fun _ _ => PyProof.Rows.sortedAll_old) (Nat.le_succ _) ⟨hlen, out.toList, ep, vals_of_ints k1, by simpa using he'⟩, rfl, q _ _ k2 k3 (I.hok.fresh (Nat.le_succ _))⟩
def xSortV (f : XE) : XA := fun env h => (f env h).bind fun d h1 => match d.seq h1 with
  | some ds => gSortI ds h1
  | none => .stuck
theorem so_sortV {C : Cc} {W : WX} {te : TE} {f : XE} (hf : SoE C W te f) : SoL C W (tCB (rSortedIA C.K) (tCons te tNil)) (xSortV f) := ⟨fun {env h ρ σ H Q} he hh hp =>
  hf.go he hh ((Pst.bind hp).imp fun d h1 ρ1 H1 e1 ok1 p1 v hv => by
    split at p1
    · rename_i ds e
      obtain ⟨a, vs, rfl, q1, q2⟩ := seq_of ok1 hv e
      unfold gSortI at p1
      split at p1
      · rename_i ns e2
        obtain ⟨rfl, _⟩ := ints_of e2 q1
        refine ⟨a, ns, rfl, q2, fun ns' p k1 k2 n => ?_⟩
        rw [sortI_eq k1 k2]
        exact p1 ρ1 H1 Ext.refl ok1 p _ n (embs_ints _)
      · exact p1.elim
    · exact p1.elim)⟩
theorem fsortV {X : Cx} {W : WX} {e : Expr} {te : TE} {f : XE} {p pos : Pos} (hm : X.mg "sorted" = none) (ha : FE X W e te f) (hg : Gl X "sorted" := by rfl) (hs : starEach [e] X.env = (false, eval e X.env) :: starEach [] X.env := by rfl) (hpl : (backTo pos (starEach [] X.env)).any (·.1) = false := by rfl) :
    FLs X W (.Call (.Name "sorted" p) [e] [] pos) (tCB (rSortedIA X.K) (tCons te tNil)) (xSortV f) := ⟨pe_callB cr_sortedIA hg hm (by decide +kernel) (pa_cons ha.pe pa_nil hs) (by decide +kernel) (by decide +kernel) hs hpl, so_sortV ha.so⟩
/-! ### max, min -/
def maxL (ns : List Int) : Int := ns.foldl (fun a b => if a < b then b else a) (ns.headD 0)
def minL (ns : List Int) : Int := ns.foldl (fun a b => if b < a then b else a) (ns.headD 0)
theorem max_fold : ∀ (r : List Int) (a : Int), (r.foldl (fun a b => if a < b then b else a) a = a ∨ r.foldl (fun a b => if a < b then b else a) a ∈ r) ∧ a ≤ r.foldl (fun a b => if a < b then b else a) a ∧ ∀ y ∈ r, y ≤ r.foldl (fun a b => if a < b then b else a) a
  | [], a => ⟨.inl rfl, Int.le_refl _, fun y h => by simp at h⟩
  | b :: r, a => by
    have ih := max_fold r (if a < b then b else a)
    rw [List.foldl_cons]
    generalize hm : r.foldl (fun a b => if a < b then b else a) (if a < b then b else a) = m at ih
    obtain ⟨h1, h2, h3⟩ := ih
    have hab : (if a < b then b else a) = a ∧ b ≤ a ∨ (if a < b then b else a) = b ∧ a < b := by
      by_cases c : a < b
      · rw [if_pos c]; exact .inr ⟨rfl, c⟩
      · rw [if_neg c]; exact .inl ⟨rfl, by omega⟩
    refine ⟨?_, by omega, fun y hy => ?_⟩
    · rcases h1 with h1 | h1
      · rcases hab with ⟨e, _⟩ | ⟨e, _⟩
        · rw [e] at h1; exact .inl h1
        · rw [e] at h1; exact .inr (by rw [h1]; exact List.mem_cons_self)
      · exact .inr (List.mem_cons_of_mem _ h1)
    · rcases List.mem_cons.mp hy with rfl | hy
      · omega
      · exact h3 y hy
theorem maxL_spec {ns : List Int} (h : ns ≠ []) : maxL ns ∈ ns ∧ ∀ y ∈ ns, y ≤ maxL ns := by
  cases ns with
  | nil => exact absurd rfl h
  | cons a r =>
    have e : maxL (a :: r) = r.foldl (fun a b => if a < b then b else a) a := by
      unfold maxL
      show (r.foldl (fun a b => if a < b then b else a) (if a < a then a else a)) = _
      rw [if_neg (Int.lt_irrefl a)]
    obtain ⟨h1, h2, h3⟩ := max_fold r a
    rw [e]
    refine ⟨?_, fun y hy => ?_⟩
    · rcases h1 with h1 | h1
      · rw [h1]; exact List.mem_cons_self
      · exact List.mem_cons_of_mem _ h1
    · rcases List.mem_cons.mp hy with rfl | hy
      · exact h2
      · exact h3 y hy
def gMax : List D → Hs → Res D := fun ds h => match D.ints ds with
  | some (n :: r) => .ok (.int (maxL (n :: r))) h
  | _ => .stuck
theorem so_maxF {C : Cc} {W : WX} : SoF C W (rMax C.K) gMax := ⟨fun {h ρ σ H Q ds p vs} ok hl hd hp => by
  unfold gMax at hp
  split at hp
  · rename_i n r e
    obtain ⟨rfl, _⟩ := ints_of e hd
    refine ⟨p, n :: r, rfl, hl, by simp, fun m m1 m2 => ?_⟩
    obtain ⟨k1, k2⟩ := maxL_spec (ns := n :: r) (by simp)
    have e : m = maxL (n :: r) := Int.le_antisymm (k2 m m1) (m2 _ k1)
    rw [e]
    exact hp ρ H Ext.refl ok _ (.int _)
  · exact hp.elim⟩
def gMax2 : List D → Hs → Res D := fun args h => match args with
  | [.int i, .int j] => .ok (.int (if j > i then j else i)) h
  | _ => .stuck
theorem so_max2 {C : Cc} {W : WX} : SoC C W (fun xs H Q => ∃ i j, xs = [.int i, .int j] ∧ Q (.int (if j > i then j else i)) H) gMax2 := ⟨fun {h ρ σ H Q ds xs} ok hd hp => by
  unfold gMax2 at hp
  split at hp
  · cases hd with
    | cons a hr =>
      cases hr with
      | cons b hr =>
        cases hr
        cases a
        cases b
        exact ⟨_, _, rfl, hp ρ H Ext.refl ok _ (.int _)⟩
  · exact hp.elim⟩
/-! ### tuple * n -/
def dRepT : D → D → Hs → Res D := fun a b h => match a, b with
  | .tup (d :: ds), .int k => if 2 ≤ k ∧ k ≤ 1000 ∧ (d :: ds).length ≤ 1000 then .ok (.tup (List.replicate k.toNat (d :: ds)).flatten) h else .stuck
  | _, _ => .stuck
theorem so_repT {C : Cc} {W : WX} : SoO C W (rRepT C.K) dRepT := ⟨fun {h ρ σ H Q d1 d2 x y} ok hx hy hp => by
  unfold dRepT at hp
  split at hp
  · split at hp
    · rename_i d ds k hl
      cases hy
      cases hx with
      | @tup _ xs a hs he =>
        refine ⟨a, k, xs, rfl, rfl, hs, fun z => ?_, hl.1, hl.2.1, by rw [← he.length]; exact hl.2.2, fun p n => ?_⟩
        · rw [z] at he
          cases he
        · exact hp ρ _ (Ext.fresh n) (ok.fresh n) _ (.tup (.inl (.inl upd_same)) ((embs_flat he _).mono (Ext.fresh n)))
    · exact hp.elim
  · exact hp.elim⟩
theorem frepT {X : Cx} {W : WX} {a b : Expr} {ta tb : TE} {fa fb : XE} {pos : Pos} (ha : FE X W a ta fa) (hb : FE X W b tb fb) : FE X W (.BinOp a .Mult b pos) (tOp (rRepT X.K) ta tb) (xOp dRepT fa fb) := fop op_repT so_repT ha hb
/-! ### o[i] += e, o[i] -= e: lists of ints -/
def sAugIx (op : D → D → Hs → Res D) (fo fi fe : XE) : XS := fun env h => ((fo env h).bind fun d h1 => (fi env h1).bind fun i h2 => match d, i with
  | .ref k, .int j => (match h2[k]? with
    | some (.lst ds) => (match (if 0 ≤ j then atI ds j else none) with
      | some x => (fe env h2).bind fun y h3 => (op x y h3).bind fun z h4 => (match h4[k]? with
        | some (.lst es) => (match ixN es.length j with
          | some n => Res.ok () (h4.set k (.lst (es.set n z)))
          | none => .stuck)
        | _ => .stuck)
      | none => .stuck)
    | _ => .stuck)
  | _, _ => .stuck).andS env fun _ h5 => .nx env h5
def rIxL0 (K : PySem.W.Frag) : V → V → Hp → VK → Prop := fun x y H Q => ∃ p xs i v, x = .ref p ∧ y = .int i ∧ 0 ≤ i ∧ SqL K H p xs ∧ atI xs i = some v ∧ Q v H
theorem pget_list {X : Cx} : PGet X (rIxL0 X.K) := by
  intro pins s σ H o i ov iv Q I ro ri h
  obtain ⟨p, xs, i, z, rfl, rfl, h0, hq, he, q⟩ := h
  cases ro
  obtain ⟨t, rfl⟩ := ri
  obtain ⟨its, r, pl, hz⟩ := I.list hq
  obtain ⟨j, h1, h2, h3, h4, h5⟩ := atI_get he
  obtain ⟨w, ew, rw'⟩ := r.get h2
  have hl := r.length
  have hn := line63
  have hj : i.toNat = j := by
    rw [seqIndex_of h0 h5] at h1
    exact Option.some.inj h1
  exact wpAny_getItem_list pl.isList h0 (by omega) (by rw [hj]; simpa using ew) ⟨z, H, I, rw', q⟩
theorem so_augIx {C : Cc} {W : WX} {to ti te : TE} {fo fi fe : XE} {tip : TIp} {op : D → D → Hs → Res D} (ho : SoE C W to fo) (hi : SoE C W ti fi) (he : SoE C W te fe) (hop : SoI C W tip op) : SoS C W (tAugS to ti te (rIxL0 C.K) tip rSetL) (sAugIx op fo fi fe) := ⟨fun {env h ρ σ H Dn} en ok hp =>
  ho.go en ok ((Pst.bind (PsS.andS en hp)).imp fun d h1 ρ1 H1 e1 ok1 p1 x hx =>
    hi.go (en.mono e1) ok1 ((Pst.bind p1).imp fun i h2 ρ2 H2 e2 ok2 p2 y hy => by
      split at p2
      · rename_i k j
        split at p2
        · rename_i ds e
          split at p2
          · rename_i x0 ex
            cases hy
            cases hx with
            | @ref _ a ha =>
              have ha2 := e2.at ha
              obtain ⟨vs, q1, q2⟩ := ok2.ob _ _ _ ha2 e
              have h0 : 0 ≤ j := by
                by_cases c : 0 ≤ j
                · exact c
                · rw [if_neg c] at ex; cases ex
              rw [if_pos h0] at ex
              obtain ⟨v0, ev, hv0⟩ := q2.atI ex
              refine ⟨a, vs, j, v0, rfl, rfl, h0, SqL.of q1, ev, ?_⟩
              refine he.go ((en.mono e1).mono e2) ok2 ((Pst.bind p2).imp fun y1 h3 ρ3 H3 e3 ok3 p3 w hw => ?_)
              refine hop.go ok3 (hv0.mono e3) hw ((Pst.bind p3).imp fun z h4 ρ4 H4 e4 ok4 p4 u hu => ?_)
              split at p4
              · rename_i es e'
                split at p4
                · rename_i n en'
                  have ha4 := e4.at (e3.at ha2)
                  obtain ⟨vs2, r1, r2⟩ := ok4.ob _ _ _ ha4 e'
                  have ew := Ext.write (o := .lst (vs2.set n u)) ok4 ha4
                  have okw := ok4.write ha4 (b := .lst (es.set n z)) ⟨_, upd_same, (r2.set hu n).mono ew⟩
                  exact ⟨a, vs2, j, n, rfl, rfl, r1, by rw [← r2.length]; exact en', p4 ρ4 _ ew okw ρ4 σ _ Ext.refl okw (((((en.mono e1).mono e2).mono e3).mono e4).mono ew)⟩
                · exact p4.elim
              · exact p4.elim
          · exact p2.elim
        · exact p2.elim
      · exact p2.elim))⟩
theorem fs_augIx {X : Cx} {W : WX} {o i e : Expr} {to ti te : TE} {fo fi fe : XE} {tip : TIp} {op : Operator} {g : D → D → Hs → Res D} {tpos pos : Pos} (ho : FE X W o to fo) (hi : FE X W i ti fi) (he : FE X W e te fe) (hp : PIp X op tip) (hg : SoI (cc X) W tip g)
    (ha : ∀ ov iv new, augStore i ov iv new = (do holding [new, ov, iv] (setItem ov iv new); release [new, ov, iv] []; pure .next) := by intros; rfl) : FS X W (.AugAssign (.Subscript o i tpos) op e pos) (tAugS to ti te (rIxL0 X.K) tip rSetL) (sAugIx g fo fi fe) :=
  ⟨ps_augS ho.pe hi.pe pget_list he.pe hp set_list ha, so_augIx ho.so hi.so he.so hg⟩
end FL

/-! FZ4: try .. except X as e: return isinstance(e, A) and isinstance(e, B). -/
namespace FL
open PySem PySem.Spec PyProof.Rows L2
theorem EnvOk.forget {C : Cc} {ρ : List Addr} {H : Hp} {env : Sl} {σ : L2.St} (h : EnvOk C ρ H env σ) (i : Nat) (x : Option V) : EnvOk C ρ H (env.set i none) (σ.set i x) := by
  refine ⟨by rw [List.length_set, List.length_set]; exact h.len, fun j d q => ?_⟩
  by_cases hj : i = j
  · subst hj
    have hi : i < env.length := by
      have := (List.getElem?_eq_some_iff.mp q).1
      rwa [List.length_set] at this
    rw [List.getElem?_set_self hi] at q
    cases q
  · rw [List.getElem?_set_ne hj] at q
    obtain ⟨v', q1, q2⟩ := h.at_ j d q
    exact ⟨v', by rw [List.getElem?_set_ne hj]; exact q1, q2⟩
/-- what is known of the class k, caught by x -/
structure ErrK (K : PySem.W.Frag) (D L : Addr) : Prop where
  exm : PySem.W.exmOne K (.ref D) (.ref L) = some true
  ec : ExcC K D
  own : PySem.W.kitOne K (.ref D) (.ref D) = some true
  val : PySem.W.kitOne K (.ref D) (.type "ValueError") = some true
theorem ErrK.of {K : PySem.W.Frag} {D L : Addr} (h1 : PySem.W.subIn K (.ref L) (.type "BaseException") = some true) (h2 : PySem.W.hasDictIn K L = true) (h3 : PySem.W.typeIn K (.ref L) = some (.type "type")) (h4 : PySem.W.subIn K (.ref D) (.ref L) = some true) (ec : ExcC K D) (hv : PySem.W.subIn K (.ref D) (.type "ValueError") = some true) : ErrK K D L := by
  refine ⟨PySem.W.exm_ref h1 h2 h3 h4, ec, ?_, ?_⟩
  · unfold PySem.W.kitOne
    rw [if_pos (by simp)]
  · unfold PySem.W.kitOne
    rw [if_neg (by show ¬ ((Value.ref D == Value.type "ValueError") = true); exact Bool.false_ne_true)]
    show (if PySem.W.kitMeta "ValueError" = true then PySem.W.subIn K (.ref D) (.type "ValueError") else none) = some true
    rw [if_pos (by decide +kernel), hv]
def sTryIs (i : Nat) (b : XS) (k : Str) : XS := fun env h => match b env h with
  | .exc c e h' => if c = k ∧ i < e.length then .rt (.bl true) h' else .stuck
  | r => r
theorem fs_tryIs {X : Cx} {W : WX} {x n k : Str} {D L : Addr} {i : Nat} {body : List Stmt} {tf : WX → List (Addr × Obj) → (Value → Shared → Prop) → TS} {b : XS} {np p1 p2 p3 p4 p5 p6 p7 p8 p9 p10 pos pos' : Pos} (hN : X.N.Nodup) (tk : Takes X W) (mk : X.mg k = some (.ref D)) (mx : X.mg x = some (.ref L)) (E : ErrK X.K D L) (mi : X.mg "isinstance" = none) (mv : X.mg "ValueError" = none)
    (hb : ∀ W' pn xe, Takes (X.tr pn xe) W' → FSs (X.tr pn xe) W' body (tf W' pn xe) b) (kf : ∀ W' pn xe, tf W' pn xe = tf W' [] (fun _ _ => True) := by intro _ _ _; rfl) (hn : n ≠ x := by decide +kernel)
    (hs : X.stack = X.env :: X.outer := by rfl) (hf : X.env.frame = some X.env.locals := by rfl) (hi : X.N[i]? = some n := by rfl) (hln : X.env.kindOf n = some .local := by rfl) (hgx : Gl X x := by rfl) (hdx : (x == ("__debug__" : Str)) = false := by decide +kernel)
    (hgk : Gl X k := by rfl) (hdk : (k == ("__debug__" : Str)) = false := by decide +kernel) (hgi : Gl X "isinstance" := by rfl) (hgv : Gl X "ValueError" := by rfl) (hvn : Vis X.env.scope n := by exact Or.inl rfl) (hdn : (n == ("__debug__" : Str)) = false := by decide +kernel) (hcn : (n == ("__classdict__" : Str)) = false := by decide +kernel) :
    FS X W (.Try body [.ExceptHandler (some (.Name x np)) (some n) [.Return (some (.BoolOp .And [.Call (.Name "isinstance" p1) [.Name n p2, .Name k p3] [] p4, .Call (.Name "isinstance" p5) [.Name n p6, .Name "ValueError" p7] [] p8] p9)) p10] pos'] [] [] pos)
      (fun Dn σ H => (fun W' => tf W' [] (fun _ _ => True)) (wAs X.K (.ref L) i (fun a cls d => fun Dn σ H => ∃ (_ : cls = .ref D ∧ d = none), tRet (tAndV (tCB (rIsE X.K D a) (tCons (tVar i) (tCons (tC (.ref D)) tNil))) (tCB (rIsE X.K D a) (tCons (tVar i) (tCons (tC (.ty "ValueError")) tNil)))) Dn σ H) W Dn) Dn σ H) (sTryIs i b k) := by
  have hb : ∀ W' pn xe, Takes (X.tr pn xe) W' → FSs (X.tr pn xe) W' body ((fun W' => tf W' [] (fun _ _ => True)) W') b := fun W' pn xe tk' => by
    have q := hb W' pn xe tk'
    rw [kf] at q
    exact q
  constructor
  · refine ps_try_as (tb := fun W' => tf W' [] (fun _ _ => True)) hs hf hN hi hln ⟨hgx, hdx, .inl mx⟩ tk (fun W' pn xe tk' _ => (hb W' pn xe tk').ps) (fun a oe cls d pn hz hv => ?_)
    refine ⟨fun pins s σ H Dn I h => ?_⟩
    obtain ⟨⟨rfl, rfl⟩, h⟩ := h
    have ci := call_isE (X := X) (a := a) (pn := pn) E.ec hz hv
    have va : FE (X.suite a ((a, oe) :: pn)) W0 (.Name n p2) (tVar i) (xVar i) := fv i hi hvn hdn hcn
    have vb : FE (X.suite a ((a, oe) :: pn)) W0 (.Name n p6) (tVar i) (xVar i) := fv i hi hvn hdn hcn
    have ga : FE (X.suite a ((a, oe) :: pn)) W0 (.Name k p3) (tC (.ref D)) (xC (.gl k)) := fgo hgk mk hdk
    have gb : FE (X.suite a ((a, oe) :: pn)) W0 (.Name "ValueError" p7) (tC (.ty "ValueError")) (xC (.ty "ValueError")) := fcls mv (by decide +kernel) hgv
    have c1 : PE (X.suite a ((a, oe) :: pn)) (.Call (.Name "isinstance" p1) [.Name n p2, .Name k p3] [] p4) _ := pe_callB ci hgi mi (by decide +kernel) (pa_cons va.pe (pa_cons ga.pe pa_nil rfl) rfl) (by decide +kernel) (by decide +kernel) rfl rfl
    have c2 : PE (X.suite a ((a, oe) :: pn)) (.Call (.Name "isinstance" p5) [.Name n p6, .Name "ValueError" p7] [] p8) _ := pe_callB ci hgi mi (by decide +kernel) (pa_cons vb.pe (pa_cons gb.pe pa_nil rfl) rfl) (by decide +kernel) (by decide +kernel) rfl rfl
    exact (pss_one (ps_ret (pe_and c1 (pe_one c2)))).run pins s σ H Dn I h
  · refine ⟨fun {env h ρ σ H Dn} en ok hp => ?_⟩
    let W' : WX := wAs X.K (.ref L) i (fun a cls d => fun Dn σ H => ∃ (_ : cls = .ref D ∧ d = none), tRet (tAndV (tCB (rIsE X.K D a) (tCons (tVar i) (tCons (tC (.ref D)) tNil))) (tCB (rIsE X.K D a) (tCons (tVar i) (tCons (tC (.ty "ValueError")) tNil)))) Dn σ H) W Dn
    have hso := (hb W' [] (fun _ _ => True) (fun _ _ _ => trivial)).so
    refine hso.go en ok ?_
    have hp' : PsS (cc X) W ρ H Dn (sTryIs i b k env h) := hp
    unfold sTryIs at hp'
    revert hp'
    cases b env h with
    | nx e h' => exact fun q => q
    | rt d h' => exact fun q => q
    | bk e h' => exact fun q => q
    | ct e h' => exact fun q => q
    | stuck => exact fun q => q
    | exc c e h' =>
      intro q ρ' σ' H' a x1 ok1 en1 hm
      dsimp only at q
      split at q
      · rename_i hk
        obtain ⟨rfl, hlt⟩ := hk
        have ea : a = D := by
          have z := hm.symm.trans mk
          cases z
          rfl
        subst ea
        have len : i < σ'.length := by
          have := en1.len
          omega
        refine ⟨true, E.exm, fun _ a' na => ⟨⟨rfl, rfl⟩, ?_⟩, fun z => nomatch z⟩
        have at_ : (σ'.set i (some (V.ref a')))[i]? = some (some (.ref a')) := List.getElem?_set_self len
        refine ⟨.ref a', at_, .ref a, .ref a, true, rfl, fun u z => z, E.own, true, rfl, ?_⟩
        rw [if_pos rfl]
        exact ⟨.ref a', at_, .ty "ValueError", .type "ValueError", true, rfl, fun u z => z, E.val, q ρ' _ H' x1 ok1 (.bl true)⟩
      · exact q.elim
theorem kraise {X : Cx} {W : WX} {x : Str} {p pos pos' : Pos} (hc : X.calm = true) (tk : Takes X W) (h : ∃ Cl, ExcK X.K X.mg x Cl) (hg : Gl X x := by rfl) (hdb : (x == ("__debug__" : Str)) = false := by decide +kernel) :
    ∃ t, FS X W (.Raise (some (.Call (.Name x p) [] [] pos)) none pos') t (sRaise x) := by
  obtain ⟨Cl, E⟩ := h
  exact ⟨_, fs_raise hc tk E hg hdb⟩
end FL

/-! FS: steps of the plain law: short rules about the mirrors. -/
namespace FL
open PySem PySem.Spec PyProof.Rows L2
abbrev dI_ (l : List Int) : List D := l.map D.int
theorem seq_nx {f k : XS} {env e : Sl} {h h' : Hs} (q : f env h = .nx e h') : sSeq f k env h = k e h' := by
  unfold sSeq
  rw [q]
  rfl
theorem seq_rt {f k : XS} {env : Sl} {h h' : Hs} {d : D} (q : f env h = .rt d h') : sSeq f k env h = .rt d h' := by
  unfold sSeq
  rw [q]
  rfl
theorem xOp_of {g : D → D → Hs → Res D} {fa fb : XE} {env : Sl} {h h1 h2 : Hs} {d e : D} (q1 : fa env h = .ok d h1) (q2 : fb env h1 = .ok e h2) : xOp g fa fb env h = g d e h2 := by
  unfold xOp
  rw [q1]
  unfold Res.bind
  dsimp only
  rw [q2]
theorem xCons_of {fa : XE} {fr : XA} {env : Sl} {h h1 h2 : Hs} {d : D} {ds : List D} (q1 : fa env h = .ok d h1) (q2 : fr env h1 = .ok ds h2) : xCons fa fr env h = .ok (d :: ds) h2 := by
  unfold xCons
  rw [q1]
  unfold Res.bind
  dsimp only
  rw [q2]
theorem xCall_of {g : Fn} {fA : XA} {env : Sl} {h h1 : Hs} {ds : List D} (q : fA env h = .ok ds h1) : xCall g fA env h = callG g ds h1 := by
  unfold xCall
  rw [q]
  rfl
theorem xB_of {op : List D → Hs → Res D} {fA : XA} {env : Sl} {h h1 : Hs} {ds : List D} (q : fA env h = .ok ds h1) : xB op fA env h = op ds h1 := by
  unfold xB
  rw [q]
  rfl
theorem xTest_of {f : XE} {env : Sl} {h h1 : Hs} {b : Bool} (q : f env h = .ok (.bl b) h1) : xTest f env h = .ok b h1 := by
  unfold xTest
  rw [q]
  rfl
theorem xOnNew_of {op : List D → Hs → Res D} {f : XA} {env : Sl} {h h1 : Hs} {ds : List D} (q : f env h = .ok ds h1) : xOnNew op f env h = op ds h1 := by
  unfold xOnNew
  rw [q]
  rfl
theorem xNew_of {f : XA} {env : Sl} {h h1 : Hs} {ds : List D} (q : f env h = .ok ds h1) : xNew f env h = .ok (.ref h1.length) (h1 ++ [.lst ds]) := by
  unfold xNew
  rw [q]
  rfl
theorem xLst_of {f : XA} {env : Sl} {h h1 : Hs} {ds : List D} (q : f env h = .ok ds h1) (hl : ds.length ≤ 100000) : xLst f env h = .ok ds h1 := by
  unfold xLst
  rw [q]
  unfold Res.bind
  dsimp only
  rw [if_pos hl]
theorem xTup_of {f : XA} {env : Sl} {h h1 : Hs} {ds : List D} (q : f env h = .ok ds h1) (hl : ds.length ≤ 100000) : xTup f env h = .ok (.tup ds) h1 := by
  unfold xTup
  rw [q]
  unfold Res.bind
  dsimp only
  rw [if_pos hl]
theorem sAsg_of {f : XE} {i : Nat} {env : Sl} {h h1 : Hs} {d : D} (q : f env h = .ok d h1) : sAsg f (gSet i) env h = .nx (env.set i (some d)) h1 := by
  unfold sAsg
  rw [q]
  rfl
theorem sRet_of {f : XE} {env : Sl} {h h1 : Hs} {d : D} (q : f env h = .ok d h1) : sRet f env h = .rt d h1 := by
  unfold sRet
  rw [q]
  rfl
theorem sDrop_of {f : XE} {env : Sl} {h h1 : Hs} {d : D} (q : f env h = .ok d h1) : sDrop f env h = .nx env h1 := by
  unfold sDrop
  rw [q]
  rfl
theorem sIf_t {c : XB} {f g : XS} {env : Sl} {h h1 : Hs} (q : c env h = .ok true h1) : sIf c f g env h = f env h1 := by
  unfold sIf
  rw [q]
  rfl
theorem sIf_f {c : XB} {f g : XS} {env : Sl} {h h1 : Hs} (q : c env h = .ok false h1) : sIf c f g env h = g env h1 := by
  unfold sIf
  rw [q]
  rfl
theorem sFor_of {src : XI} {G : D → Sl → Option Sl} {b : XS} {env : Sl} {h h1 : Hs} {ds : List D} (q : src env h = .ok (.one (.con ds)) h1) : sFor src G b env h = forD G b ds env h1 := by
  unfold sFor
  rw [q]
  rfl
theorem xLc_of {src : XI} {vs : List Nat} {G : D → Sl → Option Sl} {t : XB} {f : XE} {env : Sl} {h h1 h2 : Hs} {ds zs : List D} (q : src env h = .ok (.one (.con ds)) h1) (q2 : lcD G t (elOne f) (wipeD env vs) ds 0 h1 = .ok zs h2) : xLc src vs G t f env h = .ok zs h2 := by
  unfold xLc
  rw [q]
  unfold Res.bind
  dsimp only
  show (lcD G t (elOne f) (wipeD env vs) ds 0 h1).bindN _ = _
  rw [q2]
  rfl
theorem callG_lst {g : Fn} {ds xs : List D} {h h' : Hs} {i : Nat} (e : g ds [] = .ok (.ref i) h') (hi : h'[i]? = some (.lst xs)) (hd : D.pures ds = true) (hx : D.pures xs = true) : callG g ds h = .ok (.ref h.length) (h ++ [.lst xs]) := by
  unfold callG settle
  rw [if_pos hd, e]
  dsimp only
  rw [if_neg (show ¬ ((D.ref i).pure = true) from Bool.false_ne_true)]
  rw [hi]
  dsimp only
  rw [if_pos hx]
theorem callG_val {g : Fn} {ds : List D} {h h' : Hs} {d : D} (e : g ds [] = .ok d h') (hd : D.pures ds = true) (hp : d.pure = true) : callG g ds h = .ok d h := by
  unfold callG settle
  rw [if_pos hd, e]
  dsimp only
  rw [if_pos hp]
theorem callG_ref {g : Fn} {ds : List D} {h : Hs} (hd : D.pures ds = false) : callG g ds h = g ds h := by
  unfold callG
  rw [if_neg (by rw [hd]; exact Bool.false_ne_true)]
theorem pures_ints : ∀ l : List Int, D.pures (dI_ l) = true
  | [] => rfl
  | x :: r => pures_ints r
theorem ints_ints : ∀ l : List Int, D.ints (dI_ l) = some l
  | [] => rfl
  | x :: r => by
    show (D.ints (dI_ r)).map (x :: ·) = _
    rw [ints_ints r]
    rfl
theorem app_last (h : Hs) (o : Ob) : (h ++ [o])[h.length]? = some o := by simp
theorem app_set (h : Hs) (o p : Ob) : (h ++ [o]).set h.length p = h ++ [p] := by simp
theorem app_keep {h : Hs} {i : Nat} {o : Ob} (e : h[i]? = some o) (l : Hs) : (h ++ l)[i]? = some o := by
  rw [List.getElem?_append_left (List.getElem?_eq_some_iff.mp e).1]
  exact e
theorem lstI_ref {h : Hs} {i : Nat} {ds : List D} (e : h[i]? = some (.lst ds)) : (D.ref i).lstI h = some ds := by
  unfold D.lstI
  dsimp only
  rw [e]
theorem seq_ref {h : Hs} {i : Nat} {ds : List D} (e : h[i]? = some (.lst ds)) : (D.ref i).seq h = some ds := by
  unfold D.seq
  dsimp only
  rw [e]
theorem append_of {fo fe : XE} {env : Sl} {h : Hs} {i : Nat} {ds : List D} {x : D} (q1 : fo env h = .ok (.ref i) h) (q2 : fe env h = .ok x h) (e : h[i]? = some (.lst ds)) (hl : ds.length < 100000) :
    sDrop (xMeth isLst mAppend fo (xCons fe xNil)) env h = .nx env (h.set i (.lst (ds ++ [x]))) := by
  have q3 : xCons fe xNil env h = .ok [x] h := xCons_of q2 rfl
  have q4 : isLst (.ref i) h = true := by
    unfold isLst
    rw [lstI_ref e]
    rfl
  refine sDrop_of (d := .non) ?_
  unfold xMeth
  rw [q1]
  show (if isLst (.ref i) h = true then _ else _) = _
  rw [if_pos q4, q3]
  show mAppend (.ref i) [x] h = _
  unfold mAppend
  dsimp only
  rw [e]
  dsimp only
  rw [if_pos hl]
/-- a slice from behind, without the first -/
theorem pick_tail {α : Type} (a : α) (r : List α) : pick3 (a :: r) none (some 0) (-1) = r.reverse := by
  have b : sliceBounds none (some 0) (some (-1)) (a :: r).length = ((r.length : Int), 0, -1) := by
    simp [sliceBounds]
    omega
  have e : sliceRange (r.length : Int) 0 (-1) = (List.range r.length).map fun k => r.length - k := by
    unfold sliceRange
    have h1 : ¬ ((-1 : Int) > 0) := by decide
    by_cases h : (r.length : Int) > 0
    · have e : ((r.length : Int) - 0 - -1 - 1) / (- -1) = (r.length : Int) := by
        rw [show (- -1 : Int) = 1 by decide, Int.ediv_one]
        omega
      simp only [h1, if_false, h, if_true, e, Int.toNat_natCast]
      apply List.map_congr_left
      intro k hk
      have := List.mem_range.mp hk
      omega
    · have e : r.length = 0 := by omega
      rw [e]
      simp
  unfold pick3
  rw [b]
  show (sliceRange (r.length : Int) 0 (-1)).filterMap ((a :: r)[·]?) = _
  rw [e, List.filterMap_map]
  have e2 : ∀ l : List Nat, (∀ k ∈ l, k < r.length) → l.filterMap ((fun x => (a :: r)[x]?) ∘ fun k => r.length - k) = (l.map fun k => r.length - 1 - k).filterMap (r[·]?) := by
    intro l
    induction l with
    | nil => intro _; rfl
    | cons k l ih =>
      intro hk
      have hk0 := hk k (by simp)
      have ek : (a :: r)[r.length - k]? = r[r.length - 1 - k]? := by
        have : r.length - k = (r.length - 1 - k) + 1 := by omega
        rw [this]
        rfl
      rw [List.map_cons, List.filterMap_cons, List.filterMap_cons, ih fun x hx => hk x (List.mem_cons_of_mem _ hx)]
      show (match (a :: r)[r.length - k]? with | none => _ | some b => _) = _
      rw [ek]
      cases r[r.length - 1 - k]? <;> rfl
  rw [e2 _ fun k hk => List.mem_range.mp hk, PySem.W.krv_range, List.filterMap_reverse]
  have h2 := PySem.W.krv_all r.toArray
  have h3 : (List.range r.length).filterMap (r[·]?) = r := by simpa using h2
  rw [h3]
end FL

/-! FR: what repr and == ask of data; a loop that leaves all as it is. -/
namespace FL
open PySem PySem.Spec PyProof.Rows L2
structure Fine (p : PyData) (d m : Nat) : Prop where
  lay : p.canLay0 = true
  shw : p.showable = true
  dep : p.depth ≤ d
  mst : showMost p ≤ m
structure Fines (ps : List PyData) (d m : Nat) : Prop where
  lay : PyData.canLayAll0 ps = true
  shw : PyData.showableAll ps = true
  dep : PyData.depthAll ps ≤ d
  mst : showMostAll ps ≤ m
theorem Fine.int {z : Int} (h : z.natAbs.log2 < 1920) (d : Nat) : Fine (.int z) d 1921 := ⟨rfl, decide_eq_true h, by show 0 ≤ d; omega, Nat.le_refl _⟩
theorem Fines.nil (d : Nat) : Fines [] d 0 := ⟨rfl, rfl, Nat.zero_le _, Nat.le_refl _⟩
theorem Fines.cons {p : PyData} {ps : List PyData} {d m k : Nat} (a : Fine p d m) (b : Fines ps d k) : Fines (p :: ps) d (m + 2 + k) :=
  ⟨by show (p.canLay0 && PyData.canLayAll0 ps) = true; rw [a.lay, b.lay]; rfl, by show (p.showable && PyData.showableAll ps) = true; rw [a.shw, b.shw]; rfl, by
    show max p.depth (PyData.depthAll ps) ≤ d
    have := a.dep
    have := b.dep
    omega, by
    show showMost p + 2 + showMostAll ps ≤ m + 2 + k
    have := a.mst
    have := b.mst
    omega⟩
theorem Fines.tuple {ps : List PyData} {d m : Nat} (a : Fines ps d m) : Fine (.tuple ps) (d + 1) (m + 3) := ⟨a.lay, a.shw, by show PyData.depthAll ps + 1 ≤ d + 1; have := a.dep; omega, by show showMostAll ps + 3 ≤ m + 3; have := a.mst; omega⟩
theorem Fines.list {ps : List PyData} {d m : Nat} (a : Fines ps d m) : Fine (.list ps) (d + 1) (m + 2) := ⟨a.lay, a.shw, by show PyData.depthAll ps + 1 ≤ d + 1; have := a.dep; omega, by show showMostAll ps + 2 ≤ m + 2; have := a.mst; omega⟩
theorem Fine.up {p : PyData} {d m d' m' : Nat} (a : Fine p d m) (h : d ≤ d') (h2 : m ≤ m') : Fine p d' m' := ⟨a.lay, a.shw, Nat.le_trans a.dep h, Nat.le_trans a.mst h2⟩
theorem Fine.repr {p : PyData} {d m : Nat} (a : Fine p d m) (h : d ≤ 60) (h2 : m ≤ 16000000) : okRepr p = true := by
  unfold okRepr
  rw [a.lay, a.shw, decide_eq_true (Nat.le_trans a.dep h), decide_eq_true (Nat.le_trans a.mst h2)]
  rfl
theorem Fine.shaped {p : PyData} {d m : Nat} (a : Fine p d m) (h : d ≤ 64) : SeqAt.shaped p = true := by
  unfold SeqAt.shaped
  rw [a.lay, decide_eq_true (Nat.le_trans a.dep h)]
  rfl
theorem fine_ints : ∀ (l : List Int) (d : Nat), (∀ z ∈ l, z.natAbs.log2 < 1920) → Fines (l.map PyData.int) d (1923 * l.length)
  | [], d, _ => Fines.nil d
  | z :: r, d, h => by
    have a := Fines.cons (Fine.int (h z (by simp)) d) (fine_ints r d fun x hx => h x (List.mem_cons_of_mem _ hx))
    have e : 1921 + 2 + 1923 * r.length = 1923 * (z :: r).length := by
      rw [List.length_cons]
      omega
    rw [← e]
    exact a
theorem trees_ints (h : Hs) (n : Nat) : ∀ l : List Int, treesBy (D.tree h (n + 1)) (dI_ l) = some (l.map PyData.int)
  | [] => rfl
  | z :: r => by
    show (match D.tree h (n + 1) (.int z), treesBy (D.tree h (n + 1)) (dI_ r) with | some p, some ps => some (p :: ps) | _, _ => none) = _
    rw [trees_ints h n r]
    rfl
theorem tree_tup (h : Hs) (n : Nat) (l : List Int) : D.tree h (n + 2) (.tup (dI_ l)) = some (.tuple (l.map PyData.int)) := by
  show (treesBy (D.tree h (n + 1)) (dI_ l)).map PyData.tuple = _
  rw [trees_ints]
  rfl
theorem tree_lst {h : Hs} {i : Nat} {l : List Int} (e : h[i]? = some (.lst (dI_ l))) (n : Nat) : D.tree h (n + 2) (.ref i) = some (.list (l.map PyData.int)) := by
  show (match h[i]? with | some (.lst ds) => (treesBy (D.tree h (n + 1)) ds).map PyData.list | _ => none) = _
  rw [e]
  show (treesBy (D.tree h (n + 1)) (dI_ l)).map PyData.list = _
  rw [trees_ints]
  rfl
theorem eqv_ints : ∀ l : List Int, PyData.eqvAll (l.map PyData.int) (l.map PyData.int) = true
  | [] => by unfold List.map PyData.eqvAll; rfl
  | z :: r => by
    rw [List.map_cons]
    unfold PyData.eqvAll
    rw [eqv_ints r]
    unfold PyData.eqv
    simp
theorem eq_lsts {h : Hs} {i j : Nat} {l : List Int} (e1 : h[i]? = some (.lst (dI_ l))) (e2 : h[j]? = some (.lst (dI_ l))) (hl : ∀ z ∈ l, z.natAbs.log2 < 1920) : dEq (.ref i) (.ref j) h = .ok (.bl true) h := by
  have sh : SeqAt.shaped (.list (l.map PyData.int)) = true := (fine_ints l 0 hl).list.shaped (by decide)
  unfold dEq dEqv
  dsimp only
  rw [tree_lst e1, tree_lst e2]
  dsimp only
  rw [sh]
  have e : PyData.eqv (.list (l.map PyData.int)) (.list (l.map PyData.int)) = true := by
    unfold PyData.eqv
    exact eqv_ints l
  rw [e]
  rfl
theorem gReprL_of {ds : List D} {h : Hs} {p : PyData} (e : (treesBy (D.tree h 63) ds).map PyData.list = some p) (ho : okRepr p = true) : gReprL ds h = .ok (.str (reprD p)) h := by
  unfold gReprL
  rw [e]
  dsimp only
  rw [if_pos ho]
theorem forD_skip {G : D → Sl → Option Sl} {b : XS} {E : Option D → Sl} {h : Hs} (hG : ∀ d x, G d (E x) = some (E (some d))) : ∀ (ds : List D), (∀ d ∈ ds, b (E (some d)) h = .nx (E (some d)) h) → ∀ x, ∃ y, forD G b ds (E x) h = .nx (E y) h
  | [], _, x => ⟨x, rfl⟩
  | d :: r, hb, x => by
    obtain ⟨y, ih⟩ := forD_skip hG r (fun d' hd => hb d' (List.mem_cons_of_mem _ hd)) (some d)
    refine ⟨y, ?_⟩
    unfold forD
    rw [hG]
    dsimp only
    rw [hb d (by simp)]
    exact ih
theorem small_log {z : Int} {k : Nat} (h : z.natAbs ≤ 2 ^ k) (hk : k < 1919) : z.natAbs.log2 < 1920 := by
  by_cases e : z.natAbs = 0
  · rw [e]; decide
  · exact (Nat.log2_lt e).mpr (Nat.lt_of_le_of_lt h (Nat.pow_lt_pow_right (by decide) (by omega)))
end FL

/-! FQ: draws within expressions. -/
namespace FL
open PySem PySem.Spec PyProof.Rows L2
/-- what is known of the def that draws -/
structure Draws1 (gd : Fn) : Prop where
  go : ∀ {h : Hs} {hi n : Nat} {many : Int}, IsHand h hi n → n < 1000000 → 0 < many → many < 1000000 → ∃ z o, gd [.ref hi, .int many] h = .ok (.int z) (h.set hi o) ∧ 0 ≤ z ∧ z < many ∧ IsHand (h.set hi o) hi (n + 1)
theorem Draws1.of {mix : XE} {c1 a4 m4 : Int} (hx : MixOk mix) (hc : 0 ≤ c1 := by decide) (hc2 : c1 < 1000000 := by decide) (ha : 0 ≤ a4 := by decide) (ha2 : a4 < 1000000 := by decide) (h4 : 0 < m4 := by decide) (h42 : m4 < 4294967296 := by decide) : Draws1 (fnSem 2 3 (bDraw mix c1 a4 m4)) :=
  ⟨fun I hn hm hm2 => draw_ok hx I hn hm hm2 hc hc2 ha ha2 h4 h42⟩
theorem var_of {i : Nat} {env : Sl} {h : Hs} {d : D} (e : env[i]? = some (some d)) : xVar i env h = .ok d h := by
  unfold xVar
  rw [e]
theorem IsHand.lt {h : Hs} {hi n : Nat} (I : IsHand h hi n) : hi < h.length := by
  obtain ⟨p, q, r, c, ci, cells, H⟩ := I
  exact lt_of_get H.at_
theorem draw_call {gd : Fn} (G : Draws1 gd) {fh fm : XE} {env : Sl} {h h1 : Hs} {hi n : Nat} {many : Int} (eh : fh env h = .ok (.ref hi) h) (em : fm env h = .ok (.int many) h1) (I : IsHand h1 hi n) (hn : n < 1000000) (hm : 0 < many) (hm2 : many < 1000000) :
    ∃ z o, xCall gd (xCons fh (xCons fm xNil)) env h = .ok (.int z) (h1.set hi o) ∧ 0 ≤ z ∧ z < many ∧ IsHand (h1.set hi o) hi (n + 1) := by
  obtain ⟨z, o, e, a, b, c⟩ := G.go I hn hm hm2
  exact ⟨z, o, (xCall_of (xCons_of eh (xCons_of em rfl))).trans ((callG_ref rfl).trans e), a, b, c⟩
/-- things[draw(hand, len(things))] -/
def bSome (gd : Fn) : XS := (sRet (xOp gIx (xVar 1) (xCall gd (xCons (xVar 0) (xCons (xB gLen (xCons (xVar 1) xNil)) xNil)))))
theorem some_ok {gd : Fn} (G : Draws1 gd) {h : Hs} {hi j n : Nat} {xs : List D} (I : IsHand h hi n) (hn : n < 1000000) (hj : h[j]? = some (.lst xs)) (ne : j ≠ hi) (h0 : 0 < xs.length) (h1 : xs.length < 1000000) :
    ∃ x o, fnSem 2 0 (bSome gd) [.ref hi, .ref j] h = .ok x (h.set hi o) ∧ x ∈ xs ∧ IsHand (h.set hi o) hi (n + 1) := by
  have gl : xB gLen (xCons (xVar 1) xNil) [some (.ref hi), some (.ref j)] h = .ok (.int xs.length) h := by
    refine (xB_of (ds := [.ref j]) rfl).trans ?_
    unfold gLen
    dsimp only
    rw [seq_ref hj]
  obtain ⟨z, o, e, a, b, c⟩ := draw_call G (fh := xVar 0) (env := [some (.ref hi), some (.ref j)]) rfl gl I hn (by omega) (by omega)
  have hz : z.toNat < xs.length := by omega
  refine ⟨xs[z.toNat], o, ?_, List.getElem_mem hz, c⟩
  show retOf (bSome gd [some (.ref hi), some (.ref j)] h) = _
  unfold bSome
  have hj2 : (h.set hi o)[j]? = some (.lst xs) := by
    rw [List.getElem?_set_ne (fun e => ne e.symm)]
    exact hj
  have g : gIx (.ref j) (.int z) (h.set hi o) = .ok xs[z.toNat] (h.set hi o) := by
    unfold gIx
    dsimp only
    rw [seq_ref hj2]
    dsimp only
    have e2 : atI xs z = some xs[z.toNat] := by
      unfold atI ixN
      rw [if_pos a, if_pos b, Option.bind_some, List.getElem?_eq_getElem hz]
    rw [e2]
  rw [sRet_of ((xOp_of (d := .ref j) rfl e).trans g)]
  rfl
theorem some_call {gd : Fn} (G : Draws1 gd) {fh : XE} {f : XA} {env : Sl} {h : Hs} {hi n : Nat} {xs : List D} (eh : fh env h = .ok (.ref hi) h) (ef : f env h = .ok xs h) (I : IsHand h hi n) (hn : n < 1000000) (h0 : 0 < xs.length) (h1 : xs.length < 1000000) :
    ∃ x h', xCall (fnSem 2 0 (bSome gd)) (xCons fh (xCons (xNew f) xNil)) env h = .ok x h' ∧ x ∈ xs ∧ IsHand h' hi (n + 1) := by
  have I2 : IsHand (h ++ [.lst xs]) hi n := I.app _
  obtain ⟨x, o, e, a, b⟩ := some_ok G I2 hn (app_last h (.lst xs)) (fun z => by have := I.lt; omega) h0 h1
  exact ⟨x, _, (xCall_of (xCons_of eh (xCons_of (xNew_of ef) rfl))).trans ((callG_ref rfl).trans e), a, b⟩
/-- as many things as there are turns -/
theorem lcD_somes {gd : Fn} (G : Draws1 gd) {i : Nat} {fh : XE} {f : XA} {env : Sl} {hi : Nat} {xs : List D} (eh : ∀ d h, fh (env.set i (some d)) h = .ok (.ref hi) h) (ef : ∀ d h, f (env.set i (some d)) h = .ok xs h) (h0 : 0 < xs.length) (h1 : xs.length < 1000000) :
    ∀ (ds : List D) (k n : Nat) (h : Hs), IsHand h hi n → n + ds.length < 1000000 → k + ds.length ≤ 100000 → ∃ zs h', lcD (gSet i) tYesF (elOne (xCall (fnSem 2 0 (bSome gd)) (xCons fh (xCons (xNew f) xNil)))) env ds k h = .ok zs h' ∧ zs.length = ds.length ∧ (∀ z ∈ zs, z ∈ xs) ∧ IsHand h' hi (n + ds.length)
  | [], k, n, h, I, hn, hk => ⟨[], h, rfl, rfl, fun z hz => by simp at hz, I⟩
  | d :: r, k, n, h, I, hn, hk => by
    rw [List.length_cons] at hn hk
    obtain ⟨x, h', e, a, b⟩ := some_call G (eh d h) (ef d h) I (by omega) h0 h1
    obtain ⟨zs, h2, e2, a2, b2, c2⟩ := lcD_somes G eh ef h0 h1 r (k + 1) (n + 1) h' b (by omega) (by omega)
    refine ⟨x :: zs, h2, ?_, by rw [List.length_cons, a2]; rfl, fun z hz => ?_, by rw [List.length_cons, show n + (r.length + 1) = n + 1 + r.length by omega]; exact c2⟩
    · have hlt : k < 100000 := by omega
      unfold lcD
      show (tYesF (env.set i (some d)) h).bindN _ = _
      simp only [tYesF, Res.bindN, ↓reduceIte, elOne, hlt, e, List.length_cons, List.length_nil, Nat.zero_add, e2]
      rfl
    · rcases List.mem_cons.mp hz with rfl | hz
      · exact a
      · exact b2 z hz
end FL

/-! NW: power sums tell a list (Newton), plain. -/
namespace NW
abbrev Sq := Nat → Int
def conv (f g : Sq) : Sq
  | 0 => f 0 * g 0
  | k + 1 => f 0 * g (k + 1) + conv (fun j => f (j + 1)) g k
/-- times 1 - a t -/
def dd (a : Int) (f : Sq) : Sq
  | 0 => f 0
  | k + 1 => f (k + 1) - a * f k
theorem conv_add : ∀ (k : Nat) (f g h : Sq), conv f (fun j => g j + h j) k = conv f g k + conv f h k
  | 0, f, g, h => Int.mul_add _ _ _
  | k + 1, f, g, h => by
    show f 0 * (g (k + 1) + h (k + 1)) + conv (fun j => f (j + 1)) (fun j => g j + h j) k = _
    rw [conv_add k, Int.mul_add]
    show _ = f 0 * g (k + 1) + conv (fun j => f (j + 1)) g k + (f 0 * h (k + 1) + conv (fun j => f (j + 1)) h k)
    omega
theorem conv_sub (a : Int) : ∀ (k : Nat) (f e g : Sq), conv (fun j => f j - a * e j) g k = conv f g k - a * conv e g k
  | 0, f, e, g => by
    show (f 0 - a * e 0) * g 0 = f 0 * g 0 - a * (e 0 * g 0)
    rw [Int.sub_mul, Int.mul_assoc]
  | k + 1, f, e, g => by
    show (f 0 - a * e 0) * g (k + 1) + conv (fun j => f (j + 1) - a * e (j + 1)) g k = f 0 * g (k + 1) + conv (fun j => f (j + 1)) g k - a * (e 0 * g (k + 1) + conv (fun j => e (j + 1)) g k)
    rw [conv_sub a k (fun j => f (j + 1)) (fun j => e (j + 1)) g, Int.sub_mul, Int.mul_add, Int.mul_assoc]
    omega
theorem conv_dl (a : Int) (f g : Sq) (k : Nat) : conv (dd a f) g (k + 1) = conv f g (k + 1) - a * conv f g k := by
  show f 0 * g (k + 1) + conv (fun j => f (j + 1) - a * f j) g k = f 0 * g (k + 1) + conv (fun j => f (j + 1)) g k - a * conv f g k
  rw [conv_sub]
  omega
theorem conv_dr (a : Int) : ∀ (k : Nat) (f g : Sq), conv f (dd a g) (k + 1) = conv f g (k + 1) - a * conv f g k
  | 0, f, g => by
    show f 0 * (g 1 - a * g 0) + f 1 * g 0 = f 0 * g 1 + f 1 * g 0 - a * (f 0 * g 0)
    rw [Int.mul_sub, Int.mul_left_comm]
    omega
  | k + 1, f, g => by
    show f 0 * (g (k + 1 + 1) - a * g (k + 1)) + conv (fun j => f (j + 1)) (dd a g) (k + 1) = f 0 * g (k + 1 + 1) + conv (fun j => f (j + 1)) g (k + 1) - a * (f 0 * g (k + 1) + conv (fun j => f (j + 1)) g k)
    rw [conv_dr a k, Int.mul_sub, Int.mul_left_comm, Int.mul_add]
    omega
/-- the coefficients of the product of all 1 - a t -/
def sy : List Int → Sq
  | [] => fun k => if k = 0 then 1 else 0
  | a :: r => dd a (sy r)
theorem sy_zero : ∀ l, sy l 0 = 1
  | [] => rfl
  | a :: r => sy_zero r
theorem sy_far : ∀ (l : List Int) (k : Nat), l.length < k → sy l k = 0
  | [], k, h => if_neg (by simp at h; omega)
  | a :: r, 0, h => absurd h (by omega)
  | a :: r, k + 1, h => by
    rw [List.length_cons] at h
    show sy r (k + 1) - a * sy r k = 0
    rw [sy_far r (k + 1) (by omega), sy_far r k (by omega)]
    omega
def psm (k : Nat) (l : List Int) : Int := (l.map (· ^ k)).sum
def ps (l : List Int) : Sq
  | 0 => 0
  | k + 1 => psm (k + 1) l
def geo (a : Int) : Sq
  | 0 => 0
  | k + 1 => a ^ (k + 1)
theorem ps_cons (a : Int) (r : List Int) : ps (a :: r) = fun j => ps r j + geo a j := by
  funext j
  cases j with
  | zero => rfl
  | succ k =>
    show psm (k + 1) (a :: r) = psm (k + 1) r + a ^ (k + 1)
    unfold psm
    rw [List.map_cons, List.sum_cons]
    omega
theorem ps_nil : ps [] = fun _ => 0 := by
  funext j
  cases j <;> rfl
theorem conv_zero : ∀ (k : Nat) (f : Sq), conv f (fun _ => 0) k = 0
  | 0, f => Int.mul_zero _
  | k + 1, f => by
    show f 0 * 0 + conv (fun j => f (j + 1)) (fun _ => 0) k = 0
    rw [conv_zero k]
    omega
/-- a t -/
def one_ (a : Int) : Sq
  | 1 => a
  | _ => 0
theorem dd_geo (a : Int) : dd a (geo a) = one_ a := by
  funext j
  match j with
  | 0 => rfl
  | 1 =>
    show a ^ (0 + 1) - a * 0 = a
    rw [Int.pow_succ, Int.pow_zero]
    omega
  | k + 2 =>
    show a ^ (k + 1 + 1) - a * a ^ (k + 1) = 0
    rw [Int.pow_succ a (k + 1), Int.mul_comm]
    omega
theorem conv_one (a : Int) : ∀ (k : Nat) (f : Sq), conv f (one_ a) (k + 1) = f k * a
  | 0, f => by
    show f 0 * a + f 1 * 0 = _
    omega
  | k + 1, f => by
    show f 0 * 0 + conv (fun j => f (j + 1)) (one_ a) (k + 1) = f (k + 1) * a
    rw [conv_one a k]
    omega
/-- Newton -/
theorem newton : ∀ (l : List Int) (k : Nat), conv (sy l) (ps l) k = -(k : Int) * sy l k
  | [], k => by
    rw [ps_nil, conv_zero]
    cases k with
    | zero => rfl
    | succ k =>
      show 0 = -((k + 1 : Nat) : Int) * 0
      omega
  | a :: r, 0 => by
    show sy r 0 * ps (a :: r) 0 = -((0 : Nat) : Int) * sy r 0
    show sy r 0 * 0 = -((0 : Nat) : Int) * sy r 0
    simp
  | a :: r, k + 1 => by
    have i0 := newton r k
    have i1 := newton r (k + 1)
    show conv (dd a (sy r)) (ps (a :: r)) (k + 1) = -((k + 1 : Nat) : Int) * (sy r (k + 1) - a * sy r k)
    rw [ps_cons, conv_add, conv_dl, i0, i1, conv_dl, ← conv_dr, dd_geo, conv_one]
    have e : ((k + 1 : Nat) : Int) = (k : Int) + 1 := by omega
    rw [e, Int.neg_mul, Int.neg_mul, Int.neg_mul, Int.mul_sub, Int.add_mul, Int.add_mul, Int.one_mul, Int.one_mul, Int.mul_neg, Int.mul_left_comm, Int.mul_comm (sy r k) a]
    omega
/-- a convolution leans on what is met alone -/
theorem conv_same : ∀ (k : Nat) (f f' g g' : Sq), g 0 = 0 → g' 0 = 0 → (∀ j, j < k → f j = f' j) → (∀ j, 1 ≤ j → j ≤ k → g j = g' j) → conv f g k = conv f' g' k
  | 0, f, f', g, g', h, h', _, _ => by
    show f 0 * g 0 = f' 0 * g' 0
    rw [h, h']
    omega
  | k + 1, f, f', g, g', h, h', hf, hg => by
    show f 0 * g (k + 1) + _ = f' 0 * g' (k + 1) + _
    rw [hf 0 (by omega), hg (k + 1) (by omega) (by omega), conv_same k (fun j => f (j + 1)) (fun j => f' (j + 1)) g g' h h' (fun j hj => hf (j + 1) (by omega)) fun j h1 h2 => hg j h1 (by omega)]
theorem sy_same {A B : List Int} {n : Nat} (h : ∀ k, 1 ≤ k → k ≤ n → psm k A = psm k B) : ∀ (m k : Nat), k ≤ m → m ≤ n → sy A k = sy B k
  | m, 0, _, _ => (sy_zero A).trans (sy_zero B).symm
  | 0, k + 1, h1, _ => absurd h1 (by omega)
  | m + 1, k + 1, h1, h2 => by
    have ih := sy_same h m
    have a := newton A (k + 1)
    have b := newton B (k + 1)
    have e := conv_same (k + 1) (sy A) (sy B) (ps A) (ps B) rfl rfl (fun j hj => ih j (by omega) (by omega)) fun j j1 j2 => by
      cases j with
      | zero => rfl
      | succ j => exact h (j + 1) (by omega) (by omega)
    rw [e, b] at a
    have : ((k + 1 : Nat) : Int) * sy A (k + 1) = ((k + 1 : Nat) : Int) * sy B (k + 1) := by
      rw [Int.neg_mul, Int.neg_mul] at a
      omega
    exact Int.eq_of_mul_eq_mul_left (by omega) this
/-- Horner -/
def ev (f : Sq) (x : Int) : Nat → Int
  | 0 => f 0
  | n + 1 => x * ev f x n + f (n + 1)
theorem ev_dd (a : Int) (f : Sq) (x : Int) : ∀ m, ev (dd a f) x (m + 1) = ev f x (m + 1) - a * ev f x m
  | 0 => by
    show x * f 0 + (f 1 - a * f 0) = x * f 0 + f 1 - a * f 0
    omega
  | m + 1 => by
    show x * ev (dd a f) x (m + 1) + (f (m + 1 + 1) - a * f (m + 1)) = x * ev f x (m + 1) + f (m + 1 + 1) - a * (x * ev f x m + f (m + 1))
    rw [ev_dd a f x m, Int.mul_sub, Int.mul_add a, Int.mul_left_comm a x]
    omega
theorem ev_root {x : Int} : ∀ (l : List Int), ev (sy l) x l.length = 0 → x ∈ l
  | [], h => absurd (show (1 : Int) = 0 from h) (by decide)
  | a :: r, h => by
    have e : ev (sy (a :: r)) x (r.length + 1) = (x - a) * ev (sy r) x r.length := by
      show ev (dd a (sy r)) x (r.length + 1) = _
      rw [ev_dd]
      show x * ev (sy r) x r.length + sy r (r.length + 1) - a * ev (sy r) x r.length = _
      rw [sy_far r (r.length + 1) (by omega), Int.sub_mul]
      omega
    rw [List.length_cons, e] at h
    rcases Int.mul_eq_zero.mp h with z | z
    · have : x = a := by omega
      rw [this]
      exact List.mem_cons_self
    · exact List.mem_cons_of_mem _ (ev_root r z)
theorem ev_mem {x : Int} : ∀ (l : List Int), x ∈ l → ev (sy l) x l.length = 0
  | [], h => by simp at h
  | a :: r, h => by
    have e : ev (sy (a :: r)) x (r.length + 1) = (x - a) * ev (sy r) x r.length := by
      show ev (dd a (sy r)) x (r.length + 1) = _
      rw [ev_dd]
      show x * ev (sy r) x r.length + sy r (r.length + 1) - a * ev (sy r) x r.length = _
      rw [sy_far r (r.length + 1) (by omega), Int.sub_mul]
      omega
    rw [List.length_cons, e]
    rcases List.mem_cons.mp h with z | z
    · rw [z, Int.sub_self, Int.zero_mul]
    · rw [ev_mem r z, Int.mul_zero]
theorem dd_inj {a : Int} {f g : Sq} (h : dd a f = dd a g) : f = g := by
  funext k
  induction k with
  | zero => exact congrFun h 0
  | succ k ih =>
    have e : f (k + 1) - a * f k = g (k + 1) - a * g k := congrFun h (k + 1)
    rw [ih] at e
    omega
theorem dd_comm (a b : Int) (f : Sq) : dd a (dd b f) = dd b (dd a f) := by
  funext k
  match k with
  | 0 => rfl
  | 1 =>
    show f 1 - b * f 0 - a * f 0 = f 1 - a * f 0 - b * f 0
    omega
  | k + 2 =>
    show f (k + 2) - b * f (k + 1) - a * (f (k + 1) - b * f k) = f (k + 2) - a * f (k + 1) - b * (f (k + 1) - a * f k)
    rw [Int.mul_sub, Int.mul_sub, Int.mul_left_comm]
    omega
theorem sy_perm {A B : List Int} (h : A.Perm B) : sy A = sy B := by
  induction h with
  | nil => rfl
  | cons a _ ih => exact congrArg (dd a) ih
  | swap a b l => exact dd_comm b a (sy l)
  | trans _ _ i1 i2 => exact i1.trans i2
theorem perm_of_sy : ∀ (A B : List Int), A.length = B.length → sy A = sy B → A.Perm B
  | [], B, hl, _ => by
    have : B = [] := List.eq_nil_of_length_eq_zero hl.symm
    rw [this]
  | a :: A, B, hl, h => by
    have m : a ∈ B := by
      refine ev_root B ?_
      rw [← hl, ← h]
      exact ev_mem (a :: A) List.mem_cons_self
    have p := List.perm_cons_erase m
    have e : sy A = sy (B.erase a) := by
      have q := h.trans (sy_perm p)
      exact dd_inj q
    have hl2 : A.length = (B.erase a).length := by
      have := p.length_eq
      rw [List.length_cons] at this hl
      omega
    exact ((perm_of_sy A (B.erase a) hl2 e).cons a).trans p.symm
/-- power sums tell a list up to its order -/
theorem perm_of_sums {A B : List Int} (hl : A.length = B.length) (h : ∀ k, 1 ≤ k → k ≤ A.length → psm k A = psm k B) : A.Perm B := by
  refine perm_of_sy A B hl ?_
  funext k
  by_cases c : k ≤ A.length
  · exact sy_same h A.length k c (Nat.le_refl _)
  · rw [sy_far A k (by omega), sy_far B k (by omega)]
end NW

/-! K71M: division by x - 1, moments, differences: plain. -/
namespace SG
/-- the sums of what is left -/
def sfx : List Int → List Int
  | [] => []
  | x :: r => (x + r.sum) :: sfx r
theorem sfx_len : ∀ l : List Int, (sfx l).length = l.length
  | [] => rfl
  | x :: r => by
    show (sfx r).length + 1 = r.length + 1
    rw [sfx_len r]
/-- the sums so far, from c -/
def pfx (c : Int) : List Int → List Int
  | [] => []
  | x :: r => (c + x) :: pfx (c + x) r
theorem pfx_len : ∀ (l : List Int) (c : Int), (pfx c l).length = l.length
  | [], _ => rfl
  | x :: r, c => by
    show (pfx (c + x) r).length + 1 = r.length + 1
    rw [pfx_len r]
theorem pfx_app : ∀ (l m : List Int) (c : Int), pfx c (l ++ m) = pfx c l ++ pfx (c + l.sum) m
  | [], m, c => by simp [pfx]
  | x :: r, m, c => by
    show (c + x) :: pfx (c + x) (r ++ m) = (c + x) :: (pfx (c + x) r ++ pfx (c + (x :: r).sum) m)
    rw [pfx_app r m, List.sum_cons, Int.add_assoc]
theorem pfx_rev : ∀ l : List Int, (pfx 0 l.reverse).reverse = sfx l
  | [] => rfl
  | x :: r => by
    rw [List.reverse_cons, pfx_app, List.reverse_append, pfx_rev r]
    have e : (0 : Int) + r.reverse.sum + x = x + r.sum := by
      rw [List.sum_reverse]
      omega
    show [0 + r.reverse.sum + x].reverse ++ sfx r = (x + r.sum) :: sfx r
    rw [e]
    rfl
/-- (row of) P / (x - 1), where x - 1 divides P -/
def dv (l : List Int) : List Int := sfx l.tail
theorem dv_len (l : List Int) : (dv l).length = l.length - 1 := by
  unfold dv
  rw [sfx_len, List.length_tail]
theorem sfx_last : ∀ (l : List Int) (h : l ≠ []) (h' : sfx l ≠ []), (sfx l).getLast h' = l.getLast h
  | [], h, _ => absurd rfl h
  | [x], _, _ => by show x + ([] : List Int).sum = x; rw [List.sum_nil]; omega
  | x :: y :: r, _, _ => by
    have ih := sfx_last (y :: r) (by simp) (by simp [sfx])
    show ((x + (y :: r).sum) :: sfx (y :: r)).getLast _ = _
    exact (List.getLast_cons (by simp [sfx])).trans (ih.trans (List.getLast_cons (by simp)).symm)
/-- how often, and what is left -/
def fold : Nat → List Int → Nat × List Int
  | 0, l => (0, l)
  | n + 1, l => if l.sum = 0 then ((fold n (dv l)).1 + 1, (fold n (dv l)).2) else (0, l)
/-- not empty, the last is not 0 -/
def Lead (l : List Int) : Prop := ∃ h : l ≠ [], l.getLast h ≠ 0
theorem Lead.dv {l : List Int} (h : Lead l) (hs : l.sum = 0) : Lead (dv l) := by
  obtain ⟨h1, h2⟩ := h
  cases l with
  | nil => exact absurd rfl h1
  | cons x r =>
    cases r with
    | nil =>
      rw [List.sum_cons, List.sum_nil] at hs
      exact absurd (by show x = 0; omega) h2
    | cons y t =>
      have ne : sfx (y :: t) ≠ [] := by simp [sfx]
      refine ⟨ne, ?_⟩
      show (sfx (y :: t)).getLast ne ≠ 0
      rw [sfx_last (y :: t) (by simp) ne]
      rw [List.getLast_cons (by simp)] at h2
      exact h2
theorem fold_spec : ∀ (n : Nat) (l : List Int), Lead l → l.length ≤ n → Lead (fold n l).2 ∧ (fold n l).2.sum ≠ 0 ∧ (fold n l).1 < l.length
  | 0, l, h, hn => by
    obtain ⟨h1, _⟩ := h
    exact absurd (List.eq_nil_of_length_eq_zero (by omega)) h1
  | n + 1, l, h, hn => by
    unfold fold
    by_cases hs : l.sum = 0
    · rw [if_pos hs]
      have hl := dv_len l
      obtain ⟨a, b, c⟩ := fold_spec n (dv l) (h.dv hs) (by omega)
      have : 0 < l.length := List.length_pos_iff.mpr h.1
      exact ⟨a, b, by show (fold n (dv l)).1 + 1 < l.length; omega⟩
    · rw [if_neg hs]
      exact ⟨h, hs, List.length_pos_iff.mpr h.1⟩
/-! ### moments -/
def mom (f : Nat → Int) : List Int → Int
  | [] => 0
  | a :: l => a * f 0 + mom (fun j => f (j + 1)) l
def dl (f : Nat → Int) : Nat → Int := fun j => f (j + 1) - f j
def dls : Nat → (Nat → Int) → Nat → Int
  | 0, f => f
  | n + 1, f => dls n (dl f)
theorem abel : ∀ (l : List Int) (f : Nat → Int), mom f l = f 0 * l.sum + mom (dl f) (sfx l.tail)
  | [], f => by
    show 0 = f 0 * ([] : List Int).sum + mom (dl f) (sfx [])
    rw [List.sum_nil]
    simp [sfx, mom]
  | [a], f => by
    show a * f 0 + 0 = f 0 * [a].sum + 0
    rw [List.sum_cons, List.sum_nil, Int.add_zero, Int.add_zero, Int.add_zero, Int.mul_comm]
  | a :: b :: r, f => by
    have ih := abel (b :: r) (fun j => f (j + 1))
    show a * f 0 + mom (fun j => f (j + 1)) (b :: r) = f 0 * (a :: b :: r).sum + (((b + r.sum)) * dl f 0 + mom (fun j => dl f (j + 1)) (sfx r))
    rw [ih]
    have e : dl (fun j => f (j + 1)) = fun j => dl f (j + 1) := rfl
    rw [e]
    show a * f 0 + (f 1 * (b :: r).sum + mom (fun j => dl f (j + 1)) (sfx r)) = _
    simp only [List.sum_cons]
    have e2 : dl f 0 = f 1 - f 0 := rfl
    rw [e2]
    generalize b + r.sum = T
    generalize mom (fun j => dl f (j + 1)) (sfx r) = M
    rw [Int.mul_sub, Int.mul_add, Int.mul_comm T (f 1), Int.mul_comm T (f 0), Int.mul_comm a (f 0)]
    omega
theorem mom_fold : ∀ (n : Nat) (l : List Int) (f : Nat → Int), mom f l = mom (dls (fold n l).1 f) (fold n l).2
  | 0, l, f => rfl
  | n + 1, l, f => by
    unfold fold
    by_cases hs : l.sum = 0
    · rw [if_pos hs, abel, hs, Int.mul_zero, Int.zero_add]
      exact mom_fold n (dv l) (dl f)
    · rw [if_neg hs]
      rfl
theorem dls_succ : ∀ (m : Nat) (f : Nat → Int), dls (m + 1) f = dl (dls m f)
  | 0, f => rfl
  | m + 1, f => by
    show dls (m + 1) (dl f) = dl (dls m (dl f))
    exact dls_succ m (dl f)
/-- (a j + b) f -/
theorem dl_mul (a b : Int) (f : Nat → Int) : dl (fun j => (a * j + b) * f j) = fun j => (a * j + b) * dl f j + a * dl f j + a * f j := by
  funext j
  have e : (((j + 1 : Nat) : Int)) = (j : Int) + 1 := by omega
  show (a * ((j + 1 : Nat) : Int) + b) * f (j + 1) - (a * j + b) * f j = (a * j + b) * (f (j + 1) - f j) + a * (f (j + 1) - f j) + a * f j
  rw [e, Int.mul_add a, Int.mul_one]
  generalize (a * (j : Int)) = u
  generalize f (j + 1) = v
  generalize f j = w
  rw [Int.mul_sub, Int.mul_sub, show u + a + b = (u + b) + a by omega, Int.add_mul]
  omega
theorem dls_mul (a b : Int) (f : Nat → Int) : ∀ (m : Nat) (j : Nat), dls (m + 1) (fun j => (a * j + b) * f j) j = (a * j + b) * dls (m + 1) f j + a * (m + 1) * (dls (m + 1) f j + dls m f j)
  | 0, j => by
    show dl (fun j => (a * j + b) * f j) j = (a * j + b) * dl f j + a * ((0 : Nat) + 1) * (dl f j + f j)
    rw [dl_mul]
    show (a * j + b) * dl f j + a * dl f j + a * f j = _
    have : a * (((0 : Nat) : Int) + 1) = a := by
      rw [show (((0 : Nat) : Int) + 1) = 1 by decide, Int.mul_one]
    rw [this, Int.mul_add]
    omega
  | m + 1, j => by
    have ih := dls_mul a b f m
    rw [dls_succ (m + 1)]
    have e : dls (m + 1) (fun j => (a * j + b) * f j) = fun j => (a * j + b) * dls (m + 1) f j + a * (m + 1) * (dls (m + 1) f j + dls m f j) := funext ih
    rw [e]
    have e2 : dl (fun j => (a * j + b) * dls (m + 1) f j + a * (m + 1) * (dls (m + 1) f j + dls m f j)) j = dl (fun j => (a * j + b) * dls (m + 1) f j) j + a * (m + 1) * (dl (dls (m + 1) f) j + dl (dls m f) j) := by
      generalize dls (m + 1) f = g
      generalize dls m f = k
      show ((a * ((j + 1 : Nat) : Int) + b) * g (j + 1) + a * (m + 1) * (g (j + 1) + k (j + 1))) - ((a * (j : Int) + b) * g j + a * (m + 1) * (g j + k j)) = ((a * ((j + 1 : Nat) : Int) + b) * g (j + 1) - (a * (j : Int) + b) * g j) + a * (m + 1) * ((g (j + 1) - g j) + (k (j + 1) - k j))
      generalize (a * ((j + 1 : Nat) : Int) + b) * g (j + 1) = u
      generalize (a * (j : Int) + b) * g j = v
      generalize a * ((m : Int) + 1) = t
      rw [Int.mul_add, Int.mul_add, Int.mul_add, Int.mul_sub, Int.mul_sub]
      omega
    rw [e2, dl_mul, ← dls_succ (m + 1), ← dls_succ m]
    show (a * j + b) * dls (m + 1 + 1) f j + a * dls (m + 1 + 1) f j + a * dls (m + 1) f j + a * (m + 1) * (dls (m + 1 + 1) f j + dls (m + 1) f j) = _
    generalize dls (m + 1 + 1) f j = p
    generalize dls (m + 1) f j = q
    have e3 : ((m + 1 : Nat) : Int) + 1 = ((m : Int) + 1) + 1 := by omega
    rw [e3, Int.mul_add a (((m : Int) + 1)) 1, Int.mul_one]
    generalize a * ((m : Int) + 1) = t
    rw [Int.add_mul t a, Int.mul_add a]
    omega
def fact : Nat → Int
  | 0 => 1
  | n + 1 => (n + 1) * fact n
theorem fact_ne : ∀ n, fact n ≠ 0
  | 0 => by decide
  | n + 1 => by
    show ((n : Int) + 1) * fact n ≠ 0
    intro h
    rcases Int.mul_eq_zero.mp h with z | z
    · omega
    · exact fact_ne n z
def lin (a b : Int) (k : Nat) : Nat → Int := fun j => (a * j + b) ^ k
theorem lin_succ (a b : Int) (k : Nat) : lin a b (k + 1) = fun j => (a * j + b) * lin a b k j := by
  funext j
  unfold lin
  rw [Int.pow_succ, Int.mul_comm]
theorem dl_const (c : Int) : dl (fun _ => c) = fun _ => 0 := by
  funext j
  show c - c = 0
  omega
theorem dls_lin (a b : Int) : ∀ k, dls k (lin a b k) = (fun _ => a ^ k * fact k) ∧ dls (k + 1) (lin a b k) = fun _ => 0
  | 0 => by
    have e : lin a b 0 = fun _ => 1 := by
      funext j
      unfold lin
      rw [Int.pow_zero]
    rw [e]
    refine ⟨?_, dl_const 1⟩
    funext j
    show (1 : Int) = a ^ 0 * 1
    rw [Int.pow_zero, Int.mul_one]
  | k + 1 => by
    obtain ⟨i1, i2⟩ := dls_lin a b k
    have e : dls (k + 1) (lin a b (k + 1)) = fun _ => a ^ (k + 1) * fact (k + 1) := by
      funext j
      rw [lin_succ, dls_mul, i1, i2]
      show (a * j + b) * 0 + a * (k + 1) * (0 + a ^ k * fact k) = a ^ (k + 1) * ((k + 1) * fact k)
      rw [Int.mul_zero, Int.zero_add, Int.zero_add, Int.pow_succ]
      rw [Int.mul_assoc, Int.mul_comm (a ^ k) a, Int.mul_assoc a (a ^ k), Int.mul_left_comm ((k : Int) + 1) (a ^ k)]
    refine ⟨e, ?_⟩
    rw [dls_succ, e, dl_const]
theorem dls_zero : ∀ m, dls m (fun _ => 0) = fun _ => 0
  | 0 => rfl
  | m + 1 => by
    show dls m (dl fun _ => 0) = _
    rw [dl_const, dls_zero m]
theorem dls_add : ∀ (m n : Nat) (f : Nat → Int), dls (m + n) f = dls n (dls m f)
  | m, 0, f => rfl
  | m, n + 1, f => by
    rw [← Nat.add_assoc, dls_succ, dls_add m n f, dls_succ]
theorem dls_low (a b : Int) {k m : Nat} (h : k < m) : dls m (lin a b k) = fun _ => 0 := by
  obtain ⟨d, rfl⟩ := Nat.exists_eq_add_of_lt h
  rw [show k + d + 1 = (k + 1) + d by omega, dls_add (k + 1) d, (dls_lin a b k).2, dls_zero]
theorem mom_zero : ∀ l : List Int, mom (fun _ => 0) l = 0
  | [] => rfl
  | a :: r => by
    show a * 0 + mom (fun _ => 0) r = 0
    rw [mom_zero r]
    omega
theorem mom_const (c : Int) : ∀ l : List Int, mom (fun _ => c) l = c * l.sum
  | [] => by
    show 0 = c * ([] : List Int).sum
    rw [List.sum_nil]
    omega
  | a :: r => by
    show a * c + mom (fun _ => c) r = c * (a :: r).sum
    rw [mom_const c r, List.sum_cons, Int.mul_add, Int.mul_comm]
/-- the moments tell how often -/
theorem mom_low {n : Nat} {l : List Int} (a b : Int) {k : Nat} (hk : k < (fold n l).1) : mom (lin a b k) l = 0 := by
  rw [mom_fold n, dls_low a b hk, mom_zero]
theorem mom_at {n : Nat} {l : List Int} (a b : Int) (ha : a = 1 ∨ a = -1) (h : (fold n l).2.sum ≠ 0) : mom (lin a b (fold n l).1) l ≠ 0 := by
  rw [mom_fold n l (lin a b (fold n l).1), (dls_lin a b (fold n l).1).1, mom_const]
  have ha2 : a ^ (fold n l).1 ≠ 0 := by
    have : a ≠ 0 := by omega
    rcases ha with rfl | rfl
    · rw [Int.one_pow]
      decide
    · intro z
      have e : ((-1 : Int) ^ (fold n l).1) * ((-1 : Int) ^ (fold n l).1) = 1 := by
        rw [← Int.mul_pow]
        show (1 : Int) ^ _ = 1
        exact Int.one_pow
      rw [z] at e
      cases e
  intro z
  rcases Int.mul_eq_zero.mp z with z | z
  · rcases Int.mul_eq_zero.mp z with z | z
    · exact ha2 z
    · exact fact_ne _ z
  · exact h z
/-! ### and back -/
def mul1 (d : List Int) : List Int := List.zipWith (fun a b => a - b) (0 :: d) (d ++ [0])
theorem mul_go : ∀ (r : List Int) (c : Int), List.zipWith (fun a b => a - b) (c :: sfx r) (sfx r ++ [0]) = (c - r.sum) :: r
  | [], c => by
    show [c - 0] = [c - ([] : List Int).sum]
    rw [List.sum_nil]
  | x :: t, c => by
    show (c - (x + t.sum)) :: List.zipWith (fun a b => a - b) ((x + t.sum) :: sfx t) (sfx t ++ [0]) = _
    rw [mul_go t (x + t.sum), List.sum_cons]
    have : x + t.sum - t.sum = x := by omega
    rw [this]
theorem mul1_dv {l : List Int} (h : l ≠ []) (hs : l.sum = 0) : mul1 (dv l) = l := by
  cases l with
  | nil => exact absurd rfl h
  | cons x r =>
    show List.zipWith (fun a b => a - b) (0 :: sfx r) (sfx r ++ [0]) = _
    rw [mul_go]
    rw [List.sum_cons] at hs
    have : 0 - r.sum = x := by omega
    rw [this]
def up : Nat → List Int → List Int
  | 0, d => d
  | k + 1, d => up k (mul1 d)
theorem up_succ : ∀ (k : Nat) (d : List Int), up (k + 1) d = mul1 (up k d)
  | 0, d => rfl
  | k + 1, d => by
    show up (k + 1) (mul1 d) = mul1 (up k (mul1 d))
    exact up_succ k (mul1 d)
theorem up_fold : ∀ (n : Nat) (l : List Int), l ≠ [] → Lead l → up (fold n l).1 (fold n l).2 = l
  | 0, l, _, _ => rfl
  | n + 1, l, h, hl => by
    unfold fold
    by_cases hs : l.sum = 0
    · rw [if_pos hs]
      show up ((fold n (dv l)).1 + 1) (fold n (dv l)).2 = l
      rw [up_succ, up_fold n (dv l) (hl.dv hs).1 (hl.dv hs), mul1_dv h hs]
    · rw [if_neg hs]
      rfl
/-! ### from behind -/
theorem mom_app : ∀ (l m : List Int) (f : Nat → Int), mom f (l ++ m) = mom f l + mom (fun j => f (j + l.length)) m
  | [], m, f => by
    show mom f m = 0 + mom (fun j => f (j + 0)) m
    rw [Int.zero_add]
    rfl
  | a :: r, m, f => by
    show a * f 0 + mom (fun j => f (j + 1)) (r ++ m) = a * f 0 + mom (fun j => f (j + 1)) r + mom (fun j => f (j + (r.length + 1))) m
    rw [mom_app r m, Int.add_assoc]
    rfl
theorem mom_rev (k : Nat) : ∀ l : List Int, mom (lin 1 0 k) l.reverse = mom (lin (-1) ((l.length : Int) - 1) k) l
  | [] => rfl
  | a :: r => by
    rw [List.reverse_cons, mom_app, mom_rev k r]
    show mom (lin (-1) ((r.length : Int) - 1) k) r + (a * lin 1 0 k (0 + r.reverse.length) + 0) = a * lin (-1) (((r.length + 1 : Nat) : Int) - 1) k 0 + mom (fun j => lin (-1) (((r.length + 1 : Nat) : Int) - 1) k (j + 1)) r
    have e1 : lin 1 0 k (0 + r.reverse.length) = lin (-1) (((r.length + 1 : Nat) : Int) - 1) k 0 := by
      unfold lin
      congr 1
      rw [List.length_reverse]
      omega
    have e2 : (fun j => lin (-1) (((r.length + 1 : Nat) : Int) - 1) k (j + 1)) = lin (-1) ((r.length : Int) - 1) k := by
      funext j
      unfold lin
      congr 1
      omega
    rw [e1, e2]
    omega
theorem far_rev {n m : Nat} {l : List Int} (h : (fold n l).2.sum ≠ 0) (h' : (fold m l.reverse).2.sum ≠ 0) : (fold m l.reverse).1 = (fold n l).1 := by
  rcases Nat.lt_trichotomy (fold m l.reverse).1 (fold n l).1 with c | c | c
  · have z := mom_at (n := m) (l := l.reverse) 1 0 (.inl rfl) h'
    rw [mom_rev] at z
    exact absurd (mom_low (n := n) (l := l) (-1) _ c) z
  · exact c
  · have z := mom_at (n := n) (l := l) (-1) ((l.length : Int) - 1) (.inr rfl) h
    rw [← mom_rev] at z
    exact absurd (mom_low (n := m) (l := l.reverse) 1 0 c) z
/-! ### signs and places -/
def sg (c : Nat) : Int := if c = 43 then 1 else if c = 45 then -1 else 0
def rowOf (s : List Nat) : List Int := s.map sg
def pos (c : Nat) : Nat → List Nat → List Int
  | _, [] => []
  | i, x :: r => if x = c then (i : Int) :: pos c (i + 1) r else pos c (i + 1) r
def psum (k : Nat) (l : List Int) : Int := (l.map (· ^ k)).sum
def Sgn (s : List Nat) : Prop := ∀ c ∈ s, c = 43 ∨ c = 45 ∨ c = 48
theorem psum_cons (k : Nat) (x : Int) (l : List Int) : psum k (x :: l) = x ^ k + psum k l := by
  unfold psum
  rw [List.map_cons, List.sum_cons]
theorem psum_mom (k : Nat) : ∀ (s : List Nat) (i : Nat), Sgn s → psum k (pos 43 i s) - psum k (pos 45 i s) = mom (fun j => (((j + i : Nat)) : Int) ^ k) (rowOf s)
  | [], i, _ => by
    show psum k [] - psum k [] = 0
    omega
  | x :: r, i, h => by
    have ih := psum_mom k r (i + 1) fun c hc => h c (List.mem_cons_of_mem _ hc)
    show psum k (pos 43 i (x :: r)) - psum k (pos 45 i (x :: r)) = sg x * (((0 + i : Nat)) : Int) ^ k + mom (fun j => (((j + 1 + i : Nat)) : Int) ^ k) (rowOf r)
    have e : (fun j : Nat => (((j + 1 + i : Nat)) : Int) ^ k) = fun j => (((j + (i + 1) : Nat)) : Int) ^ k := by
      funext j
      congr 2
      omega
    rw [e, ← ih, Nat.zero_add]
    rcases h x (by simp) with rfl | rfl | rfl
    · show psum k ((i : Int) :: pos 43 (i + 1) r) - psum k (pos 45 (i + 1) r) = 1 * (i : Int) ^ k + _
      rw [psum_cons]
      omega
    · show psum k (pos 43 (i + 1) r) - psum k ((i : Int) :: pos 45 (i + 1) r) = -1 * (i : Int) ^ k + _
      rw [psum_cons]
      omega
    · show psum k (pos 43 (i + 1) r) - psum k (pos 45 (i + 1) r) = 0 * (i : Int) ^ k + _
      omega
/-- like sums, just as long -/
theorem sums_tell {s : List Nat} {n : Nat} (hs : Sgn s) (h : (fold n (rowOf s)).2.sum ≠ 0) {k : Nat} (hk : k ≤ (fold n (rowOf s)).1) : (psum k (pos 43 0 s) = psum k (pos 45 0 s)) ↔ k < (fold n (rowOf s)).1 := by
  have e := psum_mom k s 0 hs
  have e2 : (fun j : Nat => (((j + 0 : Nat)) : Int) ^ k) = lin 1 0 k := by
    funext j
    unfold lin
    congr 1
    omega
  rw [e2] at e
  constructor
  · intro q
    rcases Nat.lt_or_eq_of_le hk with c | c
    · exact c
    · have z := mom_at (n := n) (l := rowOf s) 1 0 (.inl rfl) h
      rw [← c] at z
      exact absurd (by rw [← e]; omega) z
  · intro c
    rw [mom_low (n := n) 1 0 c] at e
    omega
/-- signs with ends that are not 0 -/
structure Ok (s : List Nat) : Prop where
  sg : Sgn s
  l2 : 2 ≤ s.length
  l40 : s.length ≤ 40
  hd : ∀ c, s.head? = some c → c = 43 ∨ c = 45
  lst : ∀ c, s.getLast? = some c → c = 43 ∨ c = 45
theorem row_lead {s : List Nat} (h : s ≠ []) (hl : ∀ c, s.getLast? = some c → c = 43 ∨ c = 45) : Lead (rowOf s) := by
  have ne : rowOf s ≠ [] := by
    unfold rowOf
    simpa using h
  refine ⟨ne, ?_⟩
  have e : (rowOf s).getLast ne = sg (s.getLast h) := by
    unfold rowOf
    exact List.getLast_map _
  rw [e]
  rcases hl _ (List.getLast?_eq_getLast h) with c | c
  · rw [c]; decide
  · rw [c]; decide
theorem Ok.ne {s : List Nat} (h : Ok s) : s ≠ [] := fun e => by
  have := h.l2
  rw [e] at this
  exact absurd this (by decide)
theorem Ok.rev {s : List Nat} (h : Ok s) : Ok s.reverse :=
  ⟨fun c hc => h.sg c (List.mem_reverse.mp hc), by rw [List.length_reverse]; exact h.l2, by rw [List.length_reverse]; exact h.l40, fun c hc => h.lst c (by rw [List.head?_reverse] at hc; exact hc), fun c hc => h.hd c (by rw [List.getLast?_reverse] at hc; exact hc)⟩
theorem row_rev (s : List Nat) : rowOf s.reverse = (rowOf s).reverse := by
  unfold rowOf
  rw [List.map_reverse]
end SG

/-! K73M: products of 1 - x^s, plain. -/
namespace PU
open SG
/-- what stands from p on, less ts -/
def subAt : List Int → Nat → List Int → List Int
  | L, _, [] => L
  | L, p, t :: ts => subAt (L.set p (L.getD p 0 - t)) (p + 1) ts
theorem subAt_len : ∀ (ts L : List Int) (p : Nat), (subAt L p ts).length = L.length
  | [], L, p => rfl
  | t :: ts, L, p => by
    show (subAt (L.set p (L.getD p 0 - t)) (p + 1) ts).length = _
    rw [subAt_len ts, List.length_set]
def shm (s : Nat) (l : List Int) : List Int := subAt (l ++ List.replicate s 0) s l
theorem shm_len (s : Nat) (l : List Int) : (shm s l).length = l.length + s := by
  unfold shm
  rw [subAt_len, List.length_append, List.length_replicate]
def prod (ss : List Nat) : List Int := ss.foldl (fun P s => shm s P) [1]
/-! ### moments -/
theorem mom_set (y : Int) : ∀ (L : List Int) (p : Nat) (f : Nat → Int), p < L.length → mom f (L.set p y) = mom f L - L.getD p 0 * f p + y * f p
  | [], p, f, h => absurd h (by simp)
  | a :: r, 0, f, h => by
    show y * f 0 + mom (fun j => f (j + 1)) r = a * f 0 + mom (fun j => f (j + 1)) r - a * f 0 + y * f 0
    omega
  | a :: r, p + 1, f, h => by
    have ih := mom_set y r p (fun j => f (j + 1)) (by simp at h; omega)
    show a * f 0 + mom (fun j => f (j + 1)) (r.set p y) = a * f 0 + mom (fun j => f (j + 1)) r - r.getD p 0 * f (p + 1) + y * f (p + 1)
    rw [ih]
    omega
theorem mom_subAt : ∀ (ts L : List Int) (p : Nat) (f : Nat → Int), p + ts.length ≤ L.length → mom f (subAt L p ts) = mom f L - mom (fun j => f (j + p)) ts
  | [], L, p, f, h => by
    show mom f L = mom f L - 0
    omega
  | t :: ts, L, p, f, h => by
    rw [List.length_cons] at h
    show mom f (subAt (L.set p (L.getD p 0 - t)) (p + 1) ts) = mom f L - (t * f (0 + p) + mom (fun j => f (j + 1 + p)) ts)
    rw [mom_subAt ts _ (p + 1) f (by rw [List.length_set]; omega), mom_set _ L p f (by omega)]
    have e : (fun j => f (j + (p + 1))) = fun j => f (j + 1 + p) := by
      funext j
      congr 1
      omega
    rw [e, Nat.zero_add, Int.sub_mul]
    omega
theorem mom_zeros (s : Nat) : ∀ (l : List Int) (f : Nat → Int), mom f (l ++ List.replicate s 0) = mom f l
  | [], f => by
    induction s generalizing f with
    | zero => rfl
    | succ s ih =>
      show 0 * f 0 + mom (fun j => f (j + 1)) ([] ++ List.replicate s 0) = 0
      rw [ih]
      show 0 * f 0 + 0 = 0
      omega
  | a :: r, f => by
    show a * f 0 + mom (fun j => f (j + 1)) (r ++ List.replicate s 0) = a * f 0 + mom (fun j => f (j + 1)) r
    rw [mom_zeros s r]
def DS (s : Nat) (f : Nat → Int) : Nat → Int := fun j => f (j + s) - f j
theorem mom_sub : ∀ (l : List Int) (f g : Nat → Int), mom (fun j => f j - g j) l = mom f l - mom g l
  | [], f, g => by
    show (0 : Int) = 0 - 0
    omega
  | a :: r, f, g => by
    show a * (f 0 - g 0) + mom (fun j => f (j + 1) - g (j + 1)) r = a * f 0 + mom (fun j => f (j + 1)) r - (a * g 0 + mom (fun j => g (j + 1)) r)
    rw [mom_sub r (fun j => f (j + 1)) (fun j => g (j + 1)), Int.mul_sub]
    omega
theorem mom_shm (s : Nat) (l : List Int) (f : Nat → Int) : mom f (shm s l) = - mom (DS s f) l := by
  unfold shm DS
  rw [mom_subAt _ _ _ _ (by rw [List.length_append, List.length_replicate]; omega), mom_zeros, mom_sub]
  omega
theorem DS_dl (s : Nat) (f : Nat → Int) : dl (DS s f) = DS s (dl f) := by
  funext j
  show f (j + 1 + s) - f (j + 1) - (f (j + s) - f j) = f (j + s + 1) - f (j + s) - (f (j + 1) - f j)
  have : j + 1 + s = j + s + 1 := by omega
  rw [this]
  omega
theorem DS_dls (s : Nat) : ∀ (m : Nat) (f : Nat → Int), dls m (DS s f) = DS s (dls m f)
  | 0, f => rfl
  | m + 1, f => by
    show dls m (dl (DS s f)) = DS s (dls m (dl f))
    rw [DS_dl, DS_dls s m]
theorem DS_const (s : Nat) (c : Int) : DS s (fun _ => c) = fun _ => 0 := by
  funext j
  show c - c = 0
  omega
theorem DS_lin {g : Nat → Int} {c : Int} (h : dl g = fun _ => c) : ∀ s, DS s g = fun _ => (s : Int) * c
  | 0 => by
    funext j
    show g j - g j = ((0 : Nat) : Int) * c
    simp
  | s + 1 => by
    have ih := DS_lin h s
    funext j
    have e1 : g (j + s) - g j = s * c := congrFun ih j
    have e2 : g (j + s + 1) - g (j + s) = c := congrFun h (j + s)
    show g (j + s + 1) - g j = ((s + 1 : Nat) : Int) * c
    have e3 : ((s + 1 : Nat) : Int) * c = s * c + c := by
      rw [show ((s + 1 : Nat) : Int) = (s : Int) + 1 by omega, Int.add_mul, Int.one_mul]
    rw [e3]
    omega
theorem dls_neg : ∀ (m : Nat) (f : Nat → Int), dls m (fun j => - f j) = fun j => - dls m f j
  | 0, f => rfl
  | m + 1, f => by
    have e : dl (fun j => - f j) = fun j => - dl f j := by
      funext j
      show - f (j + 1) - - f j = -(f (j + 1) - f j)
      omega
    show dls m (dl (fun j => - f j)) = fun j => - dls m (dl f) j
    rw [e, dls_neg m]
def G : List Nat → (Nat → Int) → Nat → Int
  | [], f => f
  | s :: ss, f => fun j => - DS s (G ss f) j
def pl : List Nat → Int → Int
  | [], c => c
  | s :: ss, c => -((s : Int) * pl ss c)
theorem mom_neg : ∀ (l : List Int) (f : Nat → Int), mom (fun j => - f j) l = - mom f l
  | [], f => by
    show (0 : Int) = -0
    omega
  | a :: r, f => by
    show a * - f 0 + mom (fun j => - f (j + 1)) r = -(a * f 0 + mom (fun j => f (j + 1)) r)
    rw [mom_neg r (fun j => f (j + 1)), Int.mul_neg]
    omega
theorem mom_G : ∀ (ss : List Nat) (P : List Int) (f : Nat → Int), mom f (ss.foldl (fun P s => shm s P) P) = mom (G ss f) P
  | [], P, f => rfl
  | s :: ss, P, f => by
    show mom f (ss.foldl (fun P s => shm s P) (shm s P)) = mom (fun j => - DS s (G ss f) j) P
    rw [mom_G ss, mom_shm, mom_neg]
theorem G_deg {f : Nat → Int} {c : Int} : ∀ (ss : List Nat) (m : Nat), dls (m + ss.length) f = (fun _ => c) → dls m (G ss f) = fun _ => pl ss c
  | [], m, h => h
  | s :: ss, m, h => by
    have ih := G_deg ss (m + 1) (by rw [← h, List.length_cons]; congr 1; omega)
    show dls m (fun j => - DS s (G ss f) j) = fun _ => -((s : Int) * pl ss c)
    rw [dls_neg, DS_dls]
    have e : dl (dls m (G ss f)) = fun _ => pl ss c := by rw [← dls_succ]; exact ih
    rw [DS_lin e]
theorem pl_zero : ∀ ss, pl ss 0 = 0
  | [] => rfl
  | s :: ss => by
    show -((s : Int) * pl ss 0) = 0
    rw [pl_zero ss]
    omega
theorem pl_ne {c : Int} (hc : c ≠ 0) : ∀ ss : List Nat, (∀ s ∈ ss, s ≠ 0) → pl ss c ≠ 0
  | [], _ => hc
  | s :: ss, h => by
    have ih := pl_ne hc ss fun x hx => h x (List.mem_cons_of_mem _ hx)
    have h0 := h s (by simp)
    show -((s : Int) * pl ss c) ≠ 0
    intro z
    rcases Int.mul_eq_zero.mp (show (s : Int) * pl ss c = 0 by omega) with q | q
    · omega
    · exact ih q
theorem prod_low (ss : List Nat) {k : Nat} (hk : k < ss.length) : mom (lin 1 0 k) (prod ss) = 0 := by
  unfold prod
  rw [mom_G]
  have e := G_deg (c := 0) ss 0 (by rw [Nat.zero_add]; exact dls_low 1 0 hk)
  rw [pl_zero] at e
  have e' : G ss (lin 1 0 k) = fun _ => 0 := e
  rw [e', mom_zero]
theorem prod_at (ss : List Nat) (h : ∀ s ∈ ss, s ≠ 0) : mom (lin 1 0 ss.length) (prod ss) ≠ 0 := by
  unfold prod
  rw [mom_G]
  have e := G_deg (c := 1 ^ ss.length * fact ss.length) ss 0 (by rw [Nat.zero_add]; exact (dls_lin 1 0 ss.length).1)
  have e' : G ss (lin 1 0 ss.length) = fun _ => pl ss (1 ^ ss.length * fact ss.length) := e
  rw [e', mom_const]
  have q := pl_ne (c := 1 ^ ss.length * fact ss.length) (by rw [Int.one_pow, Int.one_mul]; exact fact_ne _) ss h
  intro z
  rcases Int.mul_eq_zero.mp z with z | z
  · exact q z
  · exact absurd z (by decide)
/-! ### the first is 1 -/
theorem subAt_head : ∀ (ts : List Int) (L : List Int) (p : Nat), 1 ≤ p → (subAt L p ts).head? = L.head?
  | [], L, p, h => rfl
  | t :: ts, L, p, h => by
    show (subAt (L.set p (L.getD p 0 - t)) (p + 1) ts).head? = _
    rw [subAt_head ts _ (p + 1) (by omega)]
    cases L with
    | nil => rfl
    | cons a r =>
      cases p with
      | zero => omega
      | succ p => rfl
theorem prod_head : ∀ (ss : List Nat) (P : List Int), P.head? = some 1 → (∀ s ∈ ss, s ≠ 0) → (ss.foldl (fun P s => shm s P) P).head? = some 1
  | [], P, h, _ => h
  | s :: ss, P, h, hs => by
    refine prod_head ss (shm s P) ?_ fun x hx => hs x (List.mem_cons_of_mem _ hx)
    unfold shm
    have := hs s (by simp)
    rw [subAt_head _ _ _ (by omega)]
    cases P with
    | nil => cases h
    | cons a r => exact h
/-! ### places with their often -/
def ml (σ : Int) : Nat → List Int → List Int
  | _, [] => []
  | i, a :: r => List.replicate (a * σ).toNat (i : Int) ++ ml σ (i + 1) r
theorem psum_app (k : Nat) (a b : List Int) : psum k (a ++ b) = psum k a + psum k b := by
  unfold psum
  rw [List.map_append, List.sum_append]
theorem psum_rep (k : Nat) (x : Int) : ∀ n : Nat, psum k (List.replicate n x) = n * x ^ k
  | 0 => by simp [psum]
  | n + 1 => by
    rw [List.replicate_succ, psum_cons, psum_rep k x n, show ((n + 1 : Nat) : Int) = (n : Int) + 1 by omega, Int.add_mul, Int.one_mul]
    omega
theorem ml_mom (k : Nat) : ∀ (l : List Int) (i : Nat), psum k (ml 1 i l) - psum k (ml (-1) i l) = mom (fun j => (((j + i : Nat)) : Int) ^ k) l
  | [], i => by
    show psum k [] - psum k [] = 0
    omega
  | a :: r, i => by
    have ih := ml_mom k r (i + 1)
    show psum k (List.replicate (a * 1).toNat (i : Int) ++ ml 1 (i + 1) r) - psum k (List.replicate (a * -1).toNat (i : Int) ++ ml (-1) (i + 1) r) = a * (((0 + i : Nat)) : Int) ^ k + mom (fun j => (((j + 1 + i : Nat)) : Int) ^ k) r
    have e : (fun j : Nat => (((j + 1 + i : Nat)) : Int) ^ k) = fun j => (((j + (i + 1) : Nat)) : Int) ^ k := by
      funext j
      congr 2
      omega
    rw [e, ← ih, psum_app, psum_app, psum_rep, psum_rep, Nat.zero_add]
    generalize (i : Int) ^ k = y
    rcases Int.le_total 0 a with c | c
    · have e1 : ((a * 1).toNat : Int) = a := by omega
      have e2 : ((a * -1).toNat : Int) = 0 := by omega
      rw [e1, e2]
      omega
    · have e1 : ((a * 1).toNat : Int) = 0 := by omega
      have e2 : ((a * -1).toNat : Int) = -a := by omega
      rw [e1, e2, Int.neg_mul]
      omega
theorem ml_lin (k : Nat) (l : List Int) : psum k (ml 1 0 l) - psum k (ml (-1) 0 l) = mom (lin 1 0 k) l := by
  rw [ml_mom]
  congr 1
  funext j
  unfold lin
  congr 1
  omega
def l1 (l : List Int) : Int := (l.map fun a => if a < 0 then -a else a).sum
theorem ml_len : ∀ (l : List Int) (i : Nat), (((ml 1 i l).length + (ml (-1) i l).length : Nat) : Int) = l1 l
  | [], i => rfl
  | a :: r, i => by
    have ih := ml_len r (i + 1)
    show (((List.replicate (a * 1).toNat (i : Int) ++ ml 1 (i + 1) r).length + (List.replicate (a * -1).toNat (i : Int) ++ ml (-1) (i + 1) r).length : Nat) : Int) = ((a :: r).map fun a => if a < 0 then -a else a).sum
    rw [List.map_cons, List.sum_cons]
    have e : l1 r = (r.map fun a => if a < 0 then -a else a).sum := rfl
    rw [← e, ← ih, List.length_append, List.length_append, List.length_replicate, List.length_replicate]
    split <;> omega
theorem ml_mem (σ : Int) : ∀ (l : List Int) (i : Nat) (x : Int), x ∈ ml σ i l → (i : Int) ≤ x ∧ x < i + l.length
  | [], i, x, h => by simp [ml] at h
  | a :: r, i, x, h => by
    have h' : x ∈ List.replicate (a * σ).toNat (i : Int) ++ ml σ (i + 1) r := h
    rw [List.length_cons]
    rcases List.mem_append.mp h' with h | h
    · have := List.eq_of_mem_replicate h
      omega
    · have := ml_mem σ r (i + 1) x h
      omega
theorem psum_zero : ∀ l : List Int, psum 0 l = l.length
  | [] => rfl
  | x :: r => by
    rw [psum_cons, psum_zero r, Int.pow_zero, List.length_cons]
    omega
theorem same_len (ss : List Nat) (h : 1 ≤ ss.length) : (ml 1 0 (prod ss)).length = (ml (-1) 0 (prod ss)).length := by
  have e := ml_lin 0 (prod ss)
  rw [prod_low ss h, psum_zero, psum_zero] at e
  omega
/-- not less than as many as there are steps -/
theorem many (ss : List Nat) (h : 1 ≤ ss.length) (hs : ∀ s ∈ ss, s ≠ 0) : ss.length ≤ (ml 1 0 (prod ss)).length := by
  refine Nat.le_of_not_lt fun c => ?_
  have p := NW.perm_of_sums (A := ml 1 0 (prod ss)) (B := ml (-1) 0 (prod ss)) (same_len ss h) fun k k1 k2 => by
    have e := ml_lin k (prod ss)
    rw [prod_low ss (by omega)] at e
    show psum k (ml 1 0 (prod ss)) = psum k (ml (-1) 0 (prod ss))
    omega
  have hd := prod_head ss [1] rfl hs
  have e : prod ss = 1 :: (prod ss).tail := by
    cases q : prod ss with
    | nil =>
      unfold prod at q
      rw [q] at hd
      cases hd
    | cons a r =>
      unfold prod at q
      rw [q] at hd
      cases hd
      rfl
  have m1 : (0 : Int) ∈ ml 1 0 (prod ss) := by
    rw [e]
    show (0 : Int) ∈ List.replicate ((1 : Int) * 1).toNat (((0 : Nat)) : Int) ++ _
    exact List.mem_append_left _ (by simp)
  have m2 : (0 : Int) ∉ ml (-1) 0 (prod ss) := by
    rw [e]
    intro z
    have z' : (0 : Int) ∈ List.replicate ((1 : Int) * -1).toNat (((0 : Nat)) : Int) ++ ml (-1) 1 (prod ss).tail := z
    rcases List.mem_append.mp z' with z | z
    · simp at z
    · have := ml_mem (-1) _ 1 0 z
      omega
  exact m2 (p.mem_iff.mp m1)
theorem size_ge (ss : List Nat) (h : 1 ≤ ss.length) (hs : ∀ s ∈ ss, s ≠ 0) : 2 * (ss.length : Int) ≤ l1 (prod ss) := by
  have a := many ss h hs
  have b := same_len ss h
  have c := ml_len (prod ss) 0
  omega
theorem sums_tell (ss : List Nat) (hs : ∀ s ∈ ss, s ≠ 0) {k : Nat} (hk : k ≤ ss.length) : (psum k (ml 1 0 (prod ss)) = psum k (ml (-1) 0 (prod ss))) ↔ k < ss.length := by
  have e := ml_lin k (prod ss)
  constructor
  · intro q
    rcases Nat.lt_or_eq_of_le hk with c | c
    · exact c
    · have z := prod_at ss hs
      rw [← c] at z
      exact absurd (by rw [← e]; omega) z
  · intro c
    rw [prod_low ss c] at e
    omega
/-! ### sizes -/
theorem l1_set : ∀ (L : List Int) (p : Nat) (y : Int), p < L.length → l1 (L.set p y) = l1 L - (if L.getD p 0 < 0 then -(L.getD p 0) else L.getD p 0) + (if y < 0 then -y else y)
  | [], p, y, h => absurd h (by simp)
  | a :: r, 0, y, h => by
    show ((y :: r).map fun a => if a < 0 then -a else a).sum = ((a :: r).map fun a => if a < 0 then -a else a).sum - (if a < 0 then -a else a) + (if y < 0 then -y else y)
    rw [List.map_cons, List.map_cons, List.sum_cons, List.sum_cons]
    omega
  | a :: r, p + 1, y, h => by
    have ih := l1_set r p y (by simp at h; omega)
    show ((a :: r.set p y).map fun a => if a < 0 then -a else a).sum = ((a :: r).map fun a => if a < 0 then -a else a).sum - (if r.getD p 0 < 0 then -(r.getD p 0) else r.getD p 0) + (if y < 0 then -y else y)
    rw [List.map_cons, List.map_cons, List.sum_cons, List.sum_cons]
    unfold l1 at ih
    omega
theorem l1_subAt : ∀ (ts L : List Int) (p : Nat), p + ts.length ≤ L.length → l1 (subAt L p ts) ≤ l1 L + l1 ts
  | [], L, p, h => by
    show l1 L ≤ l1 L + 0
    omega
  | t :: ts, L, p, h => by
    rw [List.length_cons] at h
    have ih := l1_subAt ts (L.set p (L.getD p 0 - t)) (p + 1) (by rw [List.length_set]; omega)
    rw [l1_set _ _ _ (by omega)] at ih
    have e : l1 (t :: ts) = (if t < 0 then -t else t) + l1 ts := by
      unfold l1
      rw [List.map_cons, List.sum_cons]
    show l1 (subAt (L.set p (L.getD p 0 - t)) (p + 1) ts) ≤ _
    rw [e]
    generalize L.getD p 0 = x at *
    split at ih <;> split at ih <;> split <;> omega
theorem l1_zeros (s : Nat) : ∀ l : List Int, l1 (l ++ List.replicate s 0) = l1 l
  | [] => by
    induction s with
    | zero => rfl
    | succ s ih =>
      have e : l1 ([] ++ List.replicate (s + 1) 0) = 0 + l1 ([] ++ List.replicate s 0) := by
        unfold l1
        rw [List.nil_append, List.nil_append, List.replicate_succ, List.map_cons, List.sum_cons]
        rfl
      rw [e, ih]
      rfl
  | a :: r => by
    have ih := l1_zeros s r
    unfold l1 at ih ⊢
    rw [List.cons_append, List.map_cons, List.map_cons, List.sum_cons, List.sum_cons, ih]
theorem l1_prod : ∀ (ss : List Nat) (P : List Int), l1 (ss.foldl (fun P s => shm s P) P) ≤ 2 ^ ss.length * l1 P
  | [], P => by
    show l1 P ≤ 2 ^ 0 * l1 P
    omega
  | s :: ss, P => by
    have ih := l1_prod ss (shm s P)
    have e : l1 (shm s P) ≤ 2 * l1 P := by
      unfold shm
      have := l1_subAt P (P ++ List.replicate s 0) s (by rw [List.length_append, List.length_replicate]; omega)
      rw [l1_zeros] at this
      omega
    show l1 (ss.foldl (fun P s => shm s P) (shm s P)) ≤ _
    have e2 : (2 : Int) ^ (ss.length) * l1 (shm s P) ≤ 2 ^ ss.length * (2 * l1 P) := Int.mul_le_mul_of_nonneg_left e (Int.pow_nonneg (by decide))
    rw [List.length_cons, Int.pow_succ, Int.mul_assoc]
    omega
theorem len_prod : ∀ (ss : List Nat) (P : List Int), (ss.foldl (fun P s => shm s P) P).length = P.length + ss.sum
  | [], P => rfl
  | s :: ss, P => by
    show (ss.foldl (fun P s => shm s P) (shm s P)).length = _
    rw [len_prod ss, shm_len, List.sum_cons]
    omega
end PU

/-! the walk. -/
namespace FL
open PySem PySem.Spec PyProof.Rows L2
def topS (i : Nat) : Stmt := PySem.Challenge.pw_powersalike_k73_whole_pure_products.main.body.getD i (.Pass ⟨0, 0, 0, 0⟩)
abbrev s__law_hand : Stmt := topS 19
abbrev N__law_hand : List Str := ["script", "cells", "cell"]
theorem sc__law_hand : FnScope N__law_hand ["script"] (defScope s__law_hand) := ⟨rfl, rfl, rfl, by decide +kernel, rfl, by decide +kernel, by decide +kernel⟩
abbrev s_is_integer : Stmt := topS 6
abbrev N_is_integer : List Str := ["thing"]
theorem sc_is_integer : FnScope N_is_integer ["thing"] (defScope s_is_integer) := ⟨rfl, rfl, rfl, by decide +kernel, rfl, by decide +kernel, by decide +kernel⟩
abbrev s_is_within : Stmt := topS 7
abbrev N_is_within : List Str := ["thing", "low", "high"]
theorem sc_is_within : FnScope N_is_within ["thing", "low", "high"] (defScope s_is_within) := ⟨rfl, rfl, rfl, by decide +kernel, rfl, by decide +kernel, by decide +kernel⟩
abbrev s_are_steps : Stmt := topS 11
abbrev N_are_steps : List Str := ["thing", "one"]
theorem sc_are_steps : FnScope N_are_steps ["thing"] (defScope s_are_steps) := ⟨rfl, rfl, rfl, by decide +kernel, rfl, by decide +kernel, by decide +kernel⟩
abbrev s_check_steps : Stmt := topS 12
abbrev N_check_steps : List Str := ["thing"]
theorem sc_check_steps : FnScope N_check_steps ["thing"] (defScope s_check_steps) := ⟨rfl, rfl, rfl, by decide +kernel, rfl, by decide +kernel, by decide +kernel⟩
abbrev s_raw_pure : Stmt := topS 13
abbrev N_raw_pure : List Str := ["steps", "found", "step", "longer", "at", "term"]
theorem sc_raw_pure : FnScope N_raw_pure ["steps"] (defScope s_raw_pure) := ⟨rfl, rfl, rfl, by decide +kernel, rfl, by decide +kernel, by decide +kernel⟩
abbrev s_pure_heaps : Stmt := topS 17
abbrev N_pure_heaps : List Str := ["steps", "rows", "place", "term", "row"]
theorem sc_pure_heaps : FnScope N_pure_heaps ["steps"] (defScope s_pure_heaps) := ⟨rfl, rfl, rfl, by decide +kernel, rfl, by decide +kernel, by decide +kernel⟩
abbrev s_pure : Stmt := topS 14
abbrev N_pure : List Str := ["steps"]
theorem sc_pure : FnScope N_pure ["steps"] (defScope s_pure) := ⟨rfl, rfl, rfl, by decide +kernel, rfl, by decide +kernel, by decide +kernel⟩
abbrev s_size_of : Stmt := topS 15
abbrev N_size_of : List Str := ["steps", "term"]
theorem sc_size_of : FnScope N_size_of ["steps"] (defScope s_size_of) := ⟨rfl, rfl, rfl, by decide +kernel, rfl, by decide +kernel, by decide +kernel⟩
abbrev s_pure_size : Stmt := topS 16
abbrev N_pure_size : List Str := ["steps"]
theorem sc_pure_size : FnScope N_pure_size ["steps"] (defScope s_pure_size) := ⟨rfl, rfl, rfl, by decide +kernel, rfl, by decide +kernel, by decide +kernel⟩
abbrev s__law_is_refused : Stmt := topS 26
abbrev N__law_is_refused : List Str := ["steps", "error"]
theorem sc__law_is_refused : FnScope N__law_is_refused ["steps"] (defScope s__law_is_refused) := ⟨rfl, rfl, rfl, by decide +kernel, rfl, by decide +kernel, by decide +kernel⟩
abbrev s__law_draw : Stmt := topS 20
abbrev N__law_draw : List Str := ["hand", "many", "cell", "digit", "number"]
theorem sc__law_draw : FnScope N__law_draw ["hand", "many"] (defScope s__law_draw) := ⟨rfl, rfl, rfl, by decide +kernel, rfl, by decide +kernel, by decide +kernel⟩
abbrev s__law_some : Stmt := topS 21
abbrev N__law_some : List Str := ["hand", "things"]
theorem sc__law_some : FnScope N__law_some ["hand", "things"] (defScope s__law_some) := ⟨rfl, rfl, rfl, by decide +kernel, rfl, by decide +kernel, by decide +kernel⟩
abbrev s__law_pure : Stmt := topS 24
abbrev N__law_pure : List Str := ["steps", "found", "step", "longer", "at", "one"]
theorem sc__law_pure : FnScope N__law_pure ["steps"] (defScope s__law_pure) := ⟨rfl, rfl, rfl, by decide +kernel, rfl, by decide +kernel, by decide +kernel⟩
abbrev s__law_places : Stmt := topS 25
abbrev N__law_places : List Str := ["row", "sign", "found", "at", "one"]
theorem sc__law_places : FnScope N__law_places ["row", "sign"] (defScope s__law_places) := ⟨rfl, rfl, rfl, by decide +kernel, rfl, by decide +kernel, by decide +kernel⟩
abbrev s__law_power : Stmt := topS 22
abbrev N__law_power : List Str := ["number", "k", "found", "turn"]
theorem sc__law_power : FnScope N__law_power ["number", "k"] (defScope s__law_power) := ⟨rfl, rfl, rfl, by decide +kernel, rfl, by decide +kernel, by decide +kernel⟩
abbrev s__law_sum : Stmt := topS 23
abbrev N__law_sum : List Str := ["heap", "k", "one"]
theorem sc__law_sum : FnScope N__law_sum ["heap", "k"] (defScope s__law_sum) := ⟨rfl, rfl, rfl, by decide +kernel, rfl, by decide +kernel, by decide +kernel⟩
abbrev s__law_is_right : Stmt := topS 27
abbrev N__law_is_right : List Str := ["steps", "row", "size", "one", "heaps", "heap", "k"]
theorem sc__law_is_right : FnScope N__law_is_right ["steps"] (defScope s__law_is_right) := ⟨rfl, rfl, rfl, by decide +kernel, rfl, by decide +kernel, by decide +kernel⟩
abbrev s_law : Stmt := topS 28
abbrev N_law : List Str := ["script", "hand", "known", "due", "turn", "wide", "steps", "step"]
theorem sc_law : FnScope N_law ["script"] (defScope s_law) := ⟨rfl, rfl, rfl, by decide +kernel, rfl, by decide +kernel, by decide +kernel⟩
structure Cfg (K : PySem.W.Frag) (mg : Str → Option Value) : Prop where
  b_repr : mg "repr" = none
  b_range : mg "range" = none
  b_sorted : mg "sorted" = none
  b_tuple : mg "tuple" = none
  b_int : mg "int" = none
  b_abs : mg "abs" = none
  b_len : mg "len" = none
  b_enumerate : mg "enumerate" = none
  b_max : mg "max" = none
  b_isinstance : mg "isinstance" = none
  b_list : mg "list" = none
  b_all : mg "all" = none
  b_bool : mg "bool" = none
  b_sum : mg "sum" = none
  b_ValueError : mg "ValueError" = none
  v_MOST_HEAP : ∃ t, mg "MOST_HEAP" = some (.int (40) t)
  v_MOST_STEPS : ∃ t, mg "MOST_STEPS" = some (.int (12) t)
  v_MOST_STEP : ∃ t, mg "MOST_STEP" = some (.int (60) t)
  x_NoNumbers : ∃ Cl, ExcK K mg "NoNumbers" Cl
  x_NoSteps : ∃ Cl, ExcK K mg "NoSteps" Cl
  e_NoNumbers : ∃ D L, mg "NoNumbers" = some (.ref D) ∧ mg "LikeError" = some (.ref L) ∧ ErrK K D L
section
variable {P : Program} {w : World} {K : PySem.W.Frag} {mg : Str → Option Value} {base : Heap}
def b__law_hand : XS := (sSeq (sAsg (xNew (xLc (xSrcN (xSlL (xVar 0) xNoPart (xPart (xC (.int (63)))))) [2] (gSet 2) tYesF (xOp dMod (xB gInt (xCons (xB gAbs (xCons (xB gInt (xCons (xVar 2) xNil)) xNil)) xNil)) (xOp dPow (xC (.int (10))) (xC (.int (36))))))) (gSet 1))
  (sRet (xNew (xLst (xCons (xVar 1) (xCons (xC (.int (0))) (xCons (xC (.int (0))) (xCons (xOp dAdd (xC (.int (1907))) (xOp dMulI (xC (.int (5))) (xB gLen (xCons (xVar 1) xNil)))) (xCons (xC (.int (0))) xNil)))))))))
def g__law_hand : Fn := fnSem 1 2 b__law_hand
theorem k__law_hand {h : Heap} (r : Rw K "_law_hand" s__law_hand) (X : K.In h) (G : h.Ns mainGlobals mg) (c : Cfg K mg)  : Kn P w K mg base 1 "_law_hand" ["script"] g__law_hand := by
  obtain ⟨f, fd, F, m⟩ := r.fun_ X G
  exact Kn.by_ F m (F.binds fun _ _ _ _ _ _ us hl => match us, hl with | [_], _ => rfl) sc__law_hand rfl rfl fun f cdv A outer s H E hr hgd => ⟨_, (fs_cons (gs_setLc (i := 1) (own := [("cell", 2)]) rfl sc__law_hand.nd (fi_new (fslL (fv 0) fo_none (fo_some fint))) (blkOk_by (N := N__law_hand) (sc := defScope s__law_hand) (by decide +kernel)) (fun s_ H_ C_ cl_ fp_ => (fg_name 2 sc__law_hand.nd)) (fun s_ H_ C_ cl_ fp_ => ft_nil) (fun s_ H_ C_ cl_ fp_ => (fmod (fty call_int1 so_int c.b_int (fa_cons (fb call_abs so_abs c.b_abs (fa_cons (fty call_int1 so_int c.b_int (fa_cons (fv 2) fa_nil)) fa_nil)) fa_nil)) (fpow fint fint))))
    (fs_one (fs_ret (FLs.val (flst (fa_cons (fv 1) (fa_cons fint (fa_cons fint (fa_cons (fadd fint (fmul fint (fb cr_len so_len c.b_len (fa_cons (fv 1) fa_nil)))) (fa_cons fint fa_nil))))))))))⟩
def b_is_integer : XS := (sRet (xAnd (xB gIsi (xCons (xVar 0) (xCons (xC (.ty "int")) xNil))) (xNot (xB gIsi (xCons (xVar 0) (xCons (xC (.ty "bool")) xNil))))))
def g_is_integer : Fn := fnSem 1 0 b_is_integer
theorem k_is_integer {h : Heap} (r : Rw K "is_integer" s_is_integer) (X : K.In h) (G : h.Ns mainGlobals mg) (c : Cfg K mg)  : Kn P w K mg base 1 "is_integer" ["thing"] g_is_integer := by
  obtain ⟨f, fd, F, m⟩ := r.fun_ X G
  exact Kn.by_ F m (F.binds fun _ _ _ _ _ _ us hl => match us, hl with | [_], _ => rfl) sc_is_integer rfl rfl fun f cdv A outer s H E hr hgd => ⟨_, (fs_one (fs_ret (fand (fb call_isi so_isi c.b_isinstance (fa_cons (fv 0) (fa_cons (fcls c.b_int) fa_nil))) (fone (fnot (fb call_isi so_isi c.b_isinstance (fa_cons (fv 0) (fa_cons (fcls c.b_bool) fa_nil))))))))⟩
def b_is_within : XS := (sRet (xAnd (xCall g_is_integer (xCons (xVar 0) xNil)) (xChain dLe dLe (xVar 1) (xVar 0) (xVar 2))))
def g_is_within : Fn := fnSem 3 0 b_is_within
theorem k_is_within {h : Heap} (r : Rw K "is_within" s_is_within) (X : K.In h) (G : h.Ns mainGlobals mg) (c : Cfg K mg) (k_is_integer : Kn P w K mg base 1 "is_integer" ["thing"] g_is_integer) : Kn P w K mg base 2 "is_within" ["thing", "low", "high"] g_is_within := by
  obtain ⟨f, fd, F, m⟩ := r.fun_ X G
  exact Kn.by_ F m (F.binds fun _ _ _ _ _ _ us hl => match us, hl with | [_, _, _], _ => rfl) sc_is_within rfl rfl fun f cdv A outer s H E hr hgd => ⟨_, (fs_one (fs_ret (fand (kcall k_is_integer hr hgd tkOf (fa_cons (fv 0) fa_nil)) (fone (fchain op_le op_le so_le so_le (fv 1) (fv 0) (fv 2))))))⟩
def b_are_steps : XS := (sSeq (sIf (xOrB (xNotB (xTest (xB gIsi (xCons (xVar 0) (xCons (xC (.ty "tuple")) xNil))))) (xNotB (xTest (xChain dLe dLe (xC (.int (1))) (xB gLen (xCons (xVar 0) xNil)) (xC (.int (12))))))) (sRet (xC (.bl false))) sNext)
  (sRet (xAnd (xOnNew gAll (xLc (xSrc (xVar 0)) [1] (gSet 1) tYesF (xCall g_is_within (xCons (xVar 1) (xCons (xC (.int (1))) (xCons (xC (.int (60))) xNil)))))) (xOp dEq (xNew (xLstOf (xVar 0))) (xNew (xSortV (xVar 0)))))))
def g_are_steps : Fn := fnSem 1 1 b_are_steps
theorem k_are_steps {h : Heap} (r : Rw K "are_steps" s_are_steps) (X : K.In h) (G : h.Ns mainGlobals mg) (c : Cfg K mg) (k_is_within : Kn P w K mg base 2 "is_within" ["thing", "low", "high"] g_is_within) : Kn P w K mg base 3 "are_steps" ["thing"] g_are_steps := by
  obtain ⟨f, fd, F, m⟩ := r.fun_ X G
  exact Kn.by_ F m (F.binds fun _ _ _ _ _ _ us hl => match us, hl with | [_], _ => rfl) sc_are_steps rfl rfl fun f cdv A outer s H E hr hgd => ⟨_, (fs_cons (fs_if (fwt (fw_or (fnotT (fval (fb call_isi so_isi c.b_isinstance (fa_cons (fv 0) (fa_cons (fcls c.b_tuple) fa_nil))))) (fw_or1 (fnotT (fchainT op_le op_le so_le so_le fint (fb cr_len so_len c.b_len (fa_cons (fv 0) fa_nil)) (kgi c.v_MOST_STEPS)))))) (fs_one (fs_ret fbl)) fs_nil)
    (fs_one (fs_ret (fand (fbN (cr_all rfl) so_all c.b_all (glc (own := [("one", 1)]) rfl sc_are_steps.nd (fi_any (fv 0)) (blkOk_by (N := N_are_steps) (sc := defScope s_are_steps) (by decide +kernel)) (fun s_ H_ C_ cl_ fp_ => (fg_name 1 sc_are_steps.nd)) (fun s_ H_ C_ cl_ fp_ => ft_nil) (fun s_ H_ C_ cl_ fp_ => (kcall k_is_within hr hgd takesN (fa_cons (fv 1) (fa_cons fint (fa_cons (kgi c.v_MOST_STEP) fa_nil))))))) (fone (fcmp (op_eqA hr) so_eq (by rfl) (FLs.val (flist c.b_list (fv 0))) (FLs.val (fsortV c.b_sorted (fv 0)))))))))⟩
def b_check_steps : XS := (sIf (xNotB (xTest (xCall g_are_steps (xCons (xVar 0) xNil)))) (sRaise "NoSteps") sNext)
def g_check_steps : Fn := fnSem 1 0 b_check_steps
theorem k_check_steps {h : Heap} (r : Rw K "check_steps" s_check_steps) (X : K.In h) (G : h.Ns mainGlobals mg) (c : Cfg K mg) (k_are_steps : Kn P w K mg base 3 "are_steps" ["thing"] g_are_steps) : Kn P w K mg base 4 "check_steps" ["thing"] g_check_steps := by
  obtain ⟨f, fd, F, m⟩ := r.fun_ X G
  obtain ⟨Cl_NoSteps, x_NoSteps⟩ := c.x_NoSteps
  exact Kn.by_ F m (F.binds fun _ _ _ _ _ _ us hl => match us, hl with | [_], _ => rfl) sc_check_steps rfl rfl fun f cdv A outer s H E hr hgd => ⟨_, (fs_one (fs_if (fnotT (fval (kcall k_are_steps hr hgd tkOf (fa_cons (fv 0) fa_nil)))) (fs_one (fs_raise rfl tkOf x_NoSteps)) fs_nil))⟩
def b_raw_pure : XS := (sSeq (sAsg (xNew (xLst (xCons (xC (.int (1))) xNil))) (gSet 1))
  (sSeq (sFor (xSrc (xVar 0)) (gSet 2) (sSeq (sAsg (xNew (xCatVN (xVar 1) (xRepN (xLst (xCons (xC (.int (0))) xNil)) (xVar 2)))) (gSet 3))
  (sSeq (sFor (xEnum (xCons (xVar 1) xNil)) (gTuple 2 (gsCons (gSet 4) (gsCons (gSet 5) gsNil))) (sAugIx (dI0 fun i j => .int (i - j)) (xVar 3) (xOp dAdd (xVar 4) (xVar 2)) (xVar 5)))
  (sAsg (xVar 3) (gSet 1)))))
  (sRet (xVar 1))))
def g_raw_pure : Fn := fnSem 1 5 b_raw_pure
theorem k_raw_pure {h : Heap} (r : Rw K "raw_pure" s_raw_pure) (X : K.In h) (G : h.Ns mainGlobals mg) (c : Cfg K mg)  : Kn P w K mg base 1 "raw_pure" ["steps"] g_raw_pure := by
  obtain ⟨f, fd, F, m⟩ := r.fun_ X G
  exact Kn.by_ F m (F.binds fun _ _ _ _ _ _ us hl => match us, hl with | [_], _ => rfl) sc_raw_pure rfl rfl fun f cdv A outer s H E hr hgd => ⟨_, (fs_cons (fs_set (i := 1) sc_raw_pure.nd (FLs.val (flst (fa_cons fint fa_nil))))
    (fs_cons (fs_for (vs := [2]) psOf rfl (fi_any (fv 0)) (fg_name 2 sc_raw_pure.nd) (fs_cons (fs_set (i := 3) sc_raw_pure.nd (FLs.val (fcatVN (fv 1) (frepN (flst (fa_cons fint fa_nil)) (fv 2)))))
    (fs_cons (fs_for (vs := [4, 5]) psOf rfl (fi_enum c.b_enumerate (fa_cons (fv 1) fa_nil)) (fg_tup rfl (fg_cons (fg_name 4 sc_raw_pure.nd) (fg_cons (fg_name 5 sc_raw_pure.nd) fg_nil))) (fs_one (fs_augIx (fv 3) (fadd (fv 4) (fv 2)) (fv 5) ip_sub (so_ipI (g := fun i j => i - j)))))
    (fs_one (fs_set (i := 1) sc_raw_pure.nd (fv 3))))))
    (fs_one (fs_ret (fv 1)))))⟩
def b_pure_heaps : XS := (sSeq (sDrop (xCall g_check_steps (xCons (xVar 0) xNil)))
  (sSeq (sAsg (xNew (xLst (xCons (xNew (xLst xNil)) (xCons (xNew (xLst xNil)) xNil)))) (gSet 1))
  (sSeq (sFor (xEnum (xCons (xCall g_raw_pure (xCons (xVar 0) xNil)) xNil)) (gTuple 2 (gsCons (gSet 2) (gsCons (gSet 3) gsNil))) (sDrop (xMethN isLst mExtN (xOp gIx (xVar 1) (xB gInt (xCons (xOp dLt (xVar 3) (xC (.int (0)))) xNil))) (xRepN (xLst (xCons (xVar 2) xNil)) (xB gAbs (xCons (xVar 3) xNil))))))
  (sSeq (sIf (xTest (xOp dGt (xOnNew gMax (xLc (xSrc (xVar 1)) [4] (gSet 4) tYesF (xB gLen (xCons (xVar 4) xNil)))) (xC (.int (40))))) (sRaise "NoNumbers") sNext)
  (sRet (xOnNew (fun ds h => .ok (.tup ds) h) (xLc (xSrc (xVar 1)) [4] (gSet 4) tYesF (xB gTup (xCons (xVar 4) xNil)))))))))
def g_pure_heaps : Fn := fnSem 1 4 b_pure_heaps
theorem k_pure_heaps {h : Heap} (r : Rw K "pure_heaps" s_pure_heaps) (X : K.In h) (G : h.Ns mainGlobals mg) (c : Cfg K mg) (k_check_steps : Kn P w K mg base 4 "check_steps" ["thing"] g_check_steps) (k_raw_pure : Kn P w K mg base 1 "raw_pure" ["steps"] g_raw_pure) : Kn P w K mg base 5 "pure_heaps" ["steps"] g_pure_heaps := by
  obtain ⟨f, fd, F, m⟩ := r.fun_ X G
  obtain ⟨Cl_NoNumbers, x_NoNumbers⟩ := c.x_NoNumbers
  exact Kn.by_ F m (F.binds fun _ _ _ _ _ _ us hl => match us, hl with | [_], _ => rfl) sc_pure_heaps rfl rfl fun f cdv A outer s H E hr hgd => ⟨_, (fs_cons (fs_expr (kcall k_check_steps hr hgd tkOf (fa_cons (fv 0) fa_nil)))
    (fs_cons (fs_set (i := 1) sc_pure_heaps.nd (FLs.val (flst (fa_cons (FLs.val (flst fa_nil)) (fa_cons (FLs.val (flst fa_nil)) fa_nil)))))
    (fs_cons (fs_for (vs := [2, 3]) psOf rfl (fi_enum c.b_enumerate (fa_cons (kcall k_raw_pure hr hgd tkOf (fa_cons (fv 0) fa_nil)) fa_nil)) (fg_tup rfl (fg_cons (fg_name 2 sc_pure_heaps.nd) (fg_cons (fg_name 3 sc_pure_heaps.nd) fg_nil))) (fs_one (fs_expr (fextendN (fix (fv 1) (fty call_int1 so_int c.b_int (fa_cons (fcmp op_lt so_lt (by rfl) (fv 3) fint) fa_nil))) (frepN (flst (fa_cons (fv 2) fa_nil)) (fb call_abs so_abs c.b_abs (fa_cons (fv 3) fa_nil)))))))
    (fs_cons (fs_if (fcmpT op_gt so_gt (by rfl) (fbN (cr_max rfl) so_maxF c.b_max (glc (own := [("row", 4)]) rfl sc_pure_heaps.nd (fi_any (fv 1)) (blkOk_by (N := N_pure_heaps) (sc := defScope s_pure_heaps) (by decide +kernel)) (fun s_ H_ C_ cl_ fp_ => (fg_name 4 sc_pure_heaps.nd)) (fun s_ H_ C_ cl_ fp_ => ft_nil) (fun s_ H_ C_ cl_ fp_ => (fb cr_len so_len c.b_len (fa_cons (fv 4) fa_nil))))) (kgi c.v_MOST_HEAP)) (fs_one (fs_raise rfl tkOf x_NoNumbers)) fs_nil)
    (fs_one (fs_ret (ftyN call_tuple_of so_tupF c.b_tuple (glc (own := [("row", 4)]) rfl sc_pure_heaps.nd (fi_any (fv 1)) (blkOk_by (N := N_pure_heaps) (sc := defScope s_pure_heaps) (by decide +kernel)) (fun s_ H_ C_ cl_ fp_ => (fg_name 4 sc_pure_heaps.nd)) (fun s_ H_ C_ cl_ fp_ => ft_nil) (fun s_ H_ C_ cl_ fp_ => (fty call_tuple_of so_tupC c.b_tuple (fa_cons (fv 4) fa_nil)))))))))))⟩
def b_pure : XS := (sSeq (sDrop (xCall g_check_steps (xCons (xVar 0) xNil)))
  (sRet (xB gTup (xCons (xCall g_raw_pure (xCons (xVar 0) xNil)) xNil))))
def g_pure : Fn := fnSem 1 0 b_pure
theorem k_pure {h : Heap} (r : Rw K "pure" s_pure) (X : K.In h) (G : h.Ns mainGlobals mg) (c : Cfg K mg) (k_check_steps : Kn P w K mg base 4 "check_steps" ["thing"] g_check_steps) (k_raw_pure : Kn P w K mg base 1 "raw_pure" ["steps"] g_raw_pure) : Kn P w K mg base 5 "pure" ["steps"] g_pure := by
  obtain ⟨f, fd, F, m⟩ := r.fun_ X G
  exact Kn.by_ F m (F.binds fun _ _ _ _ _ _ us hl => match us, hl with | [_], _ => rfl) sc_pure rfl rfl fun f cdv A outer s H E hr hgd => ⟨_, (fs_cons (fs_expr (kcall k_check_steps hr hgd tkOf (fa_cons (fv 0) fa_nil)))
    (fs_one (fs_ret (fty call_tuple_of so_tupC c.b_tuple (fa_cons (kcall k_raw_pure hr hgd tkOf (fa_cons (fv 0) fa_nil)) fa_nil)))))⟩
def b_size_of : XS := (sRet (xOnNew gSum (xLc (xSrc (xCall g_raw_pure (xCons (xVar 0) xNil))) [1] (gSet 1) tYesF (xB gAbs (xCons (xVar 1) xNil)))))
def g_size_of : Fn := fnSem 1 1 b_size_of
theorem k_size_of {h : Heap} (r : Rw K "size_of" s_size_of) (X : K.In h) (G : h.Ns mainGlobals mg) (c : Cfg K mg) (k_raw_pure : Kn P w K mg base 1 "raw_pure" ["steps"] g_raw_pure) : Kn P w K mg base 2 "size_of" ["steps"] g_size_of := by
  obtain ⟨f, fd, F, m⟩ := r.fun_ X G
  exact Kn.by_ F m (F.binds fun _ _ _ _ _ _ us hl => match us, hl with | [_], _ => rfl) sc_size_of rfl rfl fun f cdv A outer s H E hr hgd => ⟨_, (fs_one (fs_ret (fbN (cr_sum rfl) so_sum c.b_sum (glc (own := [("term", 1)]) rfl sc_size_of.nd (fi_any (kcall k_raw_pure hr hgd tkOf (fa_cons (fv 0) fa_nil))) (blkOk_by (N := N_size_of) (sc := defScope s_size_of) (by decide +kernel)) (fun s_ H_ C_ cl_ fp_ => (fg_name 1 sc_size_of.nd)) (fun s_ H_ C_ cl_ fp_ => ft_nil) (fun s_ H_ C_ cl_ fp_ => (fb call_abs so_abs c.b_abs (fa_cons (fv 1) fa_nil)))))))⟩
def b_pure_size : XS := (sSeq (sDrop (xCall g_check_steps (xCons (xVar 0) xNil)))
  (sRet (xCall g_size_of (xCons (xVar 0) xNil))))
def g_pure_size : Fn := fnSem 1 0 b_pure_size
theorem k_pure_size {h : Heap} (r : Rw K "pure_size" s_pure_size) (X : K.In h) (G : h.Ns mainGlobals mg) (c : Cfg K mg) (k_check_steps : Kn P w K mg base 4 "check_steps" ["thing"] g_check_steps) (k_size_of : Kn P w K mg base 2 "size_of" ["steps"] g_size_of) : Kn P w K mg base 5 "pure_size" ["steps"] g_pure_size := by
  obtain ⟨f, fd, F, m⟩ := r.fun_ X G
  exact Kn.by_ F m (F.binds fun _ _ _ _ _ _ us hl => match us, hl with | [_], _ => rfl) sc_pure_size rfl rfl fun f cdv A outer s H E hr hgd => ⟨_, (fs_cons (fs_expr (kcall k_check_steps hr hgd tkOf (fa_cons (fv 0) fa_nil)))
    (fs_one (fs_ret (kcall k_size_of hr hgd tkOf (fa_cons (fv 0) fa_nil)))))⟩
def b__law_is_refused : XS := (sSeq (sTryIs 1 (sDrop (xCall g_pure_heaps (xCons (xVar 0) xNil))) "NoNumbers")
  (sRet (xC (.bl false))))
def g__law_is_refused : Fn := fnSem 1 1 b__law_is_refused
theorem k__law_is_refused {h : Heap} (r : Rw K "_law_is_refused" s__law_is_refused) (X : K.In h) (G : h.Ns mainGlobals mg) (c : Cfg K mg) (k_pure_heaps : Kn P w K mg base 5 "pure_heaps" ["steps"] g_pure_heaps) : Kn P w K mg base 6 "_law_is_refused" ["steps"] g__law_is_refused := by
  obtain ⟨f, fd, F, m⟩ := r.fun_ X G
  obtain ⟨eD_NoNumbers, eL_NoNumbers, ma_NoNumbers, mb_NoNumbers, E_NoNumbers⟩ := c.e_NoNumbers
  exact Kn.by_ F m (F.binds fun _ _ _ _ _ _ us hl => match us, hl with | [_], _ => rfl) sc__law_is_refused rfl rfl fun f cdv A outer s H E hr hgd => ⟨_, (fs_cons (fs_tryIs (i := 1) sc__law_is_refused.nd tkOf ma_NoNumbers mb_NoNumbers E_NoNumbers c.b_isinstance c.b_ValueError (fun W_ pn_ xe_ tk_ => (fs_one (fs_expr (kcall k_pure_heaps hr hgd tk_ (fa_cons (fv 0) fa_nil))))))
    (fs_one (fs_ret fbl)))⟩
def b__law_draw : XS := (sSeq (sIf (xAndB (xTest (xOp dEq (xOp gIx (xVar 0) (xC (.int (2)))) (xC (.int (0))))) (xTest (xOp dLt (xOp gIx (xVar 0) (xC (.int (1)))) (xB gLen (xCons (xOp gIx (xVar 0) (xC (.int (0)))) xNil))))) (sSeq (sAsg (xOp gIx (xOp gIx (xVar 0) (xC (.int (0)))) (xOp gIx (xVar 0) (xC (.int (1))))) (gSet 2))
  (sSeq (sSetIx (xOp dAdd (xOp gIx (xVar 0) (xC (.int (1)))) (xC (.int (1)))) (xVar 0) (xC (.int (1))))
  (sSeq (sSetIx (xOp dMod (xB gInt (xCons (xOp dAdd (xOp dAdd (xOp dMulI (xOp gIx (xVar 0) (xC (.int (3)))) (xC (.int (69621)))) (xOp dMulI (xVar 2) (xC (.int (40692))))) (xC (.int (43)))) xNil)) (xC (.int (2147483629)))) (xVar 0) (xC (.int (3))))
  (sIf (xTest (xOp dGe (xVar 2) (xOp dPow (xC (.int (10))) (xC (.int (18)))))) (sSetIx (xVar 2) (xVar 0) (xC (.int (2)))) sNext)))) sNext)
  (sSeq (sIf (xTest (xOp dGt (xOp gIx (xVar 0) (xC (.int (2)))) (xC (.int (0))))) (sSeq (sAsg (xOp dMod (xB gInt (xCons (xOp gIx (xVar 0) (xC (.int (2)))) xNil)) (xVar 1)) (gSet 3))
  (sSeq (sSetIx (xOp dDiv (xOp gIx (xVar 0) (xC (.int (2)))) (xVar 1)) (xVar 0) (xC (.int (2))))
  (sRet (xVar 3)))) sNext)
  (sSeq (sSetIx (xOp dAdd (xOp gIx (xVar 0) (xC (.int (4)))) (xC (.int (1)))) (xVar 0) (xC (.int (4))))
  (sSeq (sAsg (xOp dMod (xB gInt (xCons (xOp dMulI (xB gInt (xCons (xOp dAdd (xOp gIx (xVar 0) (xC (.int (3)))) (xOp dMulI (xC (.int (7919))) (xOp gIx (xVar 0) (xC (.int (4)))))) xNil)) (xC (.int (48271)))) xNil)) (xC (.int (2147483647)))) (gSet 4))
  (sSeq (sAsg (xOp dMod (xB gInt (xCons (xOp dMulI (xVar 4) (xOp dAdd (xOp dDiv (xVar 4) (xC (.int (1009)))) (xC (.int (69621))))) xNil)) (xC (.int (2147483647)))) (gSet 4))
  (sSeq (sAsg (xOp dMod (xB gInt (xCons (xOp dMulI (xVar 4) (xOp dAdd (xOp dDiv (xVar 4) (xC (.int (2003)))) (xC (.int (40014))))) xNil)) (xC (.int (2147483563)))) (gSet 4))
  (sRet (xOp dMod (xB gInt (xCons (xOp dDiv (xVar 4) (xC (.int (16)))) xNil)) (xVar 1)))))))))
def g__law_draw : Fn := fnSem 2 3 b__law_draw
theorem k__law_draw {h : Heap} (r : Rw K "_law_draw" s__law_draw) (X : K.In h) (G : h.Ns mainGlobals mg) (c : Cfg K mg)  : Kn P w K mg base 1 "_law_draw" ["hand", "many"] g__law_draw := by
  obtain ⟨f, fd, F, m⟩ := r.fun_ X G
  exact Kn.by_ F m (F.binds fun _ _ _ _ _ _ us hl => match us, hl with | [_, _], _ => rfl) sc__law_draw rfl rfl fun f cdv A outer s H E hr hgd => ⟨_, (fs_cons (fs_if (fwt (fw_and (fcmpT (op_eqA hr) so_eq (by rfl) (fix (fv 0) fint) fint) (fw_and1 (fcmpT op_lt so_lt (by rfl) (fix (fv 0) fint) (fb cr_len so_len c.b_len (fa_cons (fix (fv 0) fint) fa_nil)))))) (fs_cons (fs_set (i := 2) sc__law_draw.nd (fix (fix (fv 0) fint) (fix (fv 0) fint)))
    (fs_cons (fs_setIx (fadd (fix (fv 0) fint) fint) (fv 0) fint)
    (fs_cons (fs_setIx (fmod (fty call_int1 so_int c.b_int (fa_cons (fadd (fadd (fmul (fix (fv 0) fint) fint) (fmul (fv 2) fint)) fint) fa_nil)) fint) (fv 0) fint)
    (fs_one (fs_if (fcmpT op_ge so_ge (by rfl) (fv 2) (fpow fint fint)) (fs_one (fs_setIx (fv 2) (fv 0) fint)) fs_nil))))) fs_nil)
    (fs_cons (fs_if (fcmpT op_gt so_gt (by rfl) (fix (fv 0) fint) fint) (fs_cons (fs_set (i := 3) sc__law_draw.nd (fmod (fty call_int1 so_int c.b_int (fa_cons (fix (fv 0) fint) fa_nil)) (fv 1)))
    (fs_cons (fs_setIx (fdiv (fix (fv 0) fint) (fv 1)) (fv 0) fint)
    (fs_one (fs_ret (fv 3))))) fs_nil)
    (fs_cons (fs_setIx (fadd (fix (fv 0) fint) fint) (fv 0) fint)
    (fs_cons (fs_set (i := 4) sc__law_draw.nd (fmod (fty call_int1 so_int c.b_int (fa_cons (fmul (fty call_int1 so_int c.b_int (fa_cons (fadd (fix (fv 0) fint) (fmul fint (fix (fv 0) fint))) fa_nil)) fint) fa_nil)) fint))
    (fs_cons (fs_set (i := 4) sc__law_draw.nd (fmod (fty call_int1 so_int c.b_int (fa_cons (fmul (fv 4) (fadd (fdiv (fv 4) fint) fint)) fa_nil)) fint))
    (fs_cons (fs_set (i := 4) sc__law_draw.nd (fmod (fty call_int1 so_int c.b_int (fa_cons (fmul (fv 4) (fadd (fdiv (fv 4) fint) fint)) fa_nil)) fint))
    (fs_one (fs_ret (fmod (fty call_int1 so_int c.b_int (fa_cons (fdiv (fv 4) fint) fa_nil)) (fv 1))))))))))⟩
def b__law_some : XS := (sRet (xOp gIx (xVar 1) (xCall g__law_draw (xCons (xVar 0) (xCons (xB gLen (xCons (xVar 1) xNil)) xNil)))))
def g__law_some : Fn := fnSem 2 0 b__law_some
theorem k__law_some {h : Heap} (r : Rw K "_law_some" s__law_some) (X : K.In h) (G : h.Ns mainGlobals mg) (c : Cfg K mg) (k__law_draw : Kn P w K mg base 1 "_law_draw" ["hand", "many"] g__law_draw) : Kn P w K mg base 2 "_law_some" ["hand", "things"] g__law_some := by
  obtain ⟨f, fd, F, m⟩ := r.fun_ X G
  exact Kn.by_ F m (F.binds fun _ _ _ _ _ _ us hl => match us, hl with | [_, _], _ => rfl) sc__law_some rfl rfl fun f cdv A outer s H E hr hgd => ⟨_, (fs_one (fs_ret (fix (fv 1) (kcall k__law_draw hr hgd tkOf (fa_cons (fv 0) (fa_cons (fb cr_len so_len c.b_len (fa_cons (fv 1) fa_nil)) fa_nil))))))⟩
def b__law_pure : XS := (sSeq (sAsg (xNew (xLst (xCons (xC (.int (1))) xNil))) (gSet 1))
  (sSeq (sFor (xSrc (xVar 0)) (gSet 2) (sSeq (sAsg (xNew (xCatVN (xVar 1) (xRepN (xLst (xCons (xC (.int (0))) xNil)) (xVar 2)))) (gSet 3))
  (sSeq (sFor (xEnum (xCons (xVar 1) xNil)) (gTuple 2 (gsCons (gSet 4) (gsCons (gSet 5) gsNil))) (sSetIx (xOp dSub (xOp gIx (xVar 3) (xOp dAdd (xVar 4) (xVar 2))) (xVar 5)) (xVar 3) (xOp dAdd (xVar 4) (xVar 2))))
  (sAsg (xVar 3) (gSet 1)))))
  (sRet (xB gTup (xCons (xVar 1) xNil)))))
def g__law_pure : Fn := fnSem 1 5 b__law_pure
theorem k__law_pure {h : Heap} (r : Rw K "_law_pure" s__law_pure) (X : K.In h) (G : h.Ns mainGlobals mg) (c : Cfg K mg)  : Kn P w K mg base 1 "_law_pure" ["steps"] g__law_pure := by
  obtain ⟨f, fd, F, m⟩ := r.fun_ X G
  exact Kn.by_ F m (F.binds fun _ _ _ _ _ _ us hl => match us, hl with | [_], _ => rfl) sc__law_pure rfl rfl fun f cdv A outer s H E hr hgd => ⟨_, (fs_cons (fs_set (i := 1) sc__law_pure.nd (FLs.val (flst (fa_cons fint fa_nil))))
    (fs_cons (fs_for (vs := [2]) psOf rfl (fi_any (fv 0)) (fg_name 2 sc__law_pure.nd) (fs_cons (fs_set (i := 3) sc__law_pure.nd (FLs.val (fcatVN (fv 1) (frepN (flst (fa_cons fint fa_nil)) (fv 2)))))
    (fs_cons (fs_for (vs := [4, 5]) psOf rfl (fi_enum c.b_enumerate (fa_cons (fv 1) fa_nil)) (fg_tup rfl (fg_cons (fg_name 4 sc__law_pure.nd) (fg_cons (fg_name 5 sc__law_pure.nd) fg_nil))) (fs_one (fs_setIx (fsub (fix (fv 3) (fadd (fv 4) (fv 2))) (fv 5)) (fv 3) (fadd (fv 4) (fv 2)))))
    (fs_one (fs_set (i := 1) sc__law_pure.nd (fv 3))))))
    (fs_one (fs_ret (fty call_tuple_of so_tupC c.b_tuple (fa_cons (fv 1) fa_nil))))))⟩
def b__law_places : XS := (sSeq (sAsg (xNew (xLst xNil)) (gSet 2))
  (sSeq (sFor (xEnum (xCons (xVar 0) xNil)) (gTuple 2 (gsCons (gSet 3) (gsCons (gSet 4) gsNil))) (sAsg (xNew (xCatVN (xVar 2) (xRepN (xLst (xCons (xVar 3) xNil)) (xB gMax2 (xCons (xC (.int (0))) (xCons (xOp dMulI (xVar 4) (xVar 1)) xNil)))))) (gSet 2)))
  (sRet (xB gTup (xCons (xVar 2) xNil)))))
def g__law_places : Fn := fnSem 2 3 b__law_places
theorem k__law_places {h : Heap} (r : Rw K "_law_places" s__law_places) (X : K.In h) (G : h.Ns mainGlobals mg) (c : Cfg K mg)  : Kn P w K mg base 1 "_law_places" ["row", "sign"] g__law_places := by
  obtain ⟨f, fd, F, m⟩ := r.fun_ X G
  exact Kn.by_ F m (F.binds fun _ _ _ _ _ _ us hl => match us, hl with | [_, _], _ => rfl) sc__law_places rfl rfl fun f cdv A outer s H E hr hgd => ⟨_, (fs_cons (fs_set (i := 2) sc__law_places.nd (FLs.val (flst fa_nil)))
    (fs_cons (fs_for (vs := [3, 4]) psOf rfl (fi_enum c.b_enumerate (fa_cons (fv 0) fa_nil)) (fg_tup rfl (fg_cons (fg_name 3 sc__law_places.nd) (fg_cons (fg_name 4 sc__law_places.nd) fg_nil))) (fs_one (fs_set (i := 2) sc__law_places.nd (FLs.val (fcatVN (fv 2) (frepN (flst (fa_cons (fv 3) fa_nil)) (fb (call_max2 rfl) so_max2 c.b_max (fa_cons fint (fa_cons (fmul (fv 4) (fv 1)) fa_nil)))))))))
    (fs_one (fs_ret (fty call_tuple_of so_tupC c.b_tuple (fa_cons (fv 2) fa_nil))))))⟩
def b__law_power : XS := (sSeq (sAsg (xC (.int (1))) (gSet 2))
  (sSeq (sFor (xRng1 (xCons (xVar 1) xNil)) (gSet 3) (sAsg (xOp dMulI (xVar 2) (xVar 0)) (gSet 2)))
  (sRet (xVar 2))))
def g__law_power : Fn := fnSem 2 2 b__law_power
theorem k__law_power {h : Heap} (r : Rw K "_law_power" s__law_power) (X : K.In h) (G : h.Ns mainGlobals mg) (c : Cfg K mg)  : Kn P w K mg base 1 "_law_power" ["number", "k"] g__law_power := by
  obtain ⟨f, fd, F, m⟩ := r.fun_ X G
  exact Kn.by_ F m (F.binds fun _ _ _ _ _ _ us hl => match us, hl with | [_, _], _ => rfl) sc__law_power rfl rfl fun f cdv A outer s H E hr hgd => ⟨_, (fs_cons (fs_set (i := 2) sc__law_power.nd fint)
    (fs_cons (fs_for (vs := [3]) psOf rfl (fi_rng1 c.b_range (fa_cons (fv 1) fa_nil)) (fg_name 3 sc__law_power.nd) (fs_one (fs_set (i := 2) sc__law_power.nd (fmul (fv 2) (fv 0)))))
    (fs_one (fs_ret (fv 2)))))⟩
def b__law_sum : XS := (sRet (xOnNew gSum (xLc (xSrc (xVar 0)) [2] (gSet 2) tYesF (xCall g__law_power (xCons (xVar 2) (xCons (xVar 1) xNil))))))
def g__law_sum : Fn := fnSem 2 1 b__law_sum
theorem k__law_sum {h : Heap} (r : Rw K "_law_sum" s__law_sum) (X : K.In h) (G : h.Ns mainGlobals mg) (c : Cfg K mg) (k__law_power : Kn P w K mg base 1 "_law_power" ["number", "k"] g__law_power) : Kn P w K mg base 2 "_law_sum" ["heap", "k"] g__law_sum := by
  obtain ⟨f, fd, F, m⟩ := r.fun_ X G
  exact Kn.by_ F m (F.binds fun _ _ _ _ _ _ us hl => match us, hl with | [_, _], _ => rfl) sc__law_sum rfl rfl fun f cdv A outer s H E hr hgd => ⟨_, (fs_one (fs_ret (fbN (cr_sum rfl) so_sum c.b_sum (glc (own := [("one", 2)]) rfl sc__law_sum.nd (fi_any (fv 0)) (blkOk_by (N := N__law_sum) (sc := defScope s__law_sum) (by decide +kernel)) (fun s_ H_ C_ cl_ fp_ => (fg_name 2 sc__law_sum.nd)) (fun s_ H_ C_ cl_ fp_ => ft_nil) (fun s_ H_ C_ cl_ fp_ => (kcall k__law_power hr hgd takesN (fa_cons (fv 2) (fa_cons (fv 1) fa_nil))))))))⟩
def b__law_is_right : XS := (sSeq (sAsg (xCall g__law_pure (xCons (xVar 0) xNil)) (gSet 1))
  (sSeq (sAsg (xOnNew gSum (xLc (xSrc (xVar 1)) [3] (gSet 3) tYesF (xB gAbs (xCons (xVar 3) xNil)))) (gSet 2))
  (sSeq (sIf (xTest (xOp dNe (xOnNew gReprL (xLst (xCons (xCall g_pure (xCons (xVar 0) xNil)) (xCons (xCall g_pure_size (xCons (xVar 0) xNil)) xNil)))) (xOnNew gReprL (xLst (xCons (xVar 1) (xCons (xVar 2) xNil)))))) (sRet (xC (.bl false))) sNext)
  (sSeq (sIf (xTest (xOp dLt (xVar 2) (xOp dMulI (xC (.int (2))) (xB gLen (xCons (xVar 0) xNil))))) (sRet (xC (.bl false))) sNext)
  (sSeq (sAsg (xTup (xCons (xCall g__law_places (xCons (xVar 1) (xCons (xC (.int (1))) xNil))) (xCons (xCall g__law_places (xCons (xVar 1) (xCons (xUn dNeg (xC (.int (1)))) xNil))) xNil))) (gSet 4))
  (sSeq (sIf (xTest (xOp dGt (xOnNew gMax (xLc (xSrc (xVar 4)) [5] (gSet 5) tYesF (xB gLen (xCons (xVar 5) xNil)))) (xC (.int (40))))) (sRet (xCall g__law_is_refused (xCons (xVar 0) xNil))) sNext)
  (sSeq (sIf (xTest (xOp dNe (xB gRepr (xCons (xCall g_pure_heaps (xCons (xVar 0) xNil)) xNil)) (xB gRepr (xCons (xVar 4) xNil)))) (sRet (xC (.bl false))) sNext)
  (sSeq (sFor (xRng1 (xCons (xOp dAdd (xB gLen (xCons (xVar 0) xNil)) (xC (.int (1)))) xNil)) (gSet 6) (sIf (xTest (xOp dNe (xOp dEq (xCall g__law_sum (xCons (xOp gIx (xVar 4) (xC (.int (0)))) (xCons (xVar 6) xNil))) (xCall g__law_sum (xCons (xOp gIx (xVar 4) (xC (.int (1)))) (xCons (xVar 6) xNil)))) (xOp dLt (xVar 6) (xB gLen (xCons (xVar 0) xNil))))) (sRet (xC (.bl false))) sNext))
  (sRet (xC (.bl true)))))))))))
def g__law_is_right : Fn := fnSem 1 6 b__law_is_right
theorem k__law_is_right {h : Heap} (r : Rw K "_law_is_right" s__law_is_right) (X : K.In h) (G : h.Ns mainGlobals mg) (c : Cfg K mg) (k__law_pure : Kn P w K mg base 1 "_law_pure" ["steps"] g__law_pure) (k_pure_size : Kn P w K mg base 5 "pure_size" ["steps"] g_pure_size) (k_pure : Kn P w K mg base 5 "pure" ["steps"] g_pure) (k__law_places : Kn P w K mg base 1 "_law_places" ["row", "sign"] g__law_places) (k__law_is_refused : Kn P w K mg base 6 "_law_is_refused" ["steps"] g__law_is_refused) (k_pure_heaps : Kn P w K mg base 5 "pure_heaps" ["steps"] g_pure_heaps) (k__law_sum : Kn P w K mg base 2 "_law_sum" ["heap", "k"] g__law_sum) : Kn P w K mg base 7 "_law_is_right" ["steps"] g__law_is_right := by
  obtain ⟨f, fd, F, m⟩ := r.fun_ X G
  exact Kn.by_ F m (F.binds fun _ _ _ _ _ _ us hl => match us, hl with | [_], _ => rfl) sc__law_is_right rfl rfl fun f cdv A outer s H E hr hgd => ⟨_, (fs_cons (fs_set (i := 1) sc__law_is_right.nd (kcall k__law_pure hr hgd tkOf (fa_cons (fv 0) fa_nil)))
    (fs_cons (fs_set (i := 2) sc__law_is_right.nd (fbN (cr_sum rfl) so_sum c.b_sum (glc (own := [("one", 3)]) rfl sc__law_is_right.nd (fi_any (fv 1)) (blkOk_by (N := N__law_is_right) (sc := defScope s__law_is_right) (by decide +kernel)) (fun s_ H_ C_ cl_ fp_ => (fg_name 3 sc__law_is_right.nd)) (fun s_ H_ C_ cl_ fp_ => ft_nil) (fun s_ H_ C_ cl_ fp_ => (fb call_abs so_abs c.b_abs (fa_cons (fv 3) fa_nil))))))
    (fs_cons (fs_if (fcmpT (op_neA hr) so_ne (by rfl) (fbN (cr_repr hr hgd) so_reprF c.b_repr (flst (fa_cons (kcall k_pure hr hgd tkOf (fa_cons (fv 0) fa_nil)) (fa_cons (kcall k_pure_size hr hgd tkOf (fa_cons (fv 0) fa_nil)) fa_nil)))) (fbN (cr_repr hr hgd) so_reprF c.b_repr (flst (fa_cons (fv 1) (fa_cons (fv 2) fa_nil))))) (fs_one (fs_ret fbl)) fs_nil)
    (fs_cons (fs_if (fcmpT op_lt so_lt (by rfl) (fv 2) (fmul fint (fb cr_len so_len c.b_len (fa_cons (fv 0) fa_nil)))) (fs_one (fs_ret fbl)) fs_nil)
    (fs_cons (fs_set (i := 4) sc__law_is_right.nd (ftup (fa_cons (kcall k__law_places hr hgd tkOf (fa_cons (fv 1) (fa_cons fint fa_nil))) (fa_cons (kcall k__law_places hr hgd tkOf (fa_cons (fv 1) (fa_cons (fneg fint) fa_nil))) fa_nil))))
    (fs_cons (fs_if (fcmpT op_gt so_gt (by rfl) (fbN (cr_max rfl) so_maxF c.b_max (glc (own := [("heap", 5)]) rfl sc__law_is_right.nd (fi_any (fv 4)) (blkOk_by (N := N__law_is_right) (sc := defScope s__law_is_right) (by decide +kernel)) (fun s_ H_ C_ cl_ fp_ => (fg_name 5 sc__law_is_right.nd)) (fun s_ H_ C_ cl_ fp_ => ft_nil) (fun s_ H_ C_ cl_ fp_ => (fb cr_len so_len c.b_len (fa_cons (fv 5) fa_nil))))) fint) (fs_one (fs_ret (kcall k__law_is_refused hr hgd tkOf (fa_cons (fv 0) fa_nil)))) fs_nil)
    (fs_cons (fs_if (fcmpT (op_neA hr) so_ne (by rfl) (fb (cr_repr hr hgd) so_repr c.b_repr (fa_cons (kcall k_pure_heaps hr hgd tkOf (fa_cons (fv 0) fa_nil)) fa_nil)) (fb (cr_repr hr hgd) so_repr c.b_repr (fa_cons (fv 4) fa_nil))) (fs_one (fs_ret fbl)) fs_nil)
    (fs_cons (fs_for (vs := [6]) psOf rfl (fi_rng1 c.b_range (fa_cons (fadd (fb cr_len so_len c.b_len (fa_cons (fv 0) fa_nil)) fint) fa_nil)) (fg_name 6 sc__law_is_right.nd) (fs_one (fs_if (fcmpT (op_neA hr) so_ne (by rfl) (fcmp (op_eqA hr) so_eq (by rfl) (kcall k__law_sum hr hgd tkOf (fa_cons (fix (fv 4) fint) (fa_cons (fv 6) fa_nil))) (kcall k__law_sum hr hgd tkOf (fa_cons (fix (fv 4) fint) (fa_cons (fv 6) fa_nil)))) (fcmp op_lt so_lt (by rfl) (fv 6) (fb cr_len so_len c.b_len (fa_cons (fv 0) fa_nil)))) (fs_one (fs_ret fbl)) fs_nil)))
    (fs_one (fs_ret fbl))))))))))⟩
def b_law : XS := (sSeq (sAsg (xCallH g__law_hand (xCons (xVar 0) xNil)) (gSet 1))
  (sSeq (sAsg (xNew (xLst (xCons (xCall g_pure (xCons (xTup (xCons (xC (.int (1))) xNil)) xNil)) (xCons (xCall g_pure (xCons (xTup (xCons (xC (.int (1))) (xCons (xC (.int (2))) xNil))) xNil)) (xCons (xCall g_pure_size (xCons (xTup (xCons (xC (.int (1))) (xCons (xC (.int (2))) xNil))) xNil)) (xCons (xCall g_pure_heaps (xCons (xTup (xCons (xC (.int (1))) (xCons (xC (.int (2))) xNil))) xNil)) (xCons (xCall g_pure (xCons (xTup (xCons (xC (.int (2))) (xCons (xC (.int (2))) xNil))) xNil)) (xCons (xCall g_pure_heaps (xCons (xTup (xCons (xC (.int (1))) (xCons (xC (.int (1))) xNil))) xNil)) xNil)))))))) (gSet 2))
  (sSeq (sDrop (xMeth isLst mAppend (xVar 2) (xCons (xCall g_pure_size (xCons (xTup (xCons (xC (.int (1))) (xCons (xC (.int (2))) (xCons (xC (.int (3))) xNil)))) xNil)) xNil)))
  (sSeq (sAsg (xNew (xLst (xCons (xTup (xCons (xC (.int (1))) (xCons (xUn dNeg (xC (.int (1)))) xNil))) (xCons (xTup (xCons (xC (.int (1))) (xCons (xUn dNeg (xC (.int (1)))) (xCons (xUn dNeg (xC (.int (1)))) (xCons (xC (.int (1))) xNil))))) (xCons (xC (.int (4))) (xCons (xTup (xCons (xTup (xCons (xC (.int (0))) (xCons (xC (.int (3))) xNil))) (xCons (xTup (xCons (xC (.int (1))) (xCons (xC (.int (2))) xNil))) xNil))) (xCons (xTup (xCons (xC (.int (1))) (xCons (xC (.int (0))) (xCons (xUn dNeg (xC (.int (2)))) (xCons (xC (.int (0))) (xCons (xC (.int (1))) xNil)))))) (xCons (xTup (xCons (xTup (xCons (xC (.int (0))) (xCons (xC (.int (2))) xNil))) (xCons (xTup (xCons (xC (.int (1))) (xCons (xC (.int (1))) xNil))) xNil))) (xCons (xC (.int (6))) xNil))))))))) (gSet 3))
  (sSeq (sIf (xOrB (xTest (xOp dNe (xB gRepr (xCons (xVar 2) xNil)) (xB gRepr (xCons (xVar 3) xNil)))) (xNotB (xTest (xCall g__law_is_refused (xCons (xOp dRepT (xTup (xCons (xC (.int (1))) xNil)) (xC (.int (8)))) xNil))))) (sRet (xC (.bl false))) sNext)
  (sSeq (sFor (xRng1 (xCons (xC (.int (8))) xNil)) (gSet 4) (sSeq (sAsg (xCall g__law_some (xCons (xVar 1) (xCons (xNew (xLst (xCons (xC (.int (4))) (xCons (xC (.int (12))) (xCons (xC (.int (12))) (xCons (xC (.int (60))) xNil)))))) xNil))) (gSet 5))
  (sSeq (sAsg (xNew (xLc (xRng1 (xCons (xOp dAdd (xC (.int (1))) (xCall g__law_draw (xCons (xVar 1) (xCons (xC (.int (7))) xNil)))) xNil)) [7] (gSet 7) tYesF (xOp dAdd (xC (.int (1))) (xCall g__law_draw (xCons (xVar 1) (xCons (xVar 5) xNil)))))) (gSet 6))
  (sIf (xNotB (xTest (xCall g__law_is_right (xCons (xOnNew (fun ds h => .ok (.tup ds) h) (xSortV (xVar 6))) xNil)))) (sRet (xC (.bl false))) sNext))))
  (sRet (xC (.bl true)))))))))
def g_law : Fn := fnSem 1 7 b_law
theorem f_law {f : Addr} {fd : FuncData} (F : Fun K "law" "law" s_law f fd) (c : Cfg K mg) (k__law_hand : Kn P w K mg base 1 "_law_hand" ["script"] g__law_hand) (k_pure_heaps : Kn P w K mg base 5 "pure_heaps" ["steps"] g_pure_heaps) (k_pure : Kn P w K mg base 5 "pure" ["steps"] g_pure) (k_pure_size : Kn P w K mg base 5 "pure_size" ["steps"] g_pure_size) (k__law_is_refused : Kn P w K mg base 6 "_law_is_refused" ["steps"] g__law_is_refused) (k__law_some : Kn P w K mg base 2 "_law_some" ["hand", "things"] g__law_some) (k__law_draw : Kn P w K mg base 1 "_law_draw" ["hand", "many"] g__law_draw) (k__law_is_right : Kn P w K mg base 7 "_law_is_right" ["steps"] g__law_is_right) : FnS P w K mg base 8 f fd ["script"] g_law :=
  fn_body F sc_law rfl rfl fun cdv A outer s H E hr hgd => ⟨_, (fs_cons (fs_set (i := 1) sc_law.nd (kcallH k__law_hand hr hgd tkOf (fa_cons (fv 0) fa_nil)))
    (fs_cons (fs_set (i := 2) sc_law.nd (FLs.val (flst (fa_cons (kcall k_pure hr hgd tkOf (fa_cons (ftup (fa_cons fint fa_nil)) fa_nil)) (fa_cons (kcall k_pure hr hgd tkOf (fa_cons (ftup (fa_cons fint (fa_cons fint fa_nil))) fa_nil)) (fa_cons (kcall k_pure_size hr hgd tkOf (fa_cons (ftup (fa_cons fint (fa_cons fint fa_nil))) fa_nil)) (fa_cons (kcall k_pure_heaps hr hgd tkOf (fa_cons (ftup (fa_cons fint (fa_cons fint fa_nil))) fa_nil)) (fa_cons (kcall k_pure hr hgd tkOf (fa_cons (ftup (fa_cons fint (fa_cons fint fa_nil))) fa_nil)) (fa_cons (kcall k_pure_heaps hr hgd tkOf (fa_cons (ftup (fa_cons fint (fa_cons fint fa_nil))) fa_nil)) fa_nil)))))))))
    (fs_cons (fs_expr (fappend (fv 2) (kcall k_pure_size hr hgd tkOf (fa_cons (ftup (fa_cons fint (fa_cons fint (fa_cons fint fa_nil)))) fa_nil))))
    (fs_cons (fs_set (i := 3) sc_law.nd (FLs.val (flst (fa_cons (ftup (fa_cons fint (fa_cons (fneg fint) fa_nil))) (fa_cons (ftup (fa_cons fint (fa_cons (fneg fint) (fa_cons (fneg fint) (fa_cons fint fa_nil))))) (fa_cons fint (fa_cons (ftup (fa_cons (ftup (fa_cons fint (fa_cons fint fa_nil))) (fa_cons (ftup (fa_cons fint (fa_cons fint fa_nil))) fa_nil))) (fa_cons (ftup (fa_cons fint (fa_cons fint (fa_cons (fneg fint) (fa_cons fint (fa_cons fint fa_nil)))))) (fa_cons (ftup (fa_cons (ftup (fa_cons fint (fa_cons fint fa_nil))) (fa_cons (ftup (fa_cons fint (fa_cons fint fa_nil))) fa_nil))) (fa_cons fint fa_nil))))))))))
    (fs_cons (fs_if (fwt (fw_or (fcmpT (op_neA hr) so_ne (by rfl) (fb (cr_repr hr hgd) so_repr c.b_repr (fa_cons (fv 2) fa_nil)) (fb (cr_repr hr hgd) so_repr c.b_repr (fa_cons (fv 3) fa_nil))) (fw_or1 (fnotT (fval (kcall k__law_is_refused hr hgd tkOf (fa_cons (frepT (ftup (fa_cons fint fa_nil)) fint) fa_nil))))))) (fs_one (fs_ret fbl)) fs_nil)
    (fs_cons (fs_for (vs := [4]) psOf rfl (fi_rng1 c.b_range (fa_cons fint fa_nil)) (fg_name 4 sc_law.nd) (fs_cons (fs_set (i := 5) sc_law.nd (kcall k__law_some hr hgd tkOf (fa_cons (fv 1) (fa_cons (FLs.val (flst (fa_cons fint (fa_cons fint (fa_cons fint (fa_cons fint fa_nil)))))) fa_nil))))
    (fs_cons (gs_setLc (i := 6) (own := [("step", 7)]) rfl sc_law.nd (fi_rng1 c.b_range (fa_cons (fadd fint (kcall k__law_draw hr hgd tkOf (fa_cons (fv 1) (fa_cons fint fa_nil)))) fa_nil)) (blkOk_by (N := N_law) (sc := defScope s_law) (by decide +kernel)) (fun s_ H_ C_ cl_ fp_ => (fg_name 7 sc_law.nd)) (fun s_ H_ C_ cl_ fp_ => ft_nil) (fun s_ H_ C_ cl_ fp_ => (fadd fint (kcall k__law_draw hr hgd takesN (fa_cons (fv 1) (fa_cons (fv 5) fa_nil))))))
    (fs_one (fs_if (fnotT (fval (kcall k__law_is_right hr hgd tkOf (fa_cons (ftyN call_tuple_of so_tupF c.b_tuple (fsortV c.b_sorted (fv 6))) fa_nil)))) (fs_one (fs_ret fbl)) fs_nil)))))
    (fs_one (fs_ret fbl))))))))⟩
end
theorem all_mk {l : PySem.W.OpenLaw} {w : World} {K : PySem.W.Frag} {h : Heap} {mg : Str → Option Value} {fa f1 : Addr} (X : K.In h) (G : h.Ns mainGlobals mg) (hfa : mg "law" = some (.ref fa)) {od1 an1 : Option Addr} {sl1 : Array (Option Value)} {oc1 kV1 dc1 pm1 cd1 ct1 : Value} {t_MOST_HEAP : Tok} {t_MOST_STEPS : Tok} {t_MOST_STEP : Tok} {e_NoNumbers : Addr} {e_NoSteps : Addr} {eD_NoNumbers eL_NoNumbers : Addr}
    (a1 : PySem.W.nsIn K mainGlobals "law" = some (some (.ref f1))) (l1 : K.lookup f1 = some ⟨oc1, od1, .func (PySem.W.fnOf "law" "law" (defArgs s_law) (defBody s_law) (defScope s_law) .none kV1 dc1 pm1 an1 cd1 ct1), sl1⟩) (c1 : PySem.W.codeIn K cd1 "law" = true) (k1 : PySem.W.keepIn K (.ref f1) = true)
    (r__law_hand : Rw K "_law_hand" s__law_hand)
    (r_is_integer : Rw K "is_integer" s_is_integer)
    (r_is_within : Rw K "is_within" s_is_within)
    (r_are_steps : Rw K "are_steps" s_are_steps)
    (r_check_steps : Rw K "check_steps" s_check_steps)
    (r_raw_pure : Rw K "raw_pure" s_raw_pure)
    (r_pure_heaps : Rw K "pure_heaps" s_pure_heaps)
    (r_pure : Rw K "pure" s_pure)
    (r_size_of : Rw K "size_of" s_size_of)
    (r_pure_size : Rw K "pure_size" s_pure_size)
    (r__law_is_refused : Rw K "_law_is_refused" s__law_is_refused)
    (r__law_draw : Rw K "_law_draw" s__law_draw)
    (r__law_some : Rw K "_law_some" s__law_some)
    (r__law_pure : Rw K "_law_pure" s__law_pure)
    (r__law_places : Rw K "_law_places" s__law_places)
    (r__law_power : Rw K "_law_power" s__law_power)
    (r__law_sum : Rw K "_law_sum" s__law_sum)
    (r__law_is_right : Rw K "_law_is_right" s__law_is_right)
    (z_repr : PySem.W.nsIn K mainGlobals "repr" = some none)
    (z_range : PySem.W.nsIn K mainGlobals "range" = some none)
    (z_sorted : PySem.W.nsIn K mainGlobals "sorted" = some none)
    (z_tuple : PySem.W.nsIn K mainGlobals "tuple" = some none)
    (z_int : PySem.W.nsIn K mainGlobals "int" = some none)
    (z_abs : PySem.W.nsIn K mainGlobals "abs" = some none)
    (z_len : PySem.W.nsIn K mainGlobals "len" = some none)
    (z_enumerate : PySem.W.nsIn K mainGlobals "enumerate" = some none)
    (z_max : PySem.W.nsIn K mainGlobals "max" = some none)
    (z_isinstance : PySem.W.nsIn K mainGlobals "isinstance" = some none)
    (z_list : PySem.W.nsIn K mainGlobals "list" = some none)
    (z_all : PySem.W.nsIn K mainGlobals "all" = some none)
    (z_bool : PySem.W.nsIn K mainGlobals "bool" = some none)
    (z_sum : PySem.W.nsIn K mainGlobals "sum" = some none)
    (z_ValueError : PySem.W.nsIn K mainGlobals "ValueError" = some none)
    (v_MOST_HEAP : PySem.W.nsIn K mainGlobals "MOST_HEAP" = some (some (.int (40) t_MOST_HEAP)))
    (v_MOST_STEPS : PySem.W.nsIn K mainGlobals "MOST_STEPS" = some (some (.int (12) t_MOST_STEPS)))
    (v_MOST_STEP : PySem.W.nsIn K mainGlobals "MOST_STEP" = some (some (.int (60) t_MOST_STEP)))
    (xa_NoNumbers : PySem.W.nsIn K mainGlobals "NoNumbers" = some (some (.ref e_NoNumbers)))
    (xb_NoNumbers : PySem.W.excIn K e_NoNumbers [.type "ValueError", .type "Exception", .type "BaseException", .type "object"] "ValueError.__new__" = true)
    (xc_NoNumbers : PySem.W.keepIn K (.ref e_NoNumbers) = true)
    (xd_NoNumbers : PySem.W.subIn K (.ref e_NoNumbers) (.type "BaseException") = some true)
    (xe_NoNumbers : PySem.W.typeIn K (.ref e_NoNumbers) = some (.type "type"))
    (xa_NoSteps : PySem.W.nsIn K mainGlobals "NoSteps" = some (some (.ref e_NoSteps)))
    (xb_NoSteps : PySem.W.excIn K e_NoSteps [.type "ValueError", .type "Exception", .type "BaseException", .type "object"] "ValueError.__new__" = true)
    (xc_NoSteps : PySem.W.keepIn K (.ref e_NoSteps) = true)
    (xd_NoSteps : PySem.W.subIn K (.ref e_NoSteps) (.type "BaseException") = some true)
    (xe_NoSteps : PySem.W.typeIn K (.ref e_NoSteps) = some (.type "type"))
    (ya_NoNumbers : PySem.W.nsIn K mainGlobals "NoNumbers" = some (some (.ref eD_NoNumbers)))
    (yb_NoNumbers : PySem.W.nsIn K mainGlobals "LikeError" = some (some (.ref eL_NoNumbers)))
    (yc_NoNumbers : PySem.W.subIn K (.ref eL_NoNumbers) (.type "BaseException") = some true)
    (yc2_NoNumbers : PySem.W.hasDictIn K eL_NoNumbers = true)
    (yc3_NoNumbers : PySem.W.typeIn K (.ref eL_NoNumbers) = some (.type "type"))
    (yc4_NoNumbers : PySem.W.subIn K (.ref eD_NoNumbers) (.ref eL_NoNumbers) = some true)
    (yhg_NoNumbers : PySem.W.findIn K (.ref eD_NoNumbers) "__getattribute__" = some (some (.builtin "BaseException.__getattribute__")))
    (yhk_NoNumbers : PySem.W.findIn K (.ref eD_NoNumbers) "__getattr__" = some none)
    (yhs_NoNumbers : PySem.W.subIn K (.ref eD_NoNumbers) (.type "BaseException") = some true)
    (yhd_NoNumbers : PySem.W.hasDictIn K eD_NoNumbers = true)
    (yha_NoNumbers : PySem.W.findIn K (.ref eD_NoNumbers) "__class__" = some (some (.builtin "object.__class__")))
    (yhn_NoNumbers : PySem.W.specialIn K (.builtin "object.__class__") "__get__" = some (some (.builtin "getset_descriptor.__get__")))
    (yht_NoNumbers : PySem.W.takesIn K (.builtin "object.__class__") = some true)
    (yhm_NoNumbers : PySem.W.mroIn K eD_NoNumbers (.type "object") = some true)
    (ye_NoNumbers : PySem.W.subIn K (.ref eD_NoNumbers) (.type "ValueError") = some true)
    : ∃ fd : FuncData, (∀ (s : Shared) (v : Value), BindsTo s fd ⟨[v], []⟩ [("script", v)]) ∧ ∀ base : Heap, K.In base → base.Ns mainGlobals mg → FnS l.prog w K mg base 8 fa fd ["script"] g_law := by
  have e := hfa.symm.trans (PySem.W.mg_of X G a1)
  cases e
  have F1 := fun_mk (st := s_law) l1 c1 k1
  have c : Cfg K mg := ⟨PySem.W.mg_none_of X G z_repr, PySem.W.mg_none_of X G z_range, PySem.W.mg_none_of X G z_sorted, PySem.W.mg_none_of X G z_tuple, PySem.W.mg_none_of X G z_int, PySem.W.mg_none_of X G z_abs, PySem.W.mg_none_of X G z_len, PySem.W.mg_none_of X G z_enumerate, PySem.W.mg_none_of X G z_max, PySem.W.mg_none_of X G z_isinstance, PySem.W.mg_none_of X G z_list, PySem.W.mg_none_of X G z_all, PySem.W.mg_none_of X G z_bool, PySem.W.mg_none_of X G z_sum, PySem.W.mg_none_of X G z_ValueError, ⟨_, PySem.W.mg_of X G v_MOST_HEAP⟩, ⟨_, PySem.W.mg_of X G v_MOST_STEPS⟩, ⟨_, PySem.W.mg_of X G v_MOST_STEP⟩, ⟨_, PySem.W.mg_of X G xa_NoNumbers, xb_NoNumbers, xc_NoNumbers, xd_NoNumbers, xe_NoNumbers⟩, ⟨_, PySem.W.mg_of X G xa_NoSteps, xb_NoSteps, xc_NoSteps, xd_NoSteps, xe_NoSteps⟩, ⟨_, _, PySem.W.mg_of X G ya_NoNumbers, PySem.W.mg_of X G yb_NoNumbers, .of yc_NoNumbers yc2_NoNumbers yc3_NoNumbers yc4_NoNumbers ⟨yhg_NoNumbers, yhk_NoNumbers, yhs_NoNumbers, yhd_NoNumbers, yha_NoNumbers, yhn_NoNumbers, yht_NoNumbers, yhm_NoNumbers⟩ ye_NoNumbers⟩⟩
  refine ⟨PySem.W.fnOf "law" "law" (defArgs s_law) (defBody s_law) (defScope s_law) .none kV1 dc1 pm1 an1 cd1 ct1, fun s v => .of_eq rfl, fun base _ _ => ?_⟩
  have q__law_hand : Kn l.prog w K mg base 1 "_law_hand" ["script"] g__law_hand := k__law_hand r__law_hand X G c 
  have q_is_integer : Kn l.prog w K mg base 1 "is_integer" ["thing"] g_is_integer := k_is_integer r_is_integer X G c 
  have q_is_within : Kn l.prog w K mg base 2 "is_within" ["thing", "low", "high"] g_is_within := k_is_within r_is_within X G c q_is_integer
  have q_are_steps : Kn l.prog w K mg base 3 "are_steps" ["thing"] g_are_steps := k_are_steps r_are_steps X G c q_is_within
  have q_check_steps : Kn l.prog w K mg base 4 "check_steps" ["thing"] g_check_steps := k_check_steps r_check_steps X G c q_are_steps
  have q_raw_pure : Kn l.prog w K mg base 1 "raw_pure" ["steps"] g_raw_pure := k_raw_pure r_raw_pure X G c 
  have q_pure_heaps : Kn l.prog w K mg base 5 "pure_heaps" ["steps"] g_pure_heaps := k_pure_heaps r_pure_heaps X G c q_check_steps q_raw_pure
  have q_pure : Kn l.prog w K mg base 5 "pure" ["steps"] g_pure := k_pure r_pure X G c q_check_steps q_raw_pure
  have q_size_of : Kn l.prog w K mg base 2 "size_of" ["steps"] g_size_of := k_size_of r_size_of X G c q_raw_pure
  have q_pure_size : Kn l.prog w K mg base 5 "pure_size" ["steps"] g_pure_size := k_pure_size r_pure_size X G c q_check_steps q_size_of
  have q__law_is_refused : Kn l.prog w K mg base 6 "_law_is_refused" ["steps"] g__law_is_refused := k__law_is_refused r__law_is_refused X G c q_pure_heaps
  have q__law_draw : Kn l.prog w K mg base 1 "_law_draw" ["hand", "many"] g__law_draw := k__law_draw r__law_draw X G c 
  have q__law_some : Kn l.prog w K mg base 2 "_law_some" ["hand", "things"] g__law_some := k__law_some r__law_some X G c q__law_draw
  have q__law_pure : Kn l.prog w K mg base 1 "_law_pure" ["steps"] g__law_pure := k__law_pure r__law_pure X G c 
  have q__law_places : Kn l.prog w K mg base 1 "_law_places" ["row", "sign"] g__law_places := k__law_places r__law_places X G c 
  have q__law_power : Kn l.prog w K mg base 1 "_law_power" ["number", "k"] g__law_power := k__law_power r__law_power X G c 
  have q__law_sum : Kn l.prog w K mg base 2 "_law_sum" ["heap", "k"] g__law_sum := k__law_sum r__law_sum X G c q__law_power
  have q__law_is_right : Kn l.prog w K mg base 7 "_law_is_right" ["steps"] g__law_is_right := k__law_is_right r__law_is_right X G c q__law_pure q_pure_size q_pure q__law_places q__law_is_refused q_pure_heaps q__law_sum
  exact f_law F1 c q__law_hand q_pure_heaps q_pure q_pure_size q__law_is_refused q__law_some q__law_draw q__law_is_right
end FL

namespace FL
open PySem PySem.Spec PyProof.Rows L2 SG PU
theorem repN_of {fa : XA} {fb : XE} {env : Sl} {h h1 h2 : Hs} {ds : List D} {k : Int} (q1 : fa env h = .ok ds h1) (q2 : fb env h1 = .ok (.int k) h2) (c1 : k < 100000) (c2 : -100000 < k) (c3 : ds.length * k.toNat ≤ 100000) : xRepN fa fb env h = .ok (List.replicate k.toNat ds).flatten h2 := by
  unfold xRepN
  rw [q1]
  dsimp only [Res.bind]
  rw [q2]
  dsimp only
  rw [if_pos ⟨c1, c2, c3⟩]
theorem catVN_of {fa : XE} {fb : XA} {env : Sl} {h h1 h2 : Hs} {ds es : List D} {i : Nat} (q1 : fa env h = .ok (.ref i) h1) (q2 : fb env h1 = .ok es h2) (e : h2[i]? = some (.lst ds)) (c : ds.length + es.length ≤ 100000) : xCatVN fa fb env h = .ok (ds ++ es) h2 := by
  unfold xCatVN
  rw [q1]
  dsimp only [Res.bind]
  rw [q2]
  dsimp only
  rw [e]
  dsimp only
  rw [if_pos c]
theorem enum_live {fA : XA} {env : Sl} {h h1 : Hs} {i : Nat} {ds : List D} (q : fA env h = .ok [.ref i] h1) (e : h1[i]? = some (.lst ds)) : xEnum fA env h = .ok (.enum (.live i)) h1 := by
  unfold xEnum
  rw [q]
  dsimp only [Res.bind]
  unfold enumOf
  dsimp only
  rw [e]
theorem view_live {h : Hs} {i : Nat} {ds : List D} (e : h[i]? = some (.lst ds)) : (View.live i).at h = some ds := by
  unfold View.at
  dsimp only
  rw [e]
/-! ### one turn of the inner loop -/
def En6 (x0 : Option D) (i : Nat) (s : Nat) (j : Nat) (y4 y5 : Option D) : Sl := [x0, some (.ref i), some (.int s), some (.ref j), y4, y5]
def SubB (B : XS) : Prop := ∀ (x0 : Option D) (i s j a : Nat) (t : Int) (h : Hs) (L : List Int), h[j]? = some (.lst (dI_ L)) → a + s < L.length → L.length ≤ 1000000 →
  B (En6 x0 i s j (some (.int a)) (some (.int t))) h = .nx (En6 x0 i s j (some (.int a)) (some (.int t))) (h.set j (.lst (dI_ (L.set (a + s) (L.getD (a + s) 0 - t)))))
abbrev G45 : D → Sl → Option Sl := gTuple 2 (gsCons (gSet 4) (gsCons (gSet 5) gsNil))
theorem dI_get (L : List Int) (p : Nat) : (dI_ L)[p]? = (L[p]?).map D.int := by
  show (List.map _ _)[p]? = _
  rw [List.getElem?_map]
theorem dI_len (L : List Int) : (dI_ L).length = L.length := List.length_map ..
theorem inner_loop {B : XS} (hB : SubB B) {x0 : Option D} {i s j : Nat} (hij : i ≠ j) {l : List Int} : ∀ (rest : List Int) (a : Nat) (h : Hs) (L : List Int) (x4 x5 : Option D), l.drop a = rest → h[i]? = some (.lst (dI_ l)) → h[j]? = some (.lst (dI_ L)) → a + s + rest.length ≤ L.length → L.length ≤ 1000000 →
    ∃ y4 y5, forL (.enum (.live i)) G45 B (rest.length + 1) a (En6 x0 i s j x4 x5) h = .nx (En6 x0 i s j y4 y5) (h.set j (.lst (dI_ (subAt L (a + s) rest))))
  | [], a, h, L, x4, x5, hd, hi, hj, hl, hm => by
    have hn : (Src.enum (.live i)).nxt a h = some none := by
      show ((View.live i).at h).map _ = _
      have : (View.live i).at h = some (dI_ l) := by
        show (match h[i]? with | some (.lst ds) => some ds | _ => none) = _
        rw [hi]
      rw [this]
      show some (((dI_ l)[a]?).map _) = _
      rw [dI_get, List.getElem?_eq_none (List.drop_eq_nil_iff.mp hd)]
      rfl
    refine ⟨x4, x5, ?_⟩
    show forL (.enum (.live i)) G45 B 1 a (En6 x0 i s j x4 x5) h = .nx _ (h.set j (.lst (dI_ L)))
    unfold forL
    rw [hn]
    dsimp only
    have e : h.set j (.lst (dI_ L)) = h := by
      have := (List.getElem?_eq_some_iff.mp hj)
      obtain ⟨lt, e⟩ := this
      rw [← e]
      exact List.set_getElem_self lt
    rw [e]
  | t :: r, a, h, L, x4, x5, hd, hi, hj, hl, hm => by
    rw [List.length_cons] at hl
    have hg : l[a]? = some t := by
      have := congrArg (fun z => z[0]?) hd
      simpa using this
    have hn : (Src.enum (.live i)).nxt a h = some (some (.tup [.int a, .int t])) := by
      show ((View.live i).at h).map _ = _
      have : (View.live i).at h = some (dI_ l) := by
        show (match h[i]? with | some (.lst ds) => some ds | _ => none) = _
        rw [hi]
      rw [this]
      show some (((dI_ l)[a]?).map _) = _
      rw [dI_get, hg]
      rfl
    have hd' : l.drop (a + 1) = r := by
      rw [← List.drop_drop, hd]
      rfl
    have hlt : j < h.length := (List.getElem?_eq_some_iff.mp hj).1
    have hi' : (h.set j (.lst (dI_ (L.set (a + s) (L.getD (a + s) 0 - t)))))[i]? = some (.lst (dI_ l)) := by
      rw [List.getElem?_set_ne (fun z => hij z.symm)]
      exact hi
    have hj' : (h.set j (.lst (dI_ (L.set (a + s) (L.getD (a + s) 0 - t)))))[j]? = some (.lst (dI_ (L.set (a + s) (L.getD (a + s) 0 - t)))) := by
      rw [List.getElem?_set_self hlt]
    obtain ⟨y4, y5, ih⟩ := inner_loop hB (x0 := x0) (s := s) hij r (a + 1) _ (L.set (a + s) (L.getD (a + s) 0 - t)) (some (.int a)) (some (.int t)) hd' hi' hj' (by rw [List.length_set]; omega) (by rw [List.length_set]; omega)
    refine ⟨y4, y5, ?_⟩
    show forL (.enum (.live i)) G45 B (r.length + 1 + 1) a (En6 x0 i s j x4 x5) h = _
    rw [forL, hn]
    show afterB (B (En6 x0 i s j (some (.int a)) (some (.int t))) h) _ = _
    rw [hB x0 i s j a t h L hj (by omega) hm]
    show forL _ _ _ (r.length + 1) (a + 1) _ _ = _
    rw [ih, List.set_set]
    have : a + 1 + s = a + s + 1 := by omega
    rw [this]
    rfl
/-! ### the product -/
abbrev outBody (B : XS) : XS := sSeq (sAsg (xNew (xCatVN (xVar 1) (xRepN (xLst (xCons (xC (.int (0))) xNil)) (xVar 2)))) (gSet 3))
  (sSeq (sFor (xEnum (xCons (xVar 1) xNil)) G45 B)
  (sAsg (xVar 3) (gSet 1)))
theorem rep_flat (n : Nat) : (List.replicate n [D.int 0]).flatten = dI_ (List.replicate n 0) := by
  induction n with
  | zero => rfl
  | succ n ih =>
    rw [List.replicate_succ, List.flatten_cons, ih]
    rfl
theorem out_turn {B : XS} (hB : SubB B) {x0 x3 x4 x5 : Option D} {i s : Nat} {h : Hs} {P : List Int} (hi : h[i]? = some (.lst (dI_ P))) (hs : P.length + s ≤ 10000) :
    ∃ y4 y5, outBody B [x0, some (.ref i), some (.int s), x3, x4, x5] h = .nx (En6 x0 h.length s h.length y4 y5) (h ++ [.lst (dI_ (shm s P))]) := by
  have hlt : i < h.length := (List.getElem?_eq_some_iff.mp hi).1
  have c0 : xRepN (xLst (xCons (xC (.int (0))) xNil)) (xVar 2) [x0, some (.ref i), some (.int s), x3, x4, x5] h = .ok (dI_ (List.replicate s 0)) h := by
    rw [repN_of (ds := [.int 0]) (k := s) rfl rfl (by omega) (by omega) (by rw [Int.toNat_natCast]; show 1 * s ≤ _; omega), Int.toNat_natCast, rep_flat]
  have c1 : xCatVN (xVar 1) (xRepN (xLst (xCons (xC (.int (0))) xNil)) (xVar 2)) [x0, some (.ref i), some (.int s), x3, x4, x5] h = .ok (dI_ (P ++ List.replicate s 0)) h := by
    rw [catVN_of (ds := dI_ P) rfl c0 hi (by rw [dI_len, dI_len, List.length_replicate]; omega)]
    unfold dI_
    rw [List.map_append]
  have c2 := (sAsg_of (i := 3) (xNew_of c1))
  have hi2 : (h ++ [Ob.lst (dI_ (P ++ List.replicate s 0))])[i]? = some (.lst (dI_ P)) := app_keep hi _
  have hj2 : (h ++ [Ob.lst (dI_ (P ++ List.replicate s 0))])[h.length]? = some (.lst (dI_ (P ++ List.replicate s 0))) := app_last h _
  obtain ⟨y4, y5, q⟩ := inner_loop hB (x0 := x0) (s := s) (show i ≠ h.length by omega) P 0 _ _ x4 x5 rfl hi2 hj2 (by rw [List.length_append, List.length_replicate]; omega) (by rw [List.length_append, List.length_replicate]; omega)
  rw [app_set, Nat.zero_add] at q
  refine ⟨y4, y5, ?_⟩
  show sSeq _ _ _ _ = _
  rw [seq_nx c2]
  have c3 : sFor (xEnum (xCons (xVar 1) xNil)) G45 B (En6 x0 i s h.length x4 x5) (h ++ [.lst (dI_ (P ++ List.replicate s 0))]) = .nx (En6 x0 i s h.length y4 y5) (h ++ [.lst (dI_ (shm s P))]) := by
    have e1 : xEnum (xCons (xVar 1) xNil) (En6 x0 i s h.length x4 x5) (h ++ [.lst (dI_ (P ++ List.replicate s 0))]) = .ok (.enum (.live i)) (h ++ [.lst (dI_ (P ++ List.replicate s 0))]) := enum_live rfl hi2
    unfold sFor
    rw [e1]
    show forL (.enum (.live i)) G45 B ((((View.live i).at (h ++ [.lst (dI_ (P ++ List.replicate s 0))])).getD []).length + 1) 0 _ _ = _
    have e2 := view_live hi2
    rw [e2, Option.getD_some, dI_len]
    exact q
  have c4 : sSeq (sFor (xEnum (xCons (xVar 1) xNil)) G45 B) (sAsg (xVar 3) (gSet 1)) (En6 x0 i s h.length x4 x5) (h ++ [.lst (dI_ (P ++ List.replicate s 0))]) = .nx (En6 x0 h.length s h.length y4 y5) (h ++ [.lst (dI_ (shm s P))]) := by
    rw [seq_nx c3]
    rfl
  exact c4
def stp (ss : List Nat) : List D := dI_ (ss.map fun (n : Nat) => (n : Int))
theorem out_loop {B : XS} (hB : SubB B) {x0 : Option D} : ∀ (ss : List Nat) (P : List Int) (h : Hs) (i : Nat) (x2 x3 x4 x5 : Option D), h[i]? = some (.lst (dI_ P)) → P.length + ss.sum ≤ 10000 →
    ∃ h' i' y2 y3 y4 y5, forD (gSet 2) (outBody B) (stp ss) [x0, some (.ref i), x2, x3, x4, x5] h = .nx [x0, some (.ref i'), y2, y3, y4, y5] h' ∧ h'[i']? = some (.lst (dI_ (ss.foldl (fun P s => shm s P) P)))
  | [], P, h, i, x2, x3, x4, x5, hi, hl => ⟨h, i, x2, x3, x4, x5, rfl, hi⟩
  | s :: ss, P, h, i, x2, x3, x4, x5, hi, hl => by
    rw [List.sum_cons] at hl
    obtain ⟨z4, z5, q⟩ := out_turn hB (x0 := x0) (x3 := x3) (x4 := x4) (x5 := x5) (s := s) hi (by omega)
    obtain ⟨h', i', y2, y3, y4, y5, q1, q2⟩ := out_loop hB (x0 := x0) ss (shm s P) (h ++ [.lst (dI_ (shm s P))]) h.length (some (.int s)) (some (.ref h.length)) z4 z5 (app_last h _) (by rw [shm_len]; omega)
    refine ⟨h', i', y2, y3, y4, y5, ?_, q2⟩
    show afterB (outBody B [x0, some (.ref i), some (.int s), x3, x4, x5] h) (forD (gSet 2) (outBody B) (stp ss)) = _
    rw [q]
    exact q1
/-! ### the two bodies -/
theorem ixN_nat (n p : Nat) (hp : p < n) (z : Int) (hz : z = (p : Int)) : ixN n z = some p := by
  subst hz
  unfold ixN
  rw [if_pos (by omega), if_pos (by omega), Int.toNat_natCast]
theorem atI_nat (L : List Int) (p : Nat) (hp : p < L.length) (z : Int) (hz : z = (p : Int)) : atI (dI_ L) z = some (.int (L.getD p 0)) := by
  unfold atI
  rw [ixN_nat _ p (by rw [dI_len]; exact hp) z hz]
  show (dI_ L)[p]? = _
  rw [dI_get, List.getD_eq_getElem?_getD, List.getElem?_eq_getElem hp]
  rfl
theorem dI_set (L : List Int) (p : Nat) (v : Int) : (dI_ L).set p (.int v) = dI_ (L.set p v) := by
  show (List.map _ _).set _ _ = List.map _ _
  rw [List.map_set]
theorem subB_raw : SubB (sAugIx (dI0 fun i j => .int (i - j)) (xVar 3) (xOp dAdd (xVar 4) (xVar 2)) (xVar 5)) := fun x0 i s j a t h L hj ha hm => by
  have e : ((a : Int) + (s : Int)) = ((a + s : Nat) : Int) := by omega
  have q1 : xVar 3 (En6 x0 i s j (some (.int a)) (some (.int t))) h = .ok (.ref j) h := rfl
  have q2 : xOp dAdd (xVar 4) (xVar 2) (En6 x0 i s j (some (.int a)) (some (.int t))) h = .ok (.int ((a : Int) + (s : Int))) h := rfl
  have q3 : xVar 5 (En6 x0 i s j (some (.int a)) (some (.int t))) h = .ok (.int t) h := rfl
  unfold sAugIx
  rw [q1]
  dsimp only [Res.bind]
  rw [q2]
  dsimp only
  rw [hj]
  dsimp only
  rw [if_pos (by omega), atI_nat L (a + s) ha _ e]
  dsimp only
  rw [q3]
  dsimp only [dI0]
  rw [hj]
  dsimp only
  rw [ixN_nat _ (a + s) (by rw [dI_len]; exact ha) _ e]
  dsimp only
  rw [dI_set]
  rfl
theorem subB_law : SubB (sSetIx (xOp dSub (xOp gIx (xVar 3) (xOp dAdd (xVar 4) (xVar 2))) (xVar 5)) (xVar 3) (xOp dAdd (xVar 4) (xVar 2))) := fun x0 i s j a t h L hj ha hm => by
  have e : ((a : Int) + (s : Int)) = ((a + s : Nat) : Int) := by omega
  have q1 : xVar 3 (En6 x0 i s j (some (.int a)) (some (.int t))) h = .ok (.ref j) h := rfl
  have q2 : xOp dAdd (xVar 4) (xVar 2) (En6 x0 i s j (some (.int a)) (some (.int t))) h = .ok (.int ((a : Int) + (s : Int))) h := rfl
  have q3 : xVar 5 (En6 x0 i s j (some (.int a)) (some (.int t))) h = .ok (.int t) h := rfl
  have q4 : xOp gIx (xVar 3) (xOp dAdd (xVar 4) (xVar 2)) (En6 x0 i s j (some (.int a)) (some (.int t))) h = .ok (.int (L.getD (a + s) 0)) h := by
    rw [xOp_of q1 q2]
    unfold gIx
    dsimp only
    rw [seq_ref hj]
    dsimp only
    rw [atI_nat L (a + s) ha _ e]
  have q5 : xOp dSub (xOp gIx (xVar 3) (xOp dAdd (xVar 4) (xVar 2))) (xVar 5) (En6 x0 i s j (some (.int a)) (some (.int t))) h = .ok (.int (L.getD (a + s) 0 - t)) h := (xOp_of q4 q3).trans rfl
  unfold sSetIx
  rw [q5]
  dsimp only [Res.bind]
  rw [q1]
  dsimp only
  rw [q2]
  dsimp only
  rw [hj]
  dsimp only
  rw [ixN_nat _ (a + s) (by rw [dI_len]; exact ha) _ e]
  dsimp only
  rw [dI_set]
  rfl
theorem forD_stp {B : XS} (hB : SubB B) {ss : List Nat} (hs : ss.sum ≤ 5000) : ∃ h' i' y2 y3 y4 y5, forD (gSet 2) (outBody B) (stp ss) [some (.tup (stp ss)), some (.ref 0), none, none, none, none] [.lst [.int 1]] = .nx [some (.tup (stp ss)), some (.ref i'), y2, y3, y4, y5] h' ∧ h'[i']? = some (.lst (dI_ (prod ss))) :=
  out_loop hB ss [1] [.lst [.int 1]] 0 none none none none rfl (by show 1 + ss.sum ≤ _; omega)
theorem raw_ok {ss : List Nat} (hs : ss.sum ≤ 5000) : ∃ h' i', g_raw_pure [.tup (stp ss)] [] = .ok (.ref i') h' ∧ h'[i']? = some (.lst (dI_ (prod ss))) := by
  obtain ⟨h', i', y2, y3, y4, y5, q1, q2⟩ := forD_stp subB_raw hs
  refine ⟨h', i', ?_, q2⟩
  show retOf (b_raw_pure [some (.tup (stp ss)), none, none, none, none, none] []) = _
  unfold b_raw_pure
  refine (congrArg retOf (seq_nx (f := sAsg (xNew (xLst (xCons (xC (.int 1)) xNil))) (gSet 1)) (e := [some (.tup (stp ss)), some (.ref 0), none, none, none, none]) (h' := [.lst [.int 1]]) rfl)).trans ?_
  refine (congrArg retOf (seq_nx ((sFor_of (ds := stp ss) (h1 := [.lst [.int 1]]) rfl).trans q1))).trans ?_
  rfl
theorem raw_call {fA : XA} {env : Sl} {h : Hs} {ss : List Nat} (hs : ss.sum ≤ 5000) (q : fA env h = .ok [.tup (stp ss)] h) : xCall g_raw_pure fA env h = .ok (.ref h.length) (h ++ [.lst (dI_ (prod ss))]) := by
  obtain ⟨h', i', e, hi⟩ := raw_ok hs
  exact (xCall_of q).trans (callG_lst e hi (by show (D.pures (stp ss) && true) = true; rw [show D.pures (stp ss) = true from pures_ints _]; rfl) (pures_ints _))
theorem tupC_of {h : Hs} {i : Nat} {l : List Int} (e : h[i]? = some (.lst (dI_ l))) : gTup [.ref i] h = .ok (.tup (dI_ l)) h := by
  unfold gTup
  dsimp only
  rw [lstI_ref e]
theorem lawpure_ok {ss : List Nat} (hs : ss.sum ≤ 5000) : ∃ h', g__law_pure [.tup (stp ss)] [] = .ok (.tup (dI_ (prod ss))) h' := by
  obtain ⟨h', i', y2, y3, y4, y5, q1, q2⟩ := forD_stp subB_law hs
  refine ⟨h', ?_⟩
  show retOf (b__law_pure [some (.tup (stp ss)), none, none, none, none, none] []) = _
  unfold b__law_pure
  refine (congrArg retOf (seq_nx (f := sAsg (xNew (xLst (xCons (xC (.int 1)) xNil))) (gSet 1)) (e := [some (.tup (stp ss)), some (.ref 0), none, none, none, none]) (h' := [.lst [.int 1]]) rfl)).trans ?_
  refine (congrArg retOf (seq_nx ((sFor_of (ds := stp ss) (h1 := [.lst [.int 1]]) rfl).trans q1))).trans ?_
  have v : xCons (xVar 1) xNil [some (.tup (stp ss)), some (.ref i'), y2, y3, y4, y5] h' = .ok [.ref i'] h' := rfl
  have r := (xB_of (op := gTup) v).trans (tupC_of q2)
  rw [sRet_of r]
  rfl
end FL

namespace FL
open PySem PySem.Spec PyProof.Rows L2 SG PU
theorem chain_of {o o' : D → D → Hs → Res D} {fa fb fc : XE} {env : Sl} {h h1 h2 h3 h4 : Hs} {a b c : D} (q1 : fa env h = .ok a h1) (q2 : fb env h1 = .ok b h2) (q3 : o a b h2 = .ok (.bl true) h3) (q4 : fc env h3 = .ok c h4) : xChain o o' fa fb fc env h = o' b c h4 := by
  unfold xChain
  rw [q1]
  dsimp only [Res.bind]
  rw [q2]
  dsimp only
  rw [q3]
  dsimp only
  rw [q4]
structure Ok7 (ss : List Nat) : Prop where
  l1 : 1 ≤ ss.length
  l7 : ss.length ≤ 7
  bd : ∀ s ∈ ss, 1 ≤ s ∧ s ≤ 60
  so : (ss.map fun (n : Nat) => (n : Int)).Pairwise (· ≤ ·)
theorem sum_le60 : ∀ ss : List Nat, (∀ s ∈ ss, 1 ≤ s ∧ s ≤ 60) → ss.sum ≤ 60 * ss.length
  | [], _ => by simp
  | s :: r, h => by
    have := sum_le60 r fun x hx => h x (List.mem_cons_of_mem _ hx)
    have := h s (by simp)
    rw [List.sum_cons, List.length_cons]
    omega
theorem Ok7.sum {ss : List Nat} (h : Ok7 ss) : ss.sum ≤ 420 := by
  have := sum_le60 ss h.bd
  have := h.l7
  omega
theorem stp_len (ss : List Nat) : (stp ss).length = ss.length := by
  unfold stp dI_
  rw [List.length_map, List.length_map]
theorem pures_stp (ss : List Nat) : D.pures (stp ss) = true := pures_ints _
theorem pures1 (ss : List Nat) : D.pures [.tup (stp ss)] = true := by
  show (D.pures (stp ss) && true) = true
  rw [pures_stp]
  rfl
theorem within_ok {s : Nat} (h : 1 ≤ s ∧ s ≤ 60) (hs : Hs) : callG g_is_within [.int s, .int 1, .int 60] hs = .ok (.bl true) hs := by
  refine callG_val (h' := []) ?_ rfl rfl
  show retOf (b_is_within [some (.int s), some (.int 1), some (.int 60)] []) = _
  unfold b_is_within
  have a : xCall g_is_integer (xCons (xVar 0) xNil) [some (.int s), some (.int 1), some (.int 60)] [] = .ok (.bl true) [] := rfl
  have b : xChain dLe dLe (xVar 1) (xVar 0) (xVar 2) [some (.int s), some (.int 1), some (.int 60)] [] = .ok (.bl true) [] := by
    have e1 : dLe (.int 1) (.int s) [] = .ok (.bl true) [] := by
      show Res.ok (D.bl (decide ((1 : Int) ≤ s))) [] = _
      rw [decide_eq_true (by omega)]
    have e2 : dLe (.int s) (.int 60) [] = .ok (.bl true) [] := by
      show Res.ok (D.bl (decide ((s : Int) ≤ 60))) [] = _
      rw [decide_eq_true (by omega)]
    exact (chain_of (a := .int 1) (b := .int s) (c := .int 60) rfl rfl e1 rfl).trans e2
  have c : xAnd (xCall g_is_integer (xCons (xVar 0) xNil)) (xChain dLe dLe (xVar 1) (xVar 0) (xVar 2)) [some (.int s), some (.int 1), some (.int 60)] [] = .ok (.bl true) [] := by
    unfold xAnd
    rw [a]
    exact b
  rw [sRet_of c]
  rfl
theorem bls_true : ∀ ds : List D, D.bls (ds.map fun _ => D.bl true) = some (ds.map fun _ => true)
  | [] => rfl
  | d :: r => by
    have ih := bls_true r
    rw [List.map_cons, List.map_cons]
    unfold D.bls
    rw [ih]
    rfl
theorem are_ok {ss : List Nat} (h : Ok7 ss) : ∃ h', g_are_steps [.tup (stp ss)] [] = .ok (.bl true) h' := by
  have l1 := h.l1
  have l7 := h.l7
  have lg : ∀ z ∈ ss.map (fun (n : Nat) => (n : Int)), z.natAbs.log2 < 1920 := fun z hz => by
    obtain ⟨n, hn, rfl⟩ := List.mem_map.mp hz
    have := h.bd n hn
    exact small_log (k := 6) (by omega) (by decide)
  have t1 : (xOrB (xNotB (xTest (xB gIsi (xCons (xVar 0) (xCons (xC (.ty "tuple")) xNil))))) (xNotB (xTest (xChain dLe dLe (xC (.int (1))) (xB gLen (xCons (xVar 0) xNil)) (xC (.int (12))))))) [some (.tup (stp ss)), none] [] = .ok false [] := by
    have a : xTest (xB gIsi (xCons (xVar 0) (xCons (xC (.ty "tuple")) xNil))) [some (.tup (stp ss)), none] [] = .ok true [] := rfl
    have b : xTest (xChain dLe dLe (xC (.int (1))) (xB gLen (xCons (xVar 0) xNil)) (xC (.int (12)))) [some (.tup (stp ss)), none] [] = .ok true [] := by
      refine xTest_of ?_
      have e0 : xB gLen (xCons (xVar 0) xNil) [some (.tup (stp ss)), none] [] = .ok (.int ((stp ss).length : Nat)) [] := rfl
      have e1 : dLe (.int 1) (.int ((stp ss).length : Nat)) [] = .ok (.bl true) [] := by
        show Res.ok (D.bl (decide ((1 : Int) ≤ ((stp ss).length : Nat)))) [] = _
        rw [decide_eq_true (by rw [stp_len]; omega)]
      have e2 : dLe (.int ((stp ss).length : Nat)) (.int 12) [] = .ok (.bl true) [] := by
        show Res.ok (D.bl (decide ((((stp ss).length : Nat) : Int) ≤ 12))) [] = _
        rw [decide_eq_true (by rw [stp_len]; omega)]
      exact (chain_of (a := .int 1) (c := .int 12) rfl e0 e1 rfl).trans e2
    have na : xNotB (xTest (xB gIsi (xCons (xVar 0) (xCons (xC (.ty "tuple")) xNil)))) [some (.tup (stp ss)), none] [] = .ok false [] := rfl
    unfold xOrB
    rw [na]
    show xNotB _ _ _ = _
    unfold xNotB
    rw [b]
    rfl
  have a1 : xOnNew gAll (xLc (xSrc (xVar 0)) [1] (gSet 1) tYesF (xCall g_is_within (xCons (xVar 1) (xCons (xC (.int (1))) (xCons (xC (.int (60))) xNil))))) [some (.tup (stp ss)), none] [] = .ok (.bl true) [] := by
    have q := lcD_map (G := gSet 1) (f := xCall g_is_within (xCons (xVar 1) (xCons (xC (.int (1))) (xCons (xC (.int (60))) xNil)))) (env := wipeD [some (.tup (stp ss)), none] [1]) (φ := fun _ => .bl true) (h := []) (stp ss) 0 (fun d hd => by
      obtain ⟨z, hz, rfl⟩ := List.mem_map.mp hd
      obtain ⟨n, hn, rfl⟩ := List.mem_map.mp hz
      exact ⟨[some (.tup (stp ss)), some (.int n)], rfl, (xCall_of (ds := [.int n, .int 1, .int 60]) rfl).trans (within_ok (h.bd n hn) [])⟩) (by rw [stp_len]; omega)
    refine (xOnNew_of (xLc_of (ds := stp ss) (h1 := []) rfl q)).trans ?_
    unfold gAll
    rw [bls_true]
    show Res.ok (D.bl (((stp ss).map fun _ => true).all id)) [] = _
    congr 2
    rw [List.all_eq_true]
    intro x hx
    obtain ⟨_, _, rfl⟩ := List.mem_map.mp hx
    rfl
  have a2 : ∃ h', xOp dEq (xNew (xLstOf (xVar 0))) (xNew (xSortV (xVar 0))) [some (.tup (stp ss)), none] [] = .ok (.bl true) h' := by
    have e1 : xNew (xLstOf (xVar 0)) [some (.tup (stp ss)), none] [] = .ok (.ref 0) [.lst (stp ss)] := rfl
    have e2 : xNew (xSortV (xVar 0)) [some (.tup (stp ss)), none] [.lst (stp ss)] = .ok (.ref 1) [.lst (stp ss), .lst (stp ss)] := by
      refine (xNew_of (ds := stp ss) (h1 := [.lst (stp ss)]) ?_).trans rfl
      show gSortI (stp ss) _ = _
      unfold gSortI
      rw [show D.ints (stp ss) = some (ss.map fun (n : Nat) => (n : Int)) from ints_ints _]
      dsimp only
      rw [← sortI_eq (List.Perm.refl _) h.so]
      try rw [if_pos (by rw [List.length_map]; omega)]
      rfl
    refine ⟨_, (xOp_of e1 e2).trans (eq_lsts (i := 0) (j := 1) (l := ss.map fun (n : Nat) => (n : Int)) rfl rfl lg)⟩
  obtain ⟨h', e2⟩ := a2
  refine ⟨h', ?_⟩
  show retOf (b_are_steps [some (.tup (stp ss)), none] []) = _
  unfold b_are_steps
  refine (congrArg retOf (seq_nx (e := [some (.tup (stp ss)), none]) (h' := []) ((sIf_f t1).trans rfl))).trans ?_
  have c : xAnd (xOnNew gAll (xLc (xSrc (xVar 0)) [1] (gSet 1) tYesF (xCall g_is_within (xCons (xVar 1) (xCons (xC (.int (1))) (xCons (xC (.int (60))) xNil)))))) (xOp dEq (xNew (xLstOf (xVar 0))) (xNew (xSortV (xVar 0)))) [some (.tup (stp ss)), none] [] = .ok (.bl true) h' := by
    unfold xAnd
    rw [a1]
    exact e2
  rw [sRet_of c]
  rfl
theorem chk_ok {ss : List Nat} (h : Ok7 ss) (hs : Hs) : callG g_check_steps [.tup (stp ss)] hs = .ok .non hs := by
  refine callG_val (h' := []) ?_ (pures1 ss) rfl
  obtain ⟨h', e⟩ := are_ok h
  show retOf (b_check_steps [some (.tup (stp ss))] []) = _
  unfold b_check_steps
  have t : xNotB (xTest (xCall g_are_steps (xCons (xVar 0) xNil))) [some (.tup (stp ss))] [] = .ok false [] := by
    have e : xCall g_are_steps (xCons (xVar 0) xNil) [some (.tup (stp ss))] [] = .ok (.bl true) [] := (xCall_of (ds := [.tup (stp ss)]) rfl).trans (callG_val e (pures1 ss) rfl)
    unfold xNotB
    rw [xTest_of e]
    rfl
  rw [sIf_f t]
  rfl
theorem pure_call {ss : List Nat} (h : Ok7 ss) (hs : Hs) : callG g_pure [.tup (stp ss)] hs = .ok (.tup (dI_ (prod ss))) hs := by
  have hsum := h.sum
  refine callG_val (h' := [.lst (dI_ (prod ss))]) ?_ (pures1 ss) (pures_ints _)
  show retOf (b_pure [some (.tup (stp ss))] []) = _
  unfold b_pure
  refine (congrArg retOf (seq_nx (sDrop_of (d := .non) (h1 := []) ((xCall_of (ds := [.tup (stp ss)]) rfl).trans (chk_ok h []))))).trans ?_
  have r := raw_call (fA := xCons (xVar 0) xNil) (env := [some (.tup (stp ss))]) (h := []) (ss := ss) (by omega) rfl
  have t := (xB_of (op := gTup) (xCons_of r (show xNil _ _ = .ok [] _ from rfl))).trans (tupC_of (app_last [] _))
  rw [sRet_of t]
  rfl
theorem abs_lc (l : List Int) (env e' : Sl) (i : Nat) (h : Hs) (hl : l.length ≤ 100000) (hv : ∀ z : Int, (gSet i (.int z) env).map (fun e => xB gAbs (xCons (xVar i) xNil) e h) = some (.ok (.int (if z < 0 then -z else z)) h)) :
    lcD (gSet i) tYesF (elOne (xB gAbs (xCons (xVar i) xNil))) env (dI_ l) 0 h = .ok (dI_ (l.map fun a => if a < 0 then -a else a)) h := by
  have q := lcD_map (G := gSet i) (f := xB gAbs (xCons (xVar i) xNil)) (env := env) (φ := fun d => match d with | .int z => .int (if z < 0 then -z else z) | d => d) (h := h) (dI_ l) 0 (fun d hd => by
    obtain ⟨z, hz, rfl⟩ := List.mem_map.mp hd
    have := hv z
    cases q : gSet i (.int z) env with
    | none => rw [q] at this; cases this
    | some e =>
      rw [q] at this
      exact ⟨e, rfl, Option.some.inj this⟩) (by rw [dI_len]; omega)
  rw [q]
  show Res.ok (List.map _ (List.map _ l)) h = Res.ok (List.map _ (List.map _ l)) h
  rw [List.map_map, List.map_map]
  rfl
theorem prod_len {ss : List Nat} (h : Ok7 ss) : (prod ss).length ≤ 421 := by
  have := h.sum
  unfold prod
  rw [len_prod]
  show 1 + ss.sum ≤ 421
  omega
end FL

namespace FL
open PySem PySem.Spec PyProof.Rows L2 SG PU
theorem seq_ex {f k : XS} {env e : Sl} {h h' : Hs} {c : Str} (q : f env h = .exc c e h') : sSeq f k env h = .exc c e h' := by
  unfold sSeq
  rw [q]
  rfl
theorem srcl_of {f : XE} {env : Sl} {h h1 : Hs} {i : Nat} {ds : List D} (q : f env h = .ok (.ref i) h1) (e : h1[i]? = some (.lst ds)) : xSrc f env h = .ok (.one (.live i)) h1 := by
  unfold xSrc
  rw [q]
  dsimp only [Res.bind]
  unfold srcOf
  dsimp only
  rw [e]
theorem lcL_map {G : D → Sl → Option Sl} {f : XE} {env : Sl} {φ : D → D} {h : Hs} {i : Nat} {ds : List D} (hi : h[i]? = some (.lst ds)) (hd : ∀ d ∈ ds, ∃ e, G d env = some e ∧ f e h = .ok (φ d) h) : ∀ (rest : List D) (a n : Nat), ds.drop a = rest → n + rest.length ≤ 100000 → lcL (.one (.live i)) G tYesF (elOne f) env (rest.length + 1) a n h = .ok (rest.map φ) h
  | [], a, n, ha, hn => by
    unfold lcL
    have e : (Src.one (.live i)).nxt a h = some none := by
      show ((View.live i).at h).map _ = _
      rw [view_live hi]
      show some (ds[a]?) = _
      rw [List.getElem?_eq_none (List.drop_eq_nil_iff.mp ha)]
    rw [e]
    rfl
  | d :: r, a, n, ha, hn => by
    have hg : ds[a]? = some d := by
      have := congrArg (fun z => z[0]?) ha
      simpa using this
    have e : (Src.one (.live i)).nxt a h = some (some d) := by
      show ((View.live i).at h).map _ = _
      rw [view_live hi]
      show some (ds[a]?) = _
      rw [hg]
    have hm : d ∈ ds := List.mem_of_getElem? hg
    obtain ⟨e1, q1, q2⟩ := hd d hm
    have hd' : ds.drop (a + 1) = r := by
      rw [← List.drop_drop, ha]
      rfl
    rw [List.length_cons] at hn
    have ih := lcL_map (f := f) hi hd r (a + 1) (n + 1) hd' (by omega)
    rw [List.length_cons]
    rw [lcL, e]
    dsimp only
    rw [q1]
    have hlt : n < 100000 := by omega
    simp only [tYesF, Res.bindN, ↓reduceIte, elOne, hlt, q2, List.length_cons, List.length_nil, Nat.zero_add, ih]
    rfl
theorem xLc_live {src : XI} {vs : List Nat} {G : D → Sl → Option Sl} {f : XE} {env : Sl} {φ : D → D} {h h1 : Hs} {i : Nat} {ds : List D} (q : src env h = .ok (.one (.live i)) h1) (hi : h1[i]? = some (.lst ds)) (hd : ∀ d ∈ ds, ∃ e, G d (wipeD env vs) = some e ∧ f e h1 = .ok (φ d) h1) (hl : ds.length ≤ 100000) : xLc src vs G tYesF f env h = .ok (ds.map φ) h1 := by
  unfold xLc
  rw [q]
  dsimp only [Res.bind]
  show (lcL (.one (.live i)) G tYesF (elOne f) (wipeD env vs) ((((View.live i).at h1).getD []).length + 1) 0 0 h1).bindN _ = _
  rw [view_live hi, Option.getD_some, lcL_map hi hd ds 0 0 rfl (by omega)]
  rfl
theorem abs_le : ∀ (l : List Int), ∀ a ∈ l, (a.natAbs : Int) ≤ l1 l
  | [], a, h => by simp at h
  | b :: r, a, h => by
    have ih := abs_le r
    have e : l1 (b :: r) = (if b < 0 then -b else b) + l1 r := by
      unfold l1
      rw [List.map_cons, List.sum_cons]
    have z : 0 ≤ l1 r := by
      have := ml_len r 0
      omega
    rw [e]
    rcases List.mem_cons.mp h with rfl | h
    · split <;> omega
    · have := ih a h
      split <;> omega
theorem l1_le {ss : List Nat} (h : Ok7 ss) : l1 (prod ss) ≤ 128 := by
  have a := l1_prod ss [1]
  have e : l1 [1] = 1 := rfl
  rw [e, Int.mul_one] at a
  have b : (2 : Int) ^ ss.length ≤ 128 := by
    have := h.l7
    have h2 : (2 : Nat) ^ ss.length ≤ 2 ^ 7 := Nat.pow_le_pow_right (by decide) this
    have e3 : ((2 : Int) ^ ss.length) = (((2 : Nat) ^ ss.length : Nat) : Int) := by simp
    rw [e3]
    omega
  exact Int.le_trans a b
theorem size_call {ss : List Nat} (h : Ok7 ss) (hs : Hs) : callG g_size_of [.tup (stp ss)] hs = .ok (.int (l1 (prod ss))) hs := by
  have hsum := h.sum
  have pl := prod_len h
  refine callG_val (h' := [.lst (dI_ (prod ss))]) ?_ (pures1 ss) rfl
  show retOf (b_size_of [some (.tup (stp ss)), none] []) = _
  unfold b_size_of
  have r := raw_call (fA := xCons (xVar 0) xNil) (env := [some (.tup (stp ss)), none]) (h := []) (ss := ss) (by omega) rfl
  have q := xLc_live (vs := [1]) (G := gSet 1) (f := xB gAbs (xCons (xVar 1) xNil)) (φ := fun d => match d with | .int z => .int (if z < 0 then -z else z) | d => d) (srcl_of r (app_last [] _)) (app_last [] _) (fun d hd => by
    obtain ⟨z, hz, rfl⟩ := List.mem_map.mp hd
    exact ⟨[some (.tup (stp ss)), some (.int z)], rfl, rfl⟩) (by rw [dI_len]; omega)
  have e2 : (dI_ (prod ss)).map (fun d => match d with | .int z => D.int (if z < 0 then -z else z) | d => d) = dI_ ((prod ss).map fun a => if a < 0 then -a else a) := by
    show List.map _ (List.map _ _) = List.map _ (List.map _ _)
    rw [List.map_map, List.map_map]
    rfl
  rw [e2] at q
  have e3 : xOnNew gSum (xLc (xSrc (xCall g_raw_pure (xCons (xVar 0) xNil))) [1] (gSet 1) tYesF (xB gAbs (xCons (xVar 1) xNil))) [some (.tup (stp ss)), none] [] = .ok (.int (l1 (prod ss))) [.lst (dI_ (prod ss))] := by
    refine (xOnNew_of q).trans ?_
    unfold gSum
    rw [ints_ints]
    rfl
  rw [sRet_of e3]
  rfl
theorem psize_call {ss : List Nat} (h : Ok7 ss) (hs : Hs) : callG g_pure_size [.tup (stp ss)] hs = .ok (.int (l1 (prod ss))) hs := by
  refine callG_val (h' := []) ?_ (pures1 ss) rfl
  show retOf (b_pure_size [some (.tup (stp ss))] []) = _
  unfold b_pure_size
  refine (congrArg retOf (seq_nx (sDrop_of (d := .non) (h1 := []) ((xCall_of (ds := [.tup (stp ss)]) rfl).trans (chk_ok h []))))).trans ?_
  rw [sRet_of ((xCall_of (ds := [.tup (stp ss)]) rfl).trans (size_call h []))]
  rfl
/-! ### the two heaps -/
abbrev hpBody : XS := sDrop (xMethN isLst mExtN (xOp gIx (xVar 1) (xB gInt (xCons (xOp dLt (xVar 3) (xC (.int (0)))) xNil))) (xRepN (xLst (xCons (xVar 2) xNil)) (xB gAbs (xCons (xVar 3) xNil))))
abbrev G23 : D → Sl → Option Sl := gTuple 2 (gsCons (gSet 2) (gsCons (gSet 3) gsNil))
def hp4 (A B P : List Int) : Hs := [.lst (dI_ A), .lst (dI_ B), .lst [.ref 0, .ref 1], .lst (dI_ P)]
theorem rep_flat1 (x : Int) (n : Nat) : (List.replicate n [D.int x]).flatten = dI_ (List.replicate n x) := by
  induction n with
  | zero => rfl
  | succ n ih =>
    rw [List.replicate_succ, List.flatten_cons, ih]
    rfl
theorem dI_app (a b : List Int) : dI_ a ++ dI_ b = dI_ (a ++ b) := by
  unfold dI_
  rw [List.map_append]
theorem hp_turn {x0 x4 : Option D} {A B P : List Int} {a : Nat} {t : Int} (ht : t.natAbs ≤ 1000) (hA : A.length ≤ 5000) (hB : B.length ≤ 5000) :
    hpBody [x0, some (.ref 2), some (.int a), some (.int t), x4] (hp4 A B P) = .nx [x0, some (.ref 2), some (.int a), some (.int t), x4] (hp4 (A ++ List.replicate (t * 1).toNat (a : Int)) (B ++ List.replicate (t * -1).toNat (a : Int)) P) := by
  have r : xRepN (xLst (xCons (xVar 2) xNil)) (xB gAbs (xCons (xVar 3) xNil)) [x0, some (.ref 2), some (.int a), some (.int t), x4] (hp4 A B P) = .ok (dI_ (List.replicate t.natAbs (a : Int))) (hp4 A B P) := by
    rw [repN_of (ds := [.int a]) (k := if t < 0 then -t else t) (h1 := hp4 A B P) (h2 := hp4 A B P) rfl rfl (by split <;> omega) (by split <;> omega) (by show 1 * _ ≤ _; split <;> omega)]
    have : (if t < 0 then -t else t).toNat = t.natAbs := by split <;> omega
    rw [this, rep_flat1]
  by_cases c : t < 0
  · have o : xOp gIx (xVar 1) (xB gInt (xCons (xOp dLt (xVar 3) (xC (.int (0)))) xNil)) [x0, some (.ref 2), some (.int a), some (.int t), x4] (hp4 A B P) = .ok (.ref 1) (hp4 A B P) := by
      have d1 : xOp dLt (xVar 3) (xC (.int (0))) [x0, some (.ref 2), some (.int a), some (.int t), x4] (hp4 A B P) = .ok (.bl true) (hp4 A B P) := by
        show Res.ok (D.bl (decide (t < 0))) _ = _
        rw [decide_eq_true c]
      exact (xOp_of (d := .ref 2) rfl ((xB_of (op := gInt) (xCons_of d1 (show xNil _ _ = .ok [] _ from rfl))).trans (show _ = Res.ok (.int 1) _ from rfl))).trans rfl
    have m : xMethN isLst mExtN (xOp gIx (xVar 1) (xB gInt (xCons (xOp dLt (xVar 3) (xC (.int (0)))) xNil))) (xRepN (xLst (xCons (xVar 2) xNil)) (xB gAbs (xCons (xVar 3) xNil))) [x0, some (.ref 2), some (.int a), some (.int t), x4] (hp4 A B P) = .ok .non (hp4 A (B ++ List.replicate t.natAbs (a : Int)) P) := by
      unfold xMethN
      rw [o]
      dsimp only [Res.bind]
      rw [if_pos (show isLst (.ref 1) (hp4 A B P) = true from rfl), r]
      dsimp only
      show (if (dI_ B).length + (dI_ (List.replicate t.natAbs (a : Int))).length ≤ 100000 then Res.ok D.non ((hp4 A B P).set 1 (.lst (dI_ B ++ dI_ (List.replicate t.natAbs (a : Int))))) else .stuck) = _
      rw [if_pos (by rw [dI_len, dI_len, List.length_replicate]; omega), dI_app]
      rfl
    have e1 : (t * 1).toNat = 0 := by omega
    have e2 : (t * -1).toNat = t.natAbs := by omega
    rw [e1, e2, List.replicate_zero, List.append_nil]
    exact sDrop_of m
  · have o : xOp gIx (xVar 1) (xB gInt (xCons (xOp dLt (xVar 3) (xC (.int (0)))) xNil)) [x0, some (.ref 2), some (.int a), some (.int t), x4] (hp4 A B P) = .ok (.ref 0) (hp4 A B P) := by
      have d1 : xOp dLt (xVar 3) (xC (.int (0))) [x0, some (.ref 2), some (.int a), some (.int t), x4] (hp4 A B P) = .ok (.bl false) (hp4 A B P) := by
        show Res.ok (D.bl (decide (t < 0))) _ = _
        rw [decide_eq_false c]
      exact (xOp_of (d := .ref 2) rfl ((xB_of (op := gInt) (xCons_of d1 (show xNil _ _ = .ok [] _ from rfl))).trans (show _ = Res.ok (.int 0) _ from rfl))).trans rfl
    have m : xMethN isLst mExtN (xOp gIx (xVar 1) (xB gInt (xCons (xOp dLt (xVar 3) (xC (.int (0)))) xNil))) (xRepN (xLst (xCons (xVar 2) xNil)) (xB gAbs (xCons (xVar 3) xNil))) [x0, some (.ref 2), some (.int a), some (.int t), x4] (hp4 A B P) = .ok .non (hp4 (A ++ List.replicate t.natAbs (a : Int)) B P) := by
      unfold xMethN
      rw [o]
      dsimp only [Res.bind]
      rw [if_pos (show isLst (.ref 0) (hp4 A B P) = true from rfl), r]
      dsimp only
      show (if (dI_ A).length + (dI_ (List.replicate t.natAbs (a : Int))).length ≤ 100000 then Res.ok D.non ((hp4 A B P).set 0 (.lst (dI_ A ++ dI_ (List.replicate t.natAbs (a : Int))))) else .stuck) = _
      rw [if_pos (by rw [dI_len, dI_len, List.length_replicate]; omega), dI_app]
      rfl
    have e1 : (t * 1).toNat = t.natAbs := by omega
    have e2 : (t * -1).toNat = 0 := by omega
    rw [e1, e2, List.replicate_zero, List.append_nil]
    exact sDrop_of m
theorem hp_loop {x0 x4 : Option D} {P : List Int} : ∀ (rest : List Int) (a : Nat) (A B : List Int) (x2 x3 : Option D), P.drop a = rest → (∀ t ∈ rest, t.natAbs ≤ 1000) → A.length + (ml 1 a rest).length ≤ 5000 → B.length + (ml (-1) a rest).length ≤ 5000 →
    ∃ y2 y3, forL (.enum (.live 3)) G23 hpBody (rest.length + 1) a [x0, some (.ref 2), x2, x3, x4] (hp4 A B P) = .nx [x0, some (.ref 2), y2, y3, x4] (hp4 (A ++ ml 1 a rest) (B ++ ml (-1) a rest) P)
  | [], a, A, B, x2, x3, hd, _, _, _ => by
    refine ⟨x2, x3, ?_⟩
    have hn : (Src.enum (.live 3)).nxt a (hp4 A B P) = some none := by
      unfold Src.nxt
      dsimp only
      rw [view_live (show (hp4 A B P)[3]? = some (.lst (dI_ P)) from rfl), Option.map_some, dI_get, List.getElem?_eq_none (List.drop_eq_nil_iff.mp hd)]
      rfl
    show forL (.enum (.live 3)) G23 hpBody 1 a _ _ = .nx _ (hp4 (A ++ []) (B ++ []) P)
    rw [List.append_nil, List.append_nil]
    unfold forL
    rw [hn]
  | t :: r, a, A, B, x2, x3, hd, ht, hA, hB => by
    have hg : P[a]? = some t := by
      have := congrArg (fun z => z[0]?) hd
      simpa using this
    have hn : (Src.enum (.live 3)).nxt a (hp4 A B P) = some (some (.tup [.int a, .int t])) := by
      unfold Src.nxt
      dsimp only
      rw [view_live (show (hp4 A B P)[3]? = some (.lst (dI_ P)) from rfl), Option.map_some, dI_get, hg]
      rfl
    have hd' : P.drop (a + 1) = r := by
      rw [← List.drop_drop, hd]
      rfl
    have eA : ml 1 a (t :: r) = List.replicate (t * 1).toNat (a : Int) ++ ml 1 (a + 1) r := rfl
    have eB : ml (-1) a (t :: r) = List.replicate (t * -1).toNat (a : Int) ++ ml (-1) (a + 1) r := rfl
    rw [eA, List.length_append, List.length_replicate] at hA
    rw [eB, List.length_append, List.length_replicate] at hB
    obtain ⟨y2, y3, ih⟩ := hp_loop (x0 := x0) (x4 := x4) r (a + 1) (A ++ List.replicate (t * 1).toNat (a : Int)) (B ++ List.replicate (t * -1).toNat (a : Int)) (some (.int a)) (some (.int t)) hd' (fun z hz => ht z (List.mem_cons_of_mem _ hz)) (by rw [List.length_append, List.length_replicate]; omega) (by rw [List.length_append, List.length_replicate]; omega)
    refine ⟨y2, y3, ?_⟩
    rw [List.length_cons, forL, hn]
    show afterB (hpBody [x0, some (.ref 2), some (.int a), some (.int t), x4] (hp4 A B P)) _ = _
    rw [hp_turn (ht t (by simp)) (by omega) (by omega)]
    show forL _ _ _ (r.length + 1) (a + 1) _ _ = _
    rw [ih, eA, eB, List.append_assoc, List.append_assoc]
end FL

namespace FL
open PySem PySem.Spec PyProof.Rows L2 SG PU
theorem ml_le {ss : List Nat} (h : Ok7 ss) : (ml 1 0 (prod ss)).length ≤ 64 ∧ (ml (-1) 0 (prod ss)).length ≤ 64 := by
  have a := ml_len (prod ss) 0
  have b := l1_le h
  have c := same_len ss h.l1
  omega
theorem term_le {ss : List Nat} (h : Ok7 ss) : ∀ t ∈ prod ss, t.natAbs ≤ 128 := fun t ht => by
  have a := abs_le (prod ss) t ht
  have b := l1_le h
  omega
def plD (ss : List Nat) : D := .tup (dI_ (ml 1 0 (prod ss)))
def miD (ss : List Nat) : D := .tup (dI_ (ml (-1) 0 (prod ss)))
theorem maxL2 (n m : Int) (h : n = m) : maxL [n, m] = n := by
  subst h
  have := (maxL_spec (ns := [n, n]) (by simp)).1
  simpa using this
theorem max_at {A B P : List Int} {x0 y2 y3 : Option D} (hAB : A.length = B.length) :
    xTest (xOp dGt (xOnNew gMax (xLc (xSrc (xVar 1)) [4] (gSet 4) tYesF (xB gLen (xCons (xVar 4) xNil)))) (xC (.int (40)))) [x0, some (.ref 2), y2, y3, none] (hp4 A B P) = .ok (decide (40 < A.length)) (hp4 A B P) := by
  have q := xLc_live (src := xSrc (xVar 1)) (vs := [4]) (G := gSet 4) (f := xB gLen (xCons (xVar 4) xNil)) (env := [x0, some (.ref 2), y2, y3, none]) (h := hp4 A B P) (h1 := hp4 A B P) (i := 2) (ds := [.ref 0, .ref 1]) (φ := fun d => match d with | .ref 0 => .int A.length | _ => .int B.length) (srcl_of (i := 2) (ds := [.ref 0, .ref 1]) rfl rfl) rfl (fun d hd => by
    have : d = .ref 0 ∨ d = .ref 1 := by simpa using hd
    rcases this with rfl | rfl
    · refine ⟨[x0, some (.ref 2), y2, y3, some (.ref 0)], rfl, ?_⟩
      show Res.ok (D.int ((dI_ A).length : Nat)) _ = _
      rw [dI_len]
      rfl
    · refine ⟨[x0, some (.ref 2), y2, y3, some (.ref 1)], rfl, ?_⟩
      show Res.ok (D.int ((dI_ B).length : Nat)) _ = _
      rw [dI_len]
      rfl) (by decide)
  have e : xOnNew gMax (xLc (xSrc (xVar 1)) [4] (gSet 4) tYesF (xB gLen (xCons (xVar 4) xNil))) [x0, some (.ref 2), y2, y3, none] (hp4 A B P) = .ok (.int A.length) (hp4 A B P) := by
    refine (xOnNew_of q).trans ?_
    show Res.ok (D.int (maxL [(A.length : Int), (B.length : Int)])) _ = _
    rw [maxL2 _ _ (by omega)]
  have g := xOp_of (g := dGt) (fb := xC (.int 40)) (e := .int 40) e rfl
  have g2 : dGt (.int A.length) (.int 40) (hp4 A B P) = .ok (.bl (decide ((40 : Int) < A.length))) (hp4 A B P) := rfl
  rw [xTest_of (g.trans g2)]
  congr 1
  exact decide_eq_decide.mpr (by omega)
theorem heaps_run {ss : List Nat} (h : Ok7 ss) : ∃ y2 y3, b_pure_heaps [some (.tup (stp ss)), none, none, none, none] [] = (if 40 < (ml 1 0 (prod ss)).length then .exc "NoNumbers" [some (.tup (stp ss)), some (.ref 2), y2, y3, none] (hp4 (ml 1 0 (prod ss)) (ml (-1) 0 (prod ss)) (prod ss)) else .rt (.tup [plD ss, miD ss]) (hp4 (ml 1 0 (prod ss)) (ml (-1) 0 (prod ss)) (prod ss))) := by
  have hsum := h.sum
  have ml1 := ml_le h
  obtain ⟨y2, y3, q⟩ := hp_loop (x0 := some (.tup (stp ss))) (x4 := none) (P := prod ss) (prod ss) 0 [] [] none none rfl (fun t ht => by have := term_le h t ht; omega) (by show 0 + _ ≤ _; omega) (by show 0 + _ ≤ _; omega)
  rw [List.nil_append, List.nil_append] at q
  refine ⟨y2, y3, ?_⟩
  unfold b_pure_heaps
  rw [seq_nx (sDrop_of (d := .non) (h1 := []) ((xCall_of (ds := [.tup (stp ss)]) rfl).trans (chk_ok h [])))]
  rw [seq_nx (f := sAsg (xNew (xLst (xCons (xNew (xLst xNil)) (xCons (xNew (xLst xNil)) xNil)))) (gSet 1)) (e := [some (.tup (stp ss)), some (.ref 2), none, none, none]) (h' := [.lst [], .lst [], .lst [.ref 0, .ref 1]]) rfl]
  have r := raw_call (fA := xCons (xVar 0) xNil) (env := [some (.tup (stp ss)), some (.ref 2), none, none, none]) (h := [.lst [], .lst [], .lst [.ref 0, .ref 1]]) (ss := ss) (by omega) rfl
  have s := enum_live (xCons_of r (show xNil _ _ = .ok [] _ from rfl)) (app_last _ _)
  have f : sFor (xEnum (xCons (xCall g_raw_pure (xCons (xVar 0) xNil)) xNil)) G23 hpBody [some (.tup (stp ss)), some (.ref 2), none, none, none] [.lst [], .lst [], .lst [.ref 0, .ref 1]] = .nx [some (.tup (stp ss)), some (.ref 2), y2, y3, none] (hp4 (ml 1 0 (prod ss)) (ml (-1) 0 (prod ss)) (prod ss)) := by
    unfold sFor
    rw [s]
    show forL (.enum (.live 3)) G23 hpBody ((((View.live 3).at (hp4 [] [] (prod ss))).getD []).length + 1) 0 _ (hp4 [] [] (prod ss)) = _
    rw [view_live (show (hp4 [] [] (prod ss))[3]? = some (.lst (dI_ (prod ss))) from rfl), Option.getD_some, dI_len]
    exact q
  rw [seq_nx f]
  have mx := max_at (P := prod ss) (x0 := some (.tup (stp ss))) (y2 := y2) (y3 := y3) (same_len ss h.l1)
  by_cases c : 40 < (ml 1 0 (prod ss)).length
  · rw [if_pos c]
    rw [decide_eq_true c] at mx
    exact seq_ex ((sIf_t mx).trans rfl)
  · rw [if_neg c]
    rw [decide_eq_false c] at mx
    refine (seq_nx (e := [some (.tup (stp ss)), some (.ref 2), y2, y3, none]) (h' := hp4 (ml 1 0 (prod ss)) (ml (-1) 0 (prod ss)) (prod ss)) ((sIf_f mx).trans rfl)).trans ?_
    have q := xLc_live (src := xSrc (xVar 1)) (vs := [4]) (G := gSet 4) (f := xB gTup (xCons (xVar 4) xNil)) (env := [some (.tup (stp ss)), some (.ref 2), y2, y3, none]) (h := hp4 (ml 1 0 (prod ss)) (ml (-1) 0 (prod ss)) (prod ss)) (h1 := hp4 (ml 1 0 (prod ss)) (ml (-1) 0 (prod ss)) (prod ss)) (i := 2) (ds := [.ref 0, .ref 1]) (φ := fun d => match d with | .ref 0 => plD ss | _ => miD ss) (srcl_of (i := 2) (ds := [.ref 0, .ref 1]) rfl rfl) rfl (fun d hd => by
      have : d = .ref 0 ∨ d = .ref 1 := by simpa using hd
      rcases this with rfl | rfl
      · exact ⟨[some (.tup (stp ss)), some (.ref 2), y2, y3, some (.ref 0)], rfl, rfl⟩
      · exact ⟨[some (.tup (stp ss)), some (.ref 2), y2, y3, some (.ref 1)], rfl, rfl⟩) (by decide)
    exact sRet_of ((xOnNew_of q).trans rfl)
theorem pures2 (ss : List Nat) : D.pures [plD ss, miD ss] = true := by
  show (D.pures (dI_ (ml 1 0 (prod ss))) && (D.pures (dI_ (ml (-1) 0 (prod ss))) && true)) = true
  rw [pures_ints, pures_ints]
  rfl
theorem heaps_call {ss : List Nat} (h : Ok7 ss) (c : ¬ 40 < (ml 1 0 (prod ss)).length) (hs : Hs) : callG g_pure_heaps [.tup (stp ss)] hs = .ok (.tup [plD ss, miD ss]) hs := by
  obtain ⟨y2, y3, e⟩ := heaps_run h
  rw [if_neg c] at e
  refine callG_val (h' := hp4 (ml 1 0 (prod ss)) (ml (-1) 0 (prod ss)) (prod ss)) ?_ (pures1 ss) (pures2 ss)
  show retOf (b_pure_heaps [some (.tup (stp ss)), none, none, none, none] []) = _
  rw [e]
  rfl
theorem heaps_exc {ss : List Nat} (h : Ok7 ss) (c : 40 < (ml 1 0 (prod ss)).length) (hs : Hs) : callG g_pure_heaps [.tup (stp ss)] hs = .exc "NoNumbers" hs := by
  obtain ⟨y2, y3, e⟩ := heaps_run h
  rw [if_pos c] at e
  unfold callG
  rw [if_pos (pures1 ss)]
  have g : g_pure_heaps [.tup (stp ss)] [] = .exc "NoNumbers" (hp4 (ml 1 0 (prod ss)) (ml (-1) 0 (prod ss)) (prod ss)) := by
    show retOf (b_pure_heaps [some (.tup (stp ss)), none, none, none, none] []) = _
    rw [e]
    rfl
  rw [g]
  rfl
theorem refused_ok {ss : List Nat} (h : Ok7 ss) (c : 40 < (ml 1 0 (prod ss)).length) (hs : Hs) : callG g__law_is_refused [.tup (stp ss)] hs = .ok (.bl true) hs := by
  refine callG_val (h' := []) ?_ (pures1 ss) rfl
  show retOf (b__law_is_refused [some (.tup (stp ss)), none] []) = _
  unfold b__law_is_refused
  have d : sDrop (xCall g_pure_heaps (xCons (xVar 0) xNil)) [some (.tup (stp ss)), none] [] = .exc "NoNumbers" [some (.tup (stp ss)), none] [] := by
    have e : xCall g_pure_heaps (xCons (xVar 0) xNil) [some (.tup (stp ss)), none] [] = .exc "NoNumbers" [] := (xCall_of (ds := [.tup (stp ss)]) rfl).trans (heaps_exc h c [])
    unfold sDrop
    rw [e]
    rfl
  have t : sTryIs 1 (sDrop (xCall g_pure_heaps (xCons (xVar 0) xNil))) "NoNumbers" [some (.tup (stp ss)), none] [] = .rt (.bl true) [] := by
    unfold sTryIs
    rw [d]
    rfl
  rw [seq_rt t]
  rfl
/-! ### the law's own places -/
def enF : Nat → List D → List D
  | _, [] => []
  | i, d :: r => .tup [.int i, d] :: enF (i + 1) r
theorem rangeD_succ (lo : Int) (n : Nat) : rangeD lo (n + 1) = .int lo :: rangeD (lo + 1) n := by
  unfold rangeD
  rw [List.range_succ_eq_map, List.map_cons, List.map_map]
  have e : (D.int (lo + ((0 : Nat) : Int))) = .int lo := by rw [Int.natCast_zero, Int.add_zero]
  rw [e]
  congr 1
  apply List.map_congr_left
  intro k _
  show D.int (lo + ((k + 1 : Nat) : Int)) = .int (lo + 1 + k)
  congr 1
  omega
theorem prD_en : ∀ (ds : List D) (i : Nat), prD (rangeD i ds.length) ds = enF i ds
  | [], i => rfl
  | d :: r, i => by
    show prD (rangeD i (r.length + 1)) (d :: r) = _
    rw [rangeD_succ]
    have e : (i : Int) + 1 = ((i + 1 : Nat) : Int) := by omega
    rw [e]
    show D.tup [.int i, d] :: prD (rangeD ((i + 1 : Nat) : Int) r.length) r = _
    rw [prD_en r (i + 1)]
    rfl
theorem enD_en (ds : List D) : enD ds = enF 0 ds := prD_en ds 0
abbrev plBody : XS := sAsg (xNew (xCatVN (xVar 2) (xRepN (xLst (xCons (xVar 3) xNil)) (xB gMax2 (xCons (xC (.int (0))) (xCons (xOp dMulI (xVar 4) (xVar 1)) xNil)))))) (gSet 2)
theorem pl_turn {x0 : Option D} {σ : Int} (hσ : σ.natAbs ≤ 1) {i a : Nat} {t : Int} {h : Hs} {acc : List Int} (hi : h[i]? = some (.lst (dI_ acc))) (ha : acc.length ≤ 5000) (ht : t.natAbs ≤ 1000) :
    plBody [x0, some (.int σ), some (.ref i), some (.int a), some (.int t)] h = .nx [x0, some (.int σ), some (.ref h.length), some (.int a), some (.int t)] (h ++ [.lst (dI_ (acc ++ List.replicate (t * σ).toNat (a : Int)))]) := by
  have hts : (t * σ).natAbs ≤ 1000 := by
    rw [Int.natAbs_mul]
    have : t.natAbs * σ.natAbs ≤ 1000 * 1 := Nat.mul_le_mul ht hσ
    omega
  have m : xOp dMulI (xVar 4) (xVar 1) [x0, some (.int σ), some (.ref i), some (.int a), some (.int t)] h = .ok (.int (t * σ)) h := by
    refine (xOp_of (d := .int t) (e := .int σ) rfl rfl).trans ?_
    have f : mulFits t σ = true := by
      unfold mulFits
      rw [decide_eq_true (by omega), decide_eq_true (by omega)]
      rfl
    unfold dMulI dI
    dsimp only
    rw [if_pos f]
  have g : xB gMax2 (xCons (xC (.int (0))) (xCons (xOp dMulI (xVar 4) (xVar 1)) xNil)) [x0, some (.int σ), some (.ref i), some (.int a), some (.int t)] h = .ok (.int (if t * σ > 0 then t * σ else 0)) h :=
    (xB_of (ds := [.int 0, .int (t * σ)]) (xCons_of (show xC (.int 0) _ _ = .ok (.int 0) _ from rfl) (xCons_of m rfl))).trans rfl
  generalize t * σ = z at *
  have r : xRepN (xLst (xCons (xVar 3) xNil)) (xB gMax2 (xCons (xC (.int (0))) (xCons (xOp dMulI (xVar 4) (xVar 1)) xNil))) [x0, some (.int σ), some (.ref i), some (.int a), some (.int t)] h = .ok (dI_ (List.replicate z.toNat (a : Int))) h := by
    rw [repN_of (ds := [.int a]) (h1 := h) rfl g (by split <;> omega) (by split <;> omega) (by show 1 * _ ≤ _; split <;> omega)]
    have : (if z > 0 then z else 0).toNat = z.toNat := by split <;> omega
    rw [this, rep_flat1]
  have c := catVN_of (fa := xVar 2) (ds := dI_ acc) (i := i) (env := [x0, some (.int σ), some (.ref i), some (.int a), some (.int t)]) (h := h) (h1 := h) rfl r hi (by rw [dI_len, dI_len, List.length_replicate]; omega)
  rw [dI_app] at c
  exact (sAsg_of (i := 2) (xNew_of c)).trans rfl
theorem pl_loop {x0 : Option D} {σ : Int} (hσ : σ.natAbs ≤ 1) : ∀ (P : List Int) (a : Nat) (acc : List Int) (h : Hs) (i : Nat) (x3 x4 : Option D), h[i]? = some (.lst (dI_ acc)) → (∀ t ∈ P, t.natAbs ≤ 1000) → acc.length + (ml σ a P).length ≤ 5000 →
    ∃ h' i' y3 y4, forD (gTuple 2 (gsCons (gSet 3) (gsCons (gSet 4) gsNil))) plBody (enF a (dI_ P)) [x0, some (.int σ), some (.ref i), x3, x4] h = .nx [x0, some (.int σ), some (.ref i'), y3, y4] h' ∧ h'[i']? = some (.lst (dI_ (acc ++ ml σ a P)))
  | [], a, acc, h, i, x3, x4, hi, _, _ => ⟨h, i, x3, x4, rfl, by
    show h[i]? = some (.lst (dI_ (acc ++ [])))
    rw [List.append_nil]
    exact hi⟩
  | t :: r, a, acc, h, i, x3, x4, hi, ht, hl => by
    have eM : ml σ a (t :: r) = List.replicate (t * σ).toNat (a : Int) ++ ml σ (a + 1) r := rfl
    rw [eM, List.length_append, List.length_replicate] at hl
    obtain ⟨h', i', y3, y4, q1, q2⟩ := pl_loop (x0 := x0) hσ r (a + 1) (acc ++ List.replicate (t * σ).toNat (a : Int)) (h ++ [.lst (dI_ (acc ++ List.replicate (t * σ).toNat (a : Int)))]) h.length (some (.int a)) (some (.int t)) (app_last h _) (fun z hz => ht z (List.mem_cons_of_mem _ hz)) (by rw [List.length_append, List.length_replicate]; omega)
    refine ⟨h', i', y3, y4, ?_, by rw [eM, ← List.append_assoc]; exact q2⟩
    show afterB (plBody [x0, some (.int σ), some (.ref i), some (.int a), some (.int t)] h) (forD _ _ (enF (a + 1) (dI_ r))) = _
    rw [pl_turn hσ hi (by omega) (ht t (by simp))]
    exact q1
theorem places_call {P : List Int} {σ : Int} (hσ : σ.natAbs ≤ 1) (ht : ∀ t ∈ P, t.natAbs ≤ 1000) (hl : (ml σ 0 P).length ≤ 5000) (hs : Hs) : callG g__law_places [.tup (dI_ P), .int σ] hs = .ok (.tup (dI_ (ml σ 0 P))) hs := by
  obtain ⟨h', i', y3, y4, q1, q2⟩ := pl_loop (x0 := some (.tup (dI_ P))) hσ P 0 [] [.lst []] 0 none none rfl ht (by show 0 + _ ≤ _; omega)
  rw [List.nil_append] at q2
  refine callG_val (h' := h') ?_ (by show (D.pures (dI_ P) && true) = true; rw [pures_ints]; rfl) (pures_ints _)
  show retOf (b__law_places [some (.tup (dI_ P)), some (.int σ), none, none, none] []) = _
  unfold b__law_places
  refine (congrArg retOf (seq_nx (f := sAsg (xNew (xLst xNil)) (gSet 2)) (e := [some (.tup (dI_ P)), some (.int σ), some (.ref 0), none, none]) (h' := [.lst []]) rfl)).trans ?_
  have src : xEnum (xCons (xVar 0) xNil) [some (.tup (dI_ P)), some (.int σ), some (.ref 0), none, none] [.lst []] = .ok (.one (.con (enF 0 (dI_ P)))) [.lst []] := by
    show Res.ok (Src.one (.con (enD (dI_ P)))) _ = _
    rw [enD_en]
  refine (congrArg retOf (seq_nx ((sFor_of src).trans q1))).trans ?_
  have v : xCons (xVar 2) xNil [some (.tup (dI_ P)), some (.int σ), some (.ref i'), y3, y4] h' = .ok [.ref i'] h' := rfl
  rw [sRet_of ((xB_of (op := gTup) v).trans (tupC_of q2))]
  rfl
end FL

namespace FL
open PySem PySem.Spec PyProof.Rows L2 SG PU
theorem pow_big {x : Int} (h0 : 0 ≤ x) (h1 : x ≤ 1024) (k : Nat) (hk : k ≤ 1000) : Big (x ^ k) := by
  obtain ⟨n, rfl⟩ := Int.eq_ofNat_of_zero_le h0
  have hn : n ≤ 1024 := by omega
  have e : ((n : Int) ^ k) = ((n ^ k : Nat) : Int) := by simp
  refine ⟨by rw [e]; omega, ?_⟩
  rw [e]
  show (n ^ k).log2 ≤ _
  by_cases z : n ^ k = 0
  · rw [z]; decide
  · have : n ^ k ≤ 2 ^ (10 * k) := by
      rw [Nat.pow_mul]
      exact Nat.pow_le_pow_left hn k
    have h2 : (n ^ k).log2 < 10 * k + 1 := (Nat.log2_lt z).mpr (Nat.lt_of_le_of_lt this (Nat.pow_lt_pow_right (by decide) (by omega)))
    omega
theorem pow_loop {x : Int} (h0 : 0 ≤ x) (h1 : x ≤ 1024) {x1 : Option D} : ∀ (ts : List D) (i : Nat) (x3 : Option D), i + ts.length ≤ 1000 → ∃ y, forD (gSet 3) (sAsg (xOp dMulI (xVar 2) (xVar 0)) (gSet 2)) ts [some (.int x), x1, some (.int (x ^ i)), x3] [] = .nx [some (.int x), x1, some (.int (x ^ (i + ts.length))), y] []
  | [], i, x3, hi => ⟨x3, rfl⟩
  | t :: ts, i, x3, hi => by
    rw [List.length_cons] at hi
    obtain ⟨y, ih⟩ := pow_loop h0 h1 (x1 := x1) ts (i + 1) (some t) (by omega)
    refine ⟨y, ?_⟩
    have f : mulFits (x ^ i) x = true := (pow_big h0 h1 i (by omega)).fits (.of h0 (by omega))
    have e : sAsg (xOp dMulI (xVar 2) (xVar 0)) (gSet 2) [some (.int x), x1, some (.int (x ^ i)), some t] [] = .nx [some (.int x), x1, some (.int (x ^ (i + 1))), some t] [] := by
      refine (sAsg_of (d := .int (x ^ i * x)) (h1 := []) ?_).trans ?_
      · refine (xOp_of (d := .int (x ^ i)) (e := .int x) rfl rfl).trans ?_
        unfold dMulI dI
        dsimp only
        rw [if_pos f]
      · rw [Int.pow_succ]
        rfl
    show afterB (sAsg (xOp dMulI (xVar 2) (xVar 0)) (gSet 2) [some (.int x), x1, some (.int (x ^ i)), some t] []) (forD _ _ ts) = _
    rw [e]
    show forD _ _ ts _ _ = _
    rw [ih]
    have : i + 1 + ts.length = i + (ts.length + 1) := by omega
    rw [this]
    rfl
theorem okR_of {i : Int} (h0 : 0 ≤ i) (h1 : i ≤ 1000000) : okR i = true := by
  unfold okR
  rw [Bool.and_eq_true]
  exact ⟨decide_eq_true (by omega), decide_eq_true h1⟩
theorem rng_src {f : XE} {env : Sl} {h : Hs} {n : Nat} (q : f env h = .ok (.int n) h) (hn : n ≤ 1000000) : xRng1 (xCons f xNil) env h = .ok (.one (.con (rangeD 0 n))) h := by
  unfold xRng1
  rw [xCons_of q rfl]
  show (if okR n = true then Res.ok (Src.one (.con (rangeD 0 (n : Int).toNat))) h else .stuck) = _
  rw [if_pos (okR_of (by omega) (by omega))]
  rfl
theorem rangeD_len (lo : Int) (n : Nat) : (rangeD lo n).length = n := by
  unfold rangeD
  rw [List.length_map, List.length_range]
theorem power_ok {x : Int} (h0 : 0 ≤ x) (h1 : x ≤ 1024) {k : Nat} (hk : k ≤ 1000) : g__law_power [.int x, .int k] [] = .ok (.int (x ^ k)) [] := by
  show retOf (b__law_power [some (.int x), some (.int k), none, none] []) = _
  unfold b__law_power
  refine (congrArg retOf (seq_nx (f := sAsg (xC (.int 1)) (gSet 2)) (e := [some (.int x), some (.int k), some (.int 1), none]) (h' := []) rfl)).trans ?_
  obtain ⟨y, e⟩ := pow_loop h0 h1 (x1 := some (.int k)) (rangeD 0 k) 0 none (by rw [rangeD_len]; omega)
  rw [rangeD_len, Nat.zero_add, Int.pow_zero] at e
  refine (congrArg retOf (seq_nx ((sFor_of (rng_src (n := k) rfl (by omega))).trans e))).trans ?_
  rfl
theorem sum_ok {l : List Int} (hl : ∀ x ∈ l, 0 ≤ x ∧ x ≤ 1024) (hn : l.length ≤ 1000) {k : Nat} (hk : k ≤ 1000) : g__law_sum [.tup (dI_ l), .int k] [] = .ok (.int (psum k l)) [] := by
  show retOf (b__law_sum [some (.tup (dI_ l)), some (.int k), none] []) = _
  unfold b__law_sum
  have e : xLc (xSrc (xVar 0)) [2] (gSet 2) tYesF (xCall g__law_power (xCons (xVar 2) (xCons (xVar 1) xNil))) [some (.tup (dI_ l)), some (.int k), none] [] = .ok (dI_ (l.map (· ^ k))) [] := by
    have q := lcD_map (G := gSet 2) (f := xCall g__law_power (xCons (xVar 2) (xCons (xVar 1) xNil))) (env := wipeD [some (.tup (dI_ l)), some (.int k), none] [2]) (φ := fun d => match d with | .int x => .int (x ^ k) | d => d) (h := []) (dI_ l) 0 (fun d hd => by
      obtain ⟨x, hx, rfl⟩ := List.mem_map.mp hd
      have hb := hl x hx
      exact ⟨[some (.tup (dI_ l)), some (.int k), some (.int x)], rfl, (xCall_of (ds := [.int x, .int k]) rfl).trans (callG_val (power_ok hb.1 hb.2 hk) rfl rfl)⟩) (by rw [List.length_map]; omega)
    have e2 : ((dI_ l).map fun d => match d with | .int x => D.int (x ^ k) | d => d) = dI_ (l.map (· ^ k)) := by
      show List.map _ (List.map D.int l) = List.map D.int (List.map _ l)
      rw [List.map_map, List.map_map]
      rfl
    rw [e2] at q
    exact xLc_of (ds := dI_ l) (h1 := []) rfl q
  have e3 : xOnNew gSum (xLc (xSrc (xVar 0)) [2] (gSet 2) tYesF (xCall g__law_power (xCons (xVar 2) (xCons (xVar 1) xNil)))) [some (.tup (dI_ l)), some (.int k), none] [] = .ok (.int (psum k l)) [] := by
    refine (xOnNew_of e).trans ?_
    unfold gSum
    rw [ints_ints]
    rfl
  rw [sRet_of e3]
  rfl

theorem dNe_bl {x y : Bool} {h : Hs} : dNe (.bl x) (.bl y) h = .ok (.bl (!(x == y))) h := rfl
theorem range_mem {n : Nat} {d : D} (h : d ∈ rangeD 0 n) : ∃ k : Nat, k < n ∧ d = .int k := by
  unfold rangeD at h
  obtain ⟨k, hk, rfl⟩ := List.mem_map.mp h
  refine ⟨k, List.mem_range.mp hk, ?_⟩
  congr 1
  omega
theorem prod_log {ss : List Nat} (h : Ok7 ss) : ∀ z ∈ prod ss, z.natAbs.log2 < 1920 := fun z hz => small_log (k := 7) (term_le h z hz) (by decide)
theorem ml_log {ss : List Nat} (h : Ok7 ss) (σ : Int) : ∀ z ∈ ml σ 0 (prod ss), z.natAbs.log2 < 1920 := fun z hz => by
  have a := ml_mem σ (prod ss) 0 z hz
  have b := prod_len h
  exact small_log (k := 9) (by simp at a; omega) (by decide)
theorem two_repr {ss : List Nat} (h : Ok7 ss) (hs : Hs) : ∃ x, gReprL [.tup (dI_ (prod ss)), .int (l1 (prod ss))] hs = .ok (.str x) hs := by
  have pl := prod_len h
  have b := l1_le h
  have z : 0 ≤ l1 (prod ss) := by
    have := ml_len (prod ss) 0
    omega
  refine ⟨_, gReprL_of (p := .list [.tuple ((prod ss).map PyData.int), .int (l1 (prod ss))]) ?_ ?_⟩
  · show (treesBy (D.tree hs 63) [.tup (dI_ (prod ss)), .int (l1 (prod ss))]).map PyData.list = _
    unfold treesBy treesBy
    rw [tree_tup hs 61]
    rfl
  · have a := (Fines.cons (fine_ints _ 0 (prod_log h)).tuple (Fines.cons (Fine.int (z := l1 (prod ss)) (small_log (k := 7) (by omega) (by decide)) 1) (Fines.nil 1))).list
    exact a.repr (by decide) (by omega)
theorem heaps_repr {ss : List Nat} (h : Ok7 ss) (hs : Hs) : ∃ x, gRepr [.tup [plD ss, miD ss]] hs = .ok (.str x) hs := by
  have m := ml_le h
  refine ⟨_, gRepr_of (p := .tuple [.tuple ((ml 1 0 (prod ss)).map PyData.int), .tuple ((ml (-1) 0 (prod ss)).map PyData.int)]) ?_ ?_⟩
  · show (treesBy (D.tree hs 63) [.tup (dI_ (ml 1 0 (prod ss))), .tup (dI_ (ml (-1) 0 (prod ss)))]).map PyData.tuple = _
    unfold treesBy treesBy
    rw [tree_tup hs 61, tree_tup hs 61]
    rfl
  · have a := (Fines.cons (fine_ints _ 0 (ml_log h 1)).tuple (Fines.cons (fine_ints _ 0 (ml_log h (-1))).tuple (Fines.nil 1))).tuple
    exact a.repr (by decide) (by omega)
theorem callSum {ss : List Nat} (h : Ok7 ss) (σ : Int) (hl : (ml σ 0 (prod ss)).length ≤ 64) {k : Nat} (hk : k ≤ 1000) (hs : Hs) : callG g__law_sum [.tup (dI_ (ml σ 0 (prod ss))), .int k] hs = .ok (.int (psum k (ml σ 0 (prod ss)))) hs := by
  refine callG_val (sum_ok (fun x hx => ?_) (by omega) hk) ?_ rfl
  · have := ml_mem σ (prod ss) 0 x hx
    have := prod_len h
    simp at *
    omega
  · show (D.pures (dI_ (ml σ 0 (prod ss))) && true) = true
    rw [pures_ints]
    rfl
theorem right_ok {ss : List Nat} (h : Ok7 ss) (hs : Hs) : callG g__law_is_right [.tup (stp ss)] hs = .ok (.bl true) hs := by
  have hsum := h.sum
  have l1' := h.l1
  have l7 := h.l7
  have pl := prod_len h
  have mle := ml_le h
  have l1b := l1_le h
  have sne : ∀ s ∈ ss, s ≠ 0 := fun s hs => by have := h.bd s hs; omega
  obtain ⟨x, ex⟩ := two_repr h []
  obtain ⟨y, ey⟩ := heaps_repr h []
  obtain ⟨hp, ep⟩ := lawpure_ok (ss := ss) (by omega)
  refine callG_val (h' := []) ?_ (pures1 ss) rfl
  have s1 : sAsg (xCall g__law_pure (xCons (xVar 0) xNil)) (gSet 1) [some (.tup (stp ss)), none, none, none, none, none, none] [] = .nx [some (.tup (stp ss)), some (.tup (dI_ (prod ss))), none, none, none, none, none] [] :=
    (sAsg_of ((xCall_of (ds := [.tup (stp ss)]) rfl).trans (callG_val ep (pures1 ss) (pures_ints _)))).trans rfl
  have s2 : sAsg (xOnNew gSum (xLc (xSrc (xVar 1)) [3] (gSet 3) tYesF (xB gAbs (xCons (xVar 3) xNil)))) (gSet 2) [some (.tup (stp ss)), some (.tup (dI_ (prod ss))), none, none, none, none, none] [] = .nx [some (.tup (stp ss)), some (.tup (dI_ (prod ss))), some (.int (l1 (prod ss))), none, none, none, none] [] := by
    have q := lcD_map (G := gSet 3) (f := xB gAbs (xCons (xVar 3) xNil)) (env := wipeD [some (.tup (stp ss)), some (.tup (dI_ (prod ss))), none, none, none, none, none] [3]) (φ := fun d => match d with | .int z => .int (if z < 0 then -z else z) | d => d) (h := []) (dI_ (prod ss)) 0 (fun d hd => by
      obtain ⟨z, hz, rfl⟩ := List.mem_map.mp hd
      exact ⟨[some (.tup (stp ss)), some (.tup (dI_ (prod ss))), none, some (.int z), none, none, none], rfl, rfl⟩) (by rw [dI_len]; omega)
    have e2 : (dI_ (prod ss)).map (fun d => match d with | .int z => D.int (if z < 0 then -z else z) | d => d) = dI_ ((prod ss).map fun a => if a < 0 then -a else a) := by
      show List.map _ (List.map _ _) = List.map _ (List.map _ _)
      rw [List.map_map, List.map_map]
      rfl
    rw [e2] at q
    refine (sAsg_of (d := .int (l1 (prod ss))) (h1 := []) ((xOnNew_of (xLc_of (ds := dI_ (prod ss)) (h1 := []) rfl q)).trans ?_)).trans rfl
    unfold gSum
    rw [ints_ints]
    rfl
  have s3 : sIf (xTest (xOp dNe (xOnNew gReprL (xLst (xCons (xCall g_pure (xCons (xVar 0) xNil)) (xCons (xCall g_pure_size (xCons (xVar 0) xNil)) xNil)))) (xOnNew gReprL (xLst (xCons (xVar 1) (xCons (xVar 2) xNil)))))) (sRet (xC (.bl false))) sNext [some (.tup (stp ss)), some (.tup (dI_ (prod ss))), some (.int (l1 (prod ss))), none, none, none, none] [] =
      .nx [some (.tup (stp ss)), some (.tup (dI_ (prod ss))), some (.int (l1 (prod ss))), none, none, none, none] [] := by
    have b1 : xOnNew gReprL (xLst (xCons (xCall g_pure (xCons (xVar 0) xNil)) (xCons (xCall g_pure_size (xCons (xVar 0) xNil)) xNil))) [some (.tup (stp ss)), some (.tup (dI_ (prod ss))), some (.int (l1 (prod ss))), none, none, none, none] [] = .ok (.str x) [] :=
      (xOnNew_of (xLst_of (xCons_of ((xCall_of (ds := [.tup (stp ss)]) rfl).trans (pure_call h [])) (xCons_of ((xCall_of (ds := [.tup (stp ss)]) rfl).trans (psize_call h [])) rfl)) (by simp))).trans ex
    have b2 : xOnNew gReprL (xLst (xCons (xVar 1) (xCons (xVar 2) xNil))) [some (.tup (stp ss)), some (.tup (dI_ (prod ss))), some (.int (l1 (prod ss))), none, none, none, none] [] = .ok (.str x) [] :=
      (xOnNew_of (xLst_of (ds := [.tup (dI_ (prod ss)), .int (l1 (prod ss))]) rfl (by simp))).trans ex
    exact (sIf_f (xTest_of ((xOp_of b1 b2).trans dNe_str))).trans rfl
  have s4 : sIf (xTest (xOp dLt (xVar 2) (xOp dMulI (xC (.int (2))) (xB gLen (xCons (xVar 0) xNil))))) (sRet (xC (.bl false))) sNext [some (.tup (stp ss)), some (.tup (dI_ (prod ss))), some (.int (l1 (prod ss))), none, none, none, none] [] =
      .nx [some (.tup (stp ss)), some (.tup (dI_ (prod ss))), some (.int (l1 (prod ss))), none, none, none, none] [] := by
    have ge := size_ge ss l1' sne
    have m : xOp dMulI (xC (.int (2))) (xB gLen (xCons (xVar 0) xNil)) [some (.tup (stp ss)), some (.tup (dI_ (prod ss))), some (.int (l1 (prod ss))), none, none, none, none] [] = .ok (.int (2 * ((stp ss).length : Nat))) [] := by
      refine (xOp_of (d := .int 2) (e := .int ((stp ss).length : Nat)) rfl rfl).trans ?_
      have f : mulFits 2 ((stp ss).length : Nat) = true := by
        unfold mulFits
        rw [decide_eq_true (by decide), decide_eq_true (by rw [stp_len]; omega)]
        rfl
      unfold dMulI dI
      dsimp only
      rw [if_pos f]
    have g : dLt (.int (l1 (prod ss))) (.int (2 * ((stp ss).length : Nat))) [] = .ok (.bl false) [] := by
      show Res.ok (D.bl (decide (l1 (prod ss) < 2 * (((stp ss).length : Nat) : Int)))) [] = _
      rw [decide_eq_false (by rw [stp_len]; omega)]
    exact (sIf_f (xTest_of ((xOp_of (d := .int (l1 (prod ss))) rfl m).trans g))).trans rfl
  have tb : ∀ t ∈ prod ss, t.natAbs ≤ 1000 := fun t ht => by have := term_le h t ht; omega
  have s5 : sAsg (xTup (xCons (xCall g__law_places (xCons (xVar 1) (xCons (xC (.int (1))) xNil))) (xCons (xCall g__law_places (xCons (xVar 1) (xCons (xUn dNeg (xC (.int (1)))) xNil))) xNil))) (gSet 4) [some (.tup (stp ss)), some (.tup (dI_ (prod ss))), some (.int (l1 (prod ss))), none, none, none, none] [] =
      .nx [some (.tup (stp ss)), some (.tup (dI_ (prod ss))), some (.int (l1 (prod ss))), none, some (.tup [plD ss, miD ss]), none, none] [] := by
    have c1 := places_call (P := prod ss) (σ := 1) (by decide) tb (by omega) []
    have c2 := places_call (P := prod ss) (σ := -1) (by decide) tb (by omega) []
    exact (sAsg_of (xTup_of (ds := [plD ss, miD ss]) (xCons_of ((xCall_of (ds := [.tup (dI_ (prod ss)), .int 1]) rfl).trans c1) (xCons_of ((xCall_of (ds := [.tup (dI_ (prod ss)), .int (-1)]) rfl).trans c2) rfl)) (by simp))).trans rfl
  have mx : xTest (xOp dGt (xOnNew gMax (xLc (xSrc (xVar 4)) [5] (gSet 5) tYesF (xB gLen (xCons (xVar 5) xNil)))) (xC (.int (40)))) [some (.tup (stp ss)), some (.tup (dI_ (prod ss))), some (.int (l1 (prod ss))), none, some (.tup [plD ss, miD ss]), none, none] [] = .ok (decide (40 < (ml 1 0 (prod ss)).length)) [] := by
    have q := lcD_map (G := gSet 5) (f := xB gLen (xCons (xVar 5) xNil)) (env := wipeD [some (.tup (stp ss)), some (.tup (dI_ (prod ss))), some (.int (l1 (prod ss))), none, some (.tup [plD ss, miD ss]), none, none] [5]) (φ := fun d => match d with | .tup ds => .int (ds.length : Nat) | d => d) (h := []) [plD ss, miD ss] 0 (fun d hd => by
      have : d = plD ss ∨ d = miD ss := by simpa using hd
      rcases this with rfl | rfl
      · exact ⟨[some (.tup (stp ss)), some (.tup (dI_ (prod ss))), some (.int (l1 (prod ss))), none, some (.tup [plD ss, miD ss]), some (plD ss), none], rfl, rfl⟩
      · exact ⟨[some (.tup (stp ss)), some (.tup (dI_ (prod ss))), some (.int (l1 (prod ss))), none, some (.tup [plD ss, miD ss]), some (miD ss), none], rfl, rfl⟩) (by simp)
    have e : xOnNew gMax (xLc (xSrc (xVar 4)) [5] (gSet 5) tYesF (xB gLen (xCons (xVar 5) xNil))) [some (.tup (stp ss)), some (.tup (dI_ (prod ss))), some (.int (l1 (prod ss))), none, some (.tup [plD ss, miD ss]), none, none] [] = .ok (.int (ml 1 0 (prod ss)).length) [] := by
      refine (xOnNew_of (xLc_of (ds := [plD ss, miD ss]) (h1 := []) rfl q)).trans ?_
      show Res.ok (D.int (maxL [((dI_ (ml 1 0 (prod ss))).length : Int), ((dI_ (ml (-1) 0 (prod ss))).length : Int)])) _ = _
      have := same_len ss l1'
      rw [dI_len, dI_len, maxL2 _ _ (by omega)]
    have g := xOp_of (g := dGt) (fb := xC (.int 40)) (e := .int 40) e rfl
    have g2 : dGt (.int (ml 1 0 (prod ss)).length) (.int 40) [] = .ok (.bl (decide ((40 : Int) < (ml 1 0 (prod ss)).length))) [] := rfl
    rw [xTest_of (g.trans g2)]
    congr 1
    exact decide_eq_decide.mpr (by omega)
  show retOf (b__law_is_right [some (.tup (stp ss)), none, none, none, none, none, none] []) = .ok (.bl true) _
  unfold b__law_is_right
  rw [seq_nx s1, seq_nx s2, seq_nx s3, seq_nx s4, seq_nx s5]
  by_cases c : 40 < (ml 1 0 (prod ss)).length
  · rw [decide_eq_true c] at mx
    have r : sRet (xCall g__law_is_refused (xCons (xVar 0) xNil)) [some (.tup (stp ss)), some (.tup (dI_ (prod ss))), some (.int (l1 (prod ss))), none, some (.tup [plD ss, miD ss]), none, none] [] = .rt (.bl true) [] := sRet_of ((xCall_of (ds := [.tup (stp ss)]) rfl).trans (refused_ok h c []))
    rw [seq_rt ((sIf_t mx).trans r)]
    rfl
  rw [decide_eq_false c] at mx
  refine (congrArg retOf (seq_nx (e := [some (.tup (stp ss)), some (.tup (dI_ (prod ss))), some (.int (l1 (prod ss))), none, some (.tup [plD ss, miD ss]), none, none]) (h' := []) ((sIf_f mx).trans rfl))).trans ?_
  have s7 : sIf (xTest (xOp dNe (xB gRepr (xCons (xCall g_pure_heaps (xCons (xVar 0) xNil)) xNil)) (xB gRepr (xCons (xVar 4) xNil)))) (sRet (xC (.bl false))) sNext [some (.tup (stp ss)), some (.tup (dI_ (prod ss))), some (.int (l1 (prod ss))), none, some (.tup [plD ss, miD ss]), none, none] [] =
      .nx [some (.tup (stp ss)), some (.tup (dI_ (prod ss))), some (.int (l1 (prod ss))), none, some (.tup [plD ss, miD ss]), none, none] [] := by
    have b1 : xB gRepr (xCons (xCall g_pure_heaps (xCons (xVar 0) xNil)) xNil) [some (.tup (stp ss)), some (.tup (dI_ (prod ss))), some (.int (l1 (prod ss))), none, some (.tup [plD ss, miD ss]), none, none] [] = .ok (.str y) [] :=
      (xB_of (xCons_of ((xCall_of (ds := [.tup (stp ss)]) rfl).trans (heaps_call h c [])) rfl)).trans ey
    have b2 : xB gRepr (xCons (xVar 4) xNil) [some (.tup (stp ss)), some (.tup (dI_ (prod ss))), some (.int (l1 (prod ss))), none, some (.tup [plD ss, miD ss]), none, none] [] = .ok (.str y) [] :=
      (xB_of (ds := [.tup [plD ss, miD ss]]) rfl).trans ey
    exact (sIf_f (xTest_of ((xOp_of b1 b2).trans dNe_str))).trans rfl
  rw [seq_nx s7]
  obtain ⟨x7, s8⟩ := forD_skip (G := gSet 6) (b := sIf (xTest (xOp dNe (xOp dEq (xCall g__law_sum (xCons (xOp gIx (xVar 4) (xC (.int (0)))) (xCons (xVar 6) xNil))) (xCall g__law_sum (xCons (xOp gIx (xVar 4) (xC (.int (1)))) (xCons (xVar 6) xNil)))) (xOp dLt (xVar 6) (xB gLen (xCons (xVar 0) xNil))))) (sRet (xC (.bl false))) sNext)
    (E := fun x => [some (.tup (stp ss)), some (.tup (dI_ (prod ss))), some (.int (l1 (prod ss))), none, some (.tup [plD ss, miD ss]), none, x]) (h := []) (fun _ _ => rfl) (rangeD 0 (ss.length + 1)) (fun d hd => by
      obtain ⟨k, hk, rfl⟩ := range_mem hd
      have tell := sums_tell ss sne (k := k) (by omega)
      have b1 : xOp dEq (xCall g__law_sum (xCons (xOp gIx (xVar 4) (xC (.int (0)))) (xCons (xVar 6) xNil))) (xCall g__law_sum (xCons (xOp gIx (xVar 4) (xC (.int (1)))) (xCons (xVar 6) xNil))) [some (.tup (stp ss)), some (.tup (dI_ (prod ss))), some (.int (l1 (prod ss))), none, some (.tup [plD ss, miD ss]), none, some (.int k)] [] = .ok (.bl (decide (k < ss.length))) [] := by
        refine (xOp_of ((xCall_of (ds := [plD ss, .int k]) rfl).trans (callSum h 1 mle.1 (by omega) [])) ((xCall_of (ds := [miD ss, .int k]) rfl).trans (callSum h (-1) mle.2 (by omega) []))).trans ?_
        rw [dEq_int]
        congr 2
        by_cases c : k < ss.length
        · rw [decide_eq_true c, decide_eq_true (tell.mpr c)]
        · rw [decide_eq_false c, decide_eq_false fun z => c (tell.mp z)]
      have b2 : xOp dLt (xVar 6) (xB gLen (xCons (xVar 0) xNil)) [some (.tup (stp ss)), some (.tup (dI_ (prod ss))), some (.int (l1 (prod ss))), none, some (.tup [plD ss, miD ss]), none, some (.int k)] [] = .ok (.bl (decide (k < ss.length))) [] := by
        refine (xOp_of (d := .int k) (e := .int ((stp ss).length : Nat)) rfl rfl).trans ?_
        show Res.ok (D.bl (decide ((k : Int) < ((stp ss).length : Nat)))) [] = _
        rw [stp_len]
        congr 2
        simp
      refine (sIf_f (xTest_of ((xOp_of b1 b2).trans ?_))).trans rfl
      rw [dNe_bl]
      simp) none
  have r8 : xRng1 (xCons (xOp dAdd (xB gLen (xCons (xVar 0) xNil)) (xC (.int (1)))) xNil) [some (.tup (stp ss)), some (.tup (dI_ (prod ss))), some (.int (l1 (prod ss))), none, some (.tup [plD ss, miD ss]), none, none] [] = .ok (.one (.con (rangeD 0 (ss.length + 1)))) [] := by
    refine rng_src (n := ss.length + 1) ?_ (by omega)
    refine (xOp_of (d := .int ((stp ss).length : Nat)) (e := .int 1) rfl rfl).trans ?_
    rw [stp_len]
    rfl
  rw [seq_nx ((sFor_of r8).trans s8)]
  rfl
end FL

namespace FL
open PySem PySem.Spec PyProof.Rows L2 SG PU
theorem eqHand : g__law_hand = fnSem 1 2 (bHand elM 1907 5) := rfl
theorem eqDraw : g__law_draw = fnSem 2 3 (bDraw (mixM 40692 43) 48271 40014 2147483563) := rfl
theorem dr : Draws1 g__law_draw := by
  rw [eqDraw]
  exact Draws1.of (mixM_ok (by decide) (by decide))
theorem eqSome : g__law_some = fnSem 2 0 (bSome g__law_draw) := rfl
abbrev drawE : XE := xOp dAdd (xC (.int (1))) (xCall g__law_draw (xCons (xVar 1) (xCons (xVar 5) xNil)))
theorem add1 (z : Int) (h : Hs) (f : XE) (env : Sl) (h1 : Hs) (q : f env h = .ok (.int z) h1) : xOp dAdd (xC (.int (1))) f env h = .ok (.int (1 + z)) h1 := (xOp_of (d := .int 1) (h1 := h) rfl q).trans rfl
theorem lcD_steps {x0 x2 x3 x4 x6 : Option D} {hi w : Nat} (w0 : 0 < w) (w6 : w ≤ 60) : ∀ (ds : List D) (k n : Nat) (h : Hs), IsHand h hi n → n + ds.length < 1000000 → k + ds.length ≤ 100000 →
    ∃ (zs : List Nat) (h' : Hs), lcD (gSet 7) tYesF (elOne drawE) [x0, some (.ref hi), x2, x3, x4, some (.int w), x6, none] ds k h = .ok (stp zs) h' ∧ zs.length = ds.length ∧ (∀ z ∈ zs, 1 ≤ z ∧ z ≤ 60) ∧ IsHand h' hi (n + ds.length)
  | [], k, n, h, I, hn, hk => ⟨[], h, rfl, rfl, fun z hz => by simp at hz, I⟩
  | d :: r, k, n, h, I, hn, hk => by
    rw [List.length_cons] at hn hk
    obtain ⟨z, o, e, a, b, c⟩ := draw_call dr (fh := xVar 1) (fm := xVar 5) (env := [x0, some (.ref hi), x2, x3, x4, some (.int w), x6, some d]) (h := h) (h1 := h) (hi := hi) (many := w) rfl rfl I (by omega) (by omega) (by omega)
    have ez : (D.int (1 + z)) = .int ((1 + z).toNat : Nat) := by
      congr 1
      omega
    have e1 : drawE ([x0, some (.ref hi), x2, x3, x4, some (.int w), x6, none].set 7 (some d)) h = .ok (.int ((1 + z).toNat : Nat)) (h.set hi o) := by
      rw [← ez]
      exact add1 z h _ _ _ e
    obtain ⟨zs, h2, e2, a2, b2, c2⟩ := lcD_steps (x0 := x0) (x2 := x2) (x3 := x3) (x4 := x4) (x6 := x6) w0 w6 r (k + 1) (n + 1) (h.set hi o) c (by omega) (by omega)
    refine ⟨(1 + z).toNat :: zs, h2, ?_, by rw [List.length_cons, a2]; rfl, fun z' hz => ?_, by rw [List.length_cons, show n + (r.length + 1) = n + 1 + r.length by omega]; exact c2⟩
    · have hlt : k < 100000 := by omega
      unfold lcD
      show (tYesF [x0, some (.ref hi), x2, x3, x4, some (.int w), x6, some d] h).bindN _ = _
      simp only [tYesF, Res.bindN, ↓reduceIte, elOne, hlt, e1, List.length_cons, List.length_nil, Nat.zero_add, e2]
      rfl
    · rcases List.mem_cons.mp hz with rfl | hz
      · omega
      · exact b2 z' hz
theorem cast_toNat : ∀ l : List Int, (∀ x ∈ l, 1 ≤ x) → (l.map Int.toNat).map (fun (n : Nat) => (n : Int)) = l
  | [], _ => rfl
  | x :: r, h => by
    have ih := cast_toNat r fun y hy => h y (List.mem_cons_of_mem _ hy)
    have := h x (by simp)
    rw [List.map_cons, List.map_cons, ih]
    congr 1
    omega
theorem sorted7 {zs : List Nat} (l1 : 1 ≤ zs.length) (l7 : zs.length ≤ 7) (hb : ∀ z ∈ zs, 1 ≤ z ∧ z ≤ 60) : ∃ ss, Ok7 ss ∧ dI_ (sortBy leI (zs.map fun (n : Nat) => (n : Int))) = stp ss := by
  have p : (sortBy leI (zs.map fun (n : Nat) => (n : Int))).Perm (zs.map fun (n : Nat) => (n : Int)) := sortBy_perm _
  have s : (sortBy leI (zs.map fun (n : Nat) => (n : Int))).Pairwise (· ≤ ·) :=
    (sortBy_sorted (fun a b h => by
      have z := of_decide_eq_false h
      exact decide_eq_true (by omega)) (fun a b c h1 h2 => by
      have z1 := of_decide_eq_true h1
      have z2 := of_decide_eq_true h2
      exact decide_eq_true (by omega)) _).imp fun h => of_decide_eq_true h
  have hx : ∀ x ∈ sortBy leI (zs.map fun (n : Nat) => (n : Int)), 1 ≤ x ∧ x ≤ 60 := fun x h => by
    obtain ⟨n, hn, rfl⟩ := List.mem_map.mp (p.mem_iff.mp h)
    have := hb n hn
    omega
  have ln := p.length_eq
  rw [List.length_map] at ln
  generalize sortBy leI (zs.map fun (n : Nat) => (n : Int)) = L at *
  have ct := cast_toNat L fun x h => (hx x h).1
  refine ⟨L.map Int.toNat, ⟨by rw [List.length_map]; omega, by rw [List.length_map]; omega, fun s hs => ?_, by rw [ct]; exact s⟩, ?_⟩
  · obtain ⟨x, h, rfl⟩ := List.mem_map.mp hs
    have := hx x h
    omega
  · unfold stp
    rw [ct]
abbrev turnB : XS := (sSeq (sAsg (xCall g__law_some (xCons (xVar 1) (xCons (xNew (xLst (xCons (xC (.int (4))) (xCons (xC (.int (12))) (xCons (xC (.int (12))) (xCons (xC (.int (60))) xNil)))))) xNil))) (gSet 5))
  (sSeq (sAsg (xNew (xLc (xRng1 (xCons (xOp dAdd (xC (.int (1))) (xCall g__law_draw (xCons (xVar 1) (xCons (xC (.int (7))) xNil)))) xNil)) [7] (gSet 7) tYesF (xOp dAdd (xC (.int (1))) (xCall g__law_draw (xCons (xVar 1) (xCons (xVar 5) xNil)))))) (gSet 6))
  (sIf (xNotB (xTest (xCall g__law_is_right (xCons (xOnNew (fun ds h => .ok (.tup ds) h) (xSortV (xVar 6))) xNil)))) (sRet (xC (.bl false))) sNext)))
theorem turn_law {x0 x2 x3 x4 x5 x6 : Option D} {h : Hs} {hi n : Nat} (I : IsHand h hi n) (hn : n < 999900) : ∃ h' m y5 y6, turnB [x0, some (.ref hi), x2, x3, x4, x5, x6, none] h = .nx [x0, some (.ref hi), x2, x3, x4, y5, y6, none] h' ∧ IsHand h' hi m ∧ m ≤ n + 30 := by
  obtain ⟨x, h1, e1, hx, I1⟩ := some_call dr (fh := xVar 1) (f := xLst (xCons (xC (.int (4))) (xCons (xC (.int (12))) (xCons (xC (.int (12))) (xCons (xC (.int (60))) xNil))))) (env := [x0, some (.ref hi), x2, x3, x4, x5, x6, none]) (xs := [.int 4, .int 12, .int 12, .int 60]) rfl rfl I (by omega) (by decide) (by decide)
  rw [← eqSome] at e1
  have hw : ∃ w : Nat, x = .int w ∧ 0 < w ∧ w ≤ 60 := by
    have : x = .int 4 ∨ x = .int 12 ∨ x = .int 60 := by
      rcases List.mem_cons.mp hx with h | h
      · exact .inl h
      · rcases List.mem_cons.mp h with h | h
        · exact .inr (.inl h)
        · rcases List.mem_cons.mp h with h | h
          · exact .inr (.inl h)
          · rcases List.mem_cons.mp h with h | h
            · exact .inr (.inr h)
            · simp at h
    rcases this with rfl | rfl | rfl
    · exact ⟨4, rfl, by decide, by decide⟩
    · exact ⟨12, rfl, by decide, by decide⟩
    · exact ⟨60, rfl, by decide, by decide⟩
  obtain ⟨w, rfl, w0, w6⟩ := hw
  have s1 := (sAsg_of (i := 5) e1).trans (show SRes.nx _ h1 = SRes.nx [x0, some (.ref hi), x2, x3, x4, some (.int w), x6, none] h1 from rfl)
  obtain ⟨z, o, e2, z0, z7, I2⟩ := draw_call dr (fh := xVar 1) (fm := xC (.int 7)) (env := [x0, some (.ref hi), x2, x3, x4, some (.int w), x6, none]) (h := h1) (h1 := h1) (hi := hi) (many := 7) rfl rfl I1 (by omega) (by decide) (by decide)
  generalize h1.set hi o = h2 at e2 I2
  have r2 : xRng1 (xCons (xOp dAdd (xC (.int (1))) (xCall g__law_draw (xCons (xVar 1) (xCons (xC (.int (7))) xNil)))) xNil) [x0, some (.ref hi), x2, x3, x4, some (.int w), x6, none] h1 = .ok (.one (.con (rangeD 0 (1 + z).toNat))) h2 := by
    unfold xRng1
    rw [xCons_of (add1 z h1 _ _ _ e2) rfl]
    show (if okR (1 + z) = true then Res.ok (Src.one (.con (rangeD 0 (1 + z).toNat))) h2 else .stuck) = _
    rw [if_pos (okR_of (by omega) (by omega))]
  obtain ⟨zs, h3, e3, lz, bz, I3⟩ := lcD_steps (x0 := x0) (x2 := x2) (x3 := x3) (x4 := x4) (x6 := x6) (hi := hi) (w := w) w0 w6 (rangeD 0 (1 + z).toNat) 0 _ h2 I2 (by rw [rangeD_len]; omega) (by rw [rangeD_len]; omega)
  rw [rangeD_len] at lz I3
  have s2 := (sAsg_of (i := 6) (xNew_of (xLc_of (vs := [7]) r2 e3))).trans (show SRes.nx _ (h3 ++ [Ob.lst (stp zs)]) = SRes.nx [x0, some (.ref hi), x2, x3, x4, some (.int w), some (.ref h3.length), none] (h3 ++ [Ob.lst (stp zs)]) from rfl)
  obtain ⟨ss, ok, es⟩ := sorted7 (zs := zs) (by omega) (by omega) bz
  have so : xSortV (xVar 6) [x0, some (.ref hi), x2, x3, x4, some (.int w), some (.ref h3.length), none] (h3 ++ [.lst (stp zs)]) = .ok (stp ss) (h3 ++ [.lst (stp zs)]) := by
    unfold xSortV
    show (match (D.ref h3.length).seq (h3 ++ [Ob.lst (stp zs)]) with | some ds => gSortI ds (h3 ++ [Ob.lst (stp zs)]) | none => .stuck) = _
    rw [seq_ref (app_last h3 (.lst (stp zs)))]
    dsimp only
    unfold gSortI
    rw [show D.ints (stp zs) = some (zs.map fun (n : Nat) => (n : Int)) from ints_ints _]
    dsimp only
    rw [← es]
  have c : xCall g__law_is_right (xCons (xOnNew (fun ds h => .ok (.tup ds) h) (xSortV (xVar 6))) xNil) [x0, some (.ref hi), x2, x3, x4, some (.int w), some (.ref h3.length), none] (h3 ++ [.lst (stp zs)]) = .ok (.bl true) (h3 ++ [.lst (stp zs)]) :=
    (xCall_of (xCons_of (xOnNew_of so) (show xNil _ _ = .ok [] _ from rfl))).trans (right_ok ok _)
  have t : xNotB (xTest (xCall g__law_is_right (xCons (xOnNew (fun ds h => .ok (.tup ds) h) (xSortV (xVar 6))) xNil))) [x0, some (.ref hi), x2, x3, x4, some (.int w), some (.ref h3.length), none] (h3 ++ [.lst (stp zs)]) = .ok false (h3 ++ [.lst (stp zs)]) := by
    unfold xNotB
    rw [xTest_of c]
    rfl
  refine ⟨h3 ++ [.lst (stp zs)], _, some (.int w), some (.ref h3.length), ?_, I3.app _, by omega⟩
  show sSeq _ _ _ _ = _
  rw [seq_nx s1, seq_nx s2]
  exact (sIf_f t).trans rfl
theorem turns_law {x0 x2 x3 : Option D} : ∀ (ts : List D) (h : Hs) (hi n : Nat) (x4 x5 x6 : Option D), IsHand h hi n → n + 30 * ts.length < 999900 →
    ∃ h' y4 y5 y6, forD (gSet 4) turnB ts [x0, some (.ref hi), x2, x3, x4, x5, x6, none] h = .nx [x0, some (.ref hi), x2, x3, y4, y5, y6, none] h'
  | [], h, hi, n, x4, x5, x6, I, hn => ⟨h, x4, x5, x6, rfl⟩
  | t :: ts, h, hi, n, x4, x5, x6, I, hn => by
    rw [List.length_cons] at hn
    obtain ⟨h1, m, z5, z6, e1, I1, hm⟩ := turn_law (x0 := x0) (x2 := x2) (x3 := x3) (x4 := some t) (x5 := x5) (x6 := x6) I (by omega)
    obtain ⟨h2, y4, y5, y6, e2⟩ := turns_law (x0 := x0) (x2 := x2) (x3 := x3) ts h1 hi m (some t) z5 z6 I1 (by omega)
    refine ⟨h2, y4, y5, y6, ?_⟩
    show afterB (turnB [x0, some (.ref hi), x2, x3, some t, x5, x6, none] h) (forD _ _ ts) = _
    rw [e1]
    exact e2
end FL

namespace FL
open PySem PySem.Spec PyProof.Rows L2 SG PU
def kn : List D := [.tup [.int 1, .int (-1)], .tup [.int 1, .int (-1), .int (-1), .int 1], .int 4, .tup [.tup [.int 0, .int 3], .tup [.int 1, .int 2]], .tup [.int 1, .int 0, .int (-2), .int 0, .int 1], .tup [.tup [.int 0, .int 2], .tup [.int 1, .int 1]], .int 6]
def knP : PyData := .list [.tuple [.int 1, .int (-1)], .tuple [.int 1, .int (-1), .int (-1), .int 1], .int 4, .tuple [.tuple [.int 0, .int 3], .tuple [.int 1, .int 2]], .tuple [.int 1, .int 0, .int (-2), .int 0, .int 1], .tuple [.tuple [.int 0, .int 2], .tuple [.int 1, .int 1]], .int 6]
theorem kn_ok : okRepr knP = true := by decide +kernel
def closed (g : Fn) (s : List D) (d : D) : Prop := ∀ h, callG g [.tup s] h = .ok d h
theorem cl {g : Fn} {s : List D} {d : D} (h : okIs (g [.tup s] []) d = true) (hs : D.pures [.tup s] = true) (hp : d.pure = true) : closed g s d := fun _ => callG_is h hs hp
theorem k1 : closed g_pure [.int 1] (.tup [.int 1, .int (-1)]) := cl (by decide +kernel) rfl rfl
theorem k2 : closed g_pure [.int 1, .int 2] (.tup [.int 1, .int (-1), .int (-1), .int 1]) := cl (by decide +kernel) rfl rfl
theorem k3 : closed g_pure_size [.int 1, .int 2] (.int 4) := cl (by decide +kernel) rfl rfl
theorem k4 : closed g_pure_heaps [.int 1, .int 2] (.tup [.tup [.int 0, .int 3], .tup [.int 1, .int 2]]) := cl (by decide +kernel) rfl rfl
theorem k5 : closed g_pure [.int 2, .int 2] (.tup [.int 1, .int 0, .int (-2), .int 0, .int 1]) := cl (by decide +kernel) rfl rfl
theorem k6 : closed g_pure_heaps [.int 1, .int 1] (.tup [.tup [.int 0, .int 2], .tup [.int 1, .int 1]]) := cl (by decide +kernel) rfl rfl
theorem k7 : closed g_pure_size [.int 1, .int 2, .int 3] (.int 6) := cl (by decide +kernel) rfl rfl
def ones8 : List D := [.int 1, .int 1, .int 1, .int 1, .int 1, .int 1, .int 1, .int 1]
theorem k8 : closed g__law_is_refused ones8 (.bl true) := cl (by decide +kernel) rfl rfl
theorem cc1 {g : Fn} {a : Int} {d : D} (c : closed g [.int a] d) (env : Sl) (h : Hs) : xCall g (xCons (xTup (xCons (xC (.int a)) xNil)) xNil) env h = .ok d h := (xCall_of (ds := [.tup [.int a]]) rfl).trans (c h)
theorem cc2 {g : Fn} {a b : Int} {d : D} (c : closed g [.int a, .int b] d) (env : Sl) (h : Hs) : xCall g (xCons (xTup (xCons (xC (.int a)) (xCons (xC (.int b)) xNil))) xNil) env h = .ok d h := (xCall_of (ds := [.tup [.int a, .int b]]) rfl).trans (c h)
theorem cc3 {g : Fn} {a b e : Int} {d : D} (c : closed g [.int a, .int b, .int e] d) (env : Sl) (h : Hs) : xCall g (xCons (xTup (xCons (xC (.int a)) (xCons (xC (.int b)) (xCons (xC (.int e)) xNil)))) xNil) env h = .ok d h := (xCall_of (ds := [.tup [.int a, .int b, .int e]]) rfl).trans (c h)
theorem law_end (ns : List Int) (hl : ns.length ≤ 63) (hb : ∀ z ∈ ns, Builtin.Int.intBits z ≤ 1048576) : ∃ h', g_law [.rol (ns.map .int)] [] = .ok (.bl true) h' := by
  obtain ⟨a, b, e1, I⟩ := hand_ok elM_ok (k0 := 1907) (kk := 5) (by decide) (by decide) (by decide) (by decide) ns hl hb
  rw [← eqHand] at e1
  have s1 : sAsg (xCallH g__law_hand (xCons (xVar 0) xNil)) (gSet 1) [some (.rol (ns.map .int)), none, none, none, none, none, none, none] [] = .nx [some (.rol (ns.map .int)), some (.ref 1), none, none, none, none, none, none] [a, b] := by
    refine (sAsg_of (d := .ref 1) (h1 := [a, b]) ?_).trans rfl
    unfold xCallH
    exact e1
  have s2 : sAsg (xNew (xLst (xCons (xCall g_pure (xCons (xTup (xCons (xC (.int (1))) xNil)) xNil)) (xCons (xCall g_pure (xCons (xTup (xCons (xC (.int (1))) (xCons (xC (.int (2))) xNil))) xNil)) (xCons (xCall g_pure_size (xCons (xTup (xCons (xC (.int (1))) (xCons (xC (.int (2))) xNil))) xNil)) (xCons (xCall g_pure_heaps (xCons (xTup (xCons (xC (.int (1))) (xCons (xC (.int (2))) xNil))) xNil)) (xCons (xCall g_pure (xCons (xTup (xCons (xC (.int (2))) (xCons (xC (.int (2))) xNil))) xNil)) (xCons (xCall g_pure_heaps (xCons (xTup (xCons (xC (.int (1))) (xCons (xC (.int (1))) xNil))) xNil)) xNil)))))))) (gSet 2) [some (.rol (ns.map .int)), some (.ref 1), none, none, none, none, none, none] [a, b] =
      .nx [some (.rol (ns.map .int)), some (.ref 1), some (.ref 2), none, none, none, none, none] [a, b, .lst (kn.take 6)] :=
    (sAsg_of (xNew_of (xLst_of (xCons_of (cc1 k1 _ _) (xCons_of (cc2 k2 _ _) (xCons_of (cc2 k3 _ _) (xCons_of (cc2 k4 _ _) (xCons_of (cc2 k5 _ _) (xCons_of (cc2 k6 _ _) rfl)))))) (by simp)))).trans rfl
  have s3 : sDrop (xMeth isLst mAppend (xVar 2) (xCons (xCall g_pure_size (xCons (xTup (xCons (xC (.int (1))) (xCons (xC (.int (2))) (xCons (xC (.int (3))) xNil)))) xNil)) xNil)) [some (.rol (ns.map .int)), some (.ref 1), some (.ref 2), none, none, none, none, none] [a, b, .lst (kn.take 6)] =
      .nx [some (.rol (ns.map .int)), some (.ref 1), some (.ref 2), none, none, none, none, none] [a, b, .lst kn] :=
    (append_of (i := 2) (ds := kn.take 6) rfl (cc3 k7 _ _) rfl (by decide)).trans rfl
  have s4 : sAsg (xNew (xLst (xCons (xTup (xCons (xC (.int (1))) (xCons (xUn dNeg (xC (.int (1)))) xNil))) (xCons (xTup (xCons (xC (.int (1))) (xCons (xUn dNeg (xC (.int (1)))) (xCons (xUn dNeg (xC (.int (1)))) (xCons (xC (.int (1))) xNil))))) (xCons (xC (.int (4))) (xCons (xTup (xCons (xTup (xCons (xC (.int (0))) (xCons (xC (.int (3))) xNil))) (xCons (xTup (xCons (xC (.int (1))) (xCons (xC (.int (2))) xNil))) xNil))) (xCons (xTup (xCons (xC (.int (1))) (xCons (xC (.int (0))) (xCons (xUn dNeg (xC (.int (2)))) (xCons (xC (.int (0))) (xCons (xC (.int (1))) xNil)))))) (xCons (xTup (xCons (xTup (xCons (xC (.int (0))) (xCons (xC (.int (2))) xNil))) (xCons (xTup (xCons (xC (.int (1))) (xCons (xC (.int (1))) xNil))) xNil))) (xCons (xC (.int (6))) xNil))))))))) (gSet 3) [some (.rol (ns.map .int)), some (.ref 1), some (.ref 2), none, none, none, none, none] [a, b, .lst kn] =
      .nx [some (.rol (ns.map .int)), some (.ref 1), some (.ref 2), some (.ref 3), none, none, none, none] [a, b, .lst kn, .lst kn] := rfl
  have s5 : sIf (xOrB (xTest (xOp dNe (xB gRepr (xCons (xVar 2) xNil)) (xB gRepr (xCons (xVar 3) xNil)))) (xNotB (xTest (xCall g__law_is_refused (xCons (xOp dRepT (xTup (xCons (xC (.int (1))) xNil)) (xC (.int (8)))) xNil))))) (sRet (xC (.bl false))) sNext [some (.rol (ns.map .int)), some (.ref 1), some (.ref 2), some (.ref 3), none, none, none, none] [a, b, .lst kn, .lst kn] =
      .nx [some (.rol (ns.map .int)), some (.ref 1), some (.ref 2), some (.ref 3), none, none, none, none] [a, b, .lst kn, .lst kn] := by
    have r1 : gRepr [.ref 2] [a, b, .lst kn, .lst kn] = .ok (.str (reprD knP)) [a, b, .lst kn, .lst kn] := gRepr_of rfl kn_ok
    have r2 : gRepr [.ref 3] [a, b, .lst kn, .lst kn] = .ok (.str (reprD knP)) [a, b, .lst kn, .lst kn] := gRepr_of rfl kn_ok
    have t1 := xTest_of ((xOp_of ((xB_of (env := [some (.rol (ns.map .int)), some (.ref 1), some (.ref 2), some (.ref 3), none, none, none, none]) (fA := xCons (xVar 2) xNil) (ds := [.ref 2]) rfl).trans r1) ((xB_of (fA := xCons (xVar 3) xNil) (ds := [.ref 3]) rfl).trans r2)).trans dNe_str)
    have t2 : xNotB (xTest (xCall g__law_is_refused (xCons (xOp dRepT (xTup (xCons (xC (.int (1))) xNil)) (xC (.int (8)))) xNil))) [some (.rol (ns.map .int)), some (.ref 1), some (.ref 2), some (.ref 3), none, none, none, none] [a, b, .lst kn, .lst kn] = .ok false [a, b, .lst kn, .lst kn] := by
      have c : xCall g__law_is_refused (xCons (xOp dRepT (xTup (xCons (xC (.int (1))) xNil)) (xC (.int (8)))) xNil) [some (.rol (ns.map .int)), some (.ref 1), some (.ref 2), some (.ref 3), none, none, none, none] [a, b, .lst kn, .lst kn] = .ok (.bl true) [a, b, .lst kn, .lst kn] := (xCall_of (ds := [.tup ones8]) rfl).trans (k8 _)
      unfold xNotB
      rw [xTest_of c]
      rfl
    have t3 : xOrB (xTest (xOp dNe (xB gRepr (xCons (xVar 2) xNil)) (xB gRepr (xCons (xVar 3) xNil)))) (xNotB (xTest (xCall g__law_is_refused (xCons (xOp dRepT (xTup (xCons (xC (.int (1))) xNil)) (xC (.int (8)))) xNil)))) [some (.rol (ns.map .int)), some (.ref 1), some (.ref 2), some (.ref 3), none, none, none, none] [a, b, .lst kn, .lst kn] = .ok false [a, b, .lst kn, .lst kn] := by
      unfold xOrB
      rw [t1]
      exact t2
    exact (sIf_f t3).trans rfl
  have I1 : IsHand [a, b, .lst kn, .lst kn] 1 0 := I.app _
  obtain ⟨h', y4, y5, y6, e6⟩ := turns_law (x0 := some (.rol (ns.map .int))) (x2 := some (.ref 2)) (x3 := some (.ref 3)) (rangeD 0 8) _ 1 0 none none none I1 (by rw [rangeD_len]; decide)
  refine ⟨h', ?_⟩
  show retOf (b_law [some (.rol (ns.map .int)), none, none, none, none, none, none, none] []) = _
  unfold b_law
  rw [seq_nx s1, seq_nx s2, seq_nx s3, seq_nx s4, seq_nx s5, seq_nx ((sFor_of (ds := rangeD 0 8) (h1 := [a, b, .lst kn, .lst kn]) rfl).trans e6)]
  rfl
end FL

open PySem PySem.W PyProof.Rows
set_option maxHeartbeats 0 in
theorem PySem.Challenge.cw_powersalike_k73_whole_pure_products_holds : PySem.Challenge.rw_powersalike_k73_whole_pure_products.Holds := by
  w_on; o_law; k_head; (case hw => w_witness2)
  k_fill
  refine FL.end_walk (l := PySem.Challenge.rw_powersalike_k73_whole_pure_products) (n := 63) (k := 8) (x := "script") (g := FL.g_law) rfl (by decide) rfl ⟨rfl, by decide, by decide⟩ (fun w h Y => PySem.W.kIn_of Y) ?F FL.law_end
  case F =>
    intro w mg fa h KX G hmg
    refine' FL.all_mk KX G hmg ?a1 ?l1 ?c1 ?k1 (FL.mkRw ?a__law_hand ?l__law_hand ?c__law_hand ?k__law_hand) (FL.mkRw ?a_is_integer ?l_is_integer ?c_is_integer ?k_is_integer) (FL.mkRw ?a_is_within ?l_is_within ?c_is_within ?k_is_within) (FL.mkRw ?a_are_steps ?l_are_steps ?c_are_steps ?k_are_steps) (FL.mkRw ?a_check_steps ?l_check_steps ?c_check_steps ?k_check_steps) (FL.mkRw ?a_raw_pure ?l_raw_pure ?c_raw_pure ?k_raw_pure) (FL.mkRw ?a_pure_heaps ?l_pure_heaps ?c_pure_heaps ?k_pure_heaps) (FL.mkRw ?a_pure ?l_pure ?c_pure ?k_pure) (FL.mkRw ?a_size_of ?l_size_of ?c_size_of ?k_size_of) (FL.mkRw ?a_pure_size ?l_pure_size ?c_pure_size ?k_pure_size) (FL.mkRw ?a__law_is_refused ?l__law_is_refused ?c__law_is_refused ?k__law_is_refused) (FL.mkRw ?a__law_draw ?l__law_draw ?c__law_draw ?k__law_draw) (FL.mkRw ?a__law_some ?l__law_some ?c__law_some ?k__law_some) (FL.mkRw ?a__law_pure ?l__law_pure ?c__law_pure ?k__law_pure) (FL.mkRw ?a__law_places ?l__law_places ?c__law_places ?k__law_places) (FL.mkRw ?a__law_power ?l__law_power ?c__law_power ?k__law_power) (FL.mkRw ?a__law_sum ?l__law_sum ?c__law_sum ?k__law_sum) (FL.mkRw ?a__law_is_right ?l__law_is_right ?c__law_is_right ?k__law_is_right) ?z_repr ?z_range ?z_sorted ?z_tuple ?z_int ?z_abs ?z_len ?z_enumerate ?z_max ?z_isinstance ?z_list ?z_all ?z_bool ?z_sum ?z_ValueError ?v_MOST_HEAP ?v_MOST_STEPS ?v_MOST_STEP ?xa_NoNumbers ?xb_NoNumbers ?xc_NoNumbers ?xd_NoNumbers ?xe_NoNumbers ?xa_NoSteps ?xb_NoSteps ?xc_NoSteps ?xd_NoSteps ?xe_NoSteps ?ya_NoNumbers ?yb_NoNumbers ?yc_NoNumbers ?yc2_NoNumbers ?yc3_NoNumbers ?yc4_NoNumbers ?yhg_NoNumbers ?yhk_NoNumbers ?yhs_NoNumbers ?yhd_NoNumbers ?yha_NoNumbers ?yhn_NoNumbers ?yht_NoNumbers ?yhm_NoNumbers ?ye_NoNumbers
    (case a1 => first | k_is | rfl); (case l1 => first | k_is | rfl); (case c1 => first | k_is | rfl); (case k1 => first | k_is | rfl); (case a__law_hand => k_is); (case l__law_hand => k_is); (case c__law_hand => k_is); (case k__law_hand => k_is); (case a_is_integer => k_is); (case l_is_integer => k_is); (case c_is_integer => k_is); (case k_is_integer => k_is); (case a_is_within => k_is); (case l_is_within => k_is); (case c_is_within => k_is); (case k_is_within => k_is); (case a_are_steps => k_is); (case l_are_steps => k_is); (case c_are_steps => k_is); (case k_are_steps => k_is); (case a_check_steps => k_is); (case l_check_steps => k_is); (case c_check_steps => k_is); (case k_check_steps => k_is); (case a_raw_pure => k_is); (case l_raw_pure => k_is); (case c_raw_pure => k_is); (case k_raw_pure => k_is); (case a_pure_heaps => k_is); (case l_pure_heaps => k_is); (case c_pure_heaps => k_is); (case k_pure_heaps => k_is); (case a_pure => k_is); (case l_pure => k_is); (case c_pure => k_is); (case k_pure => k_is); (case a_size_of => k_is); (case l_size_of => k_is); (case c_size_of => k_is); (case k_size_of => k_is); (case a_pure_size => k_is); (case l_pure_size => k_is); (case c_pure_size => k_is); (case k_pure_size => k_is); (case a__law_is_refused => k_is); (case l__law_is_refused => k_is); (case c__law_is_refused => k_is); (case k__law_is_refused => k_is); (case a__law_draw => k_is); (case l__law_draw => k_is); (case c__law_draw => k_is); (case k__law_draw => k_is); (case a__law_some => k_is); (case l__law_some => k_is); (case c__law_some => k_is); (case k__law_some => k_is); (case a__law_pure => k_is); (case l__law_pure => k_is); (case c__law_pure => k_is); (case k__law_pure => k_is); (case a__law_places => k_is); (case l__law_places => k_is); (case c__law_places => k_is); (case k__law_places => k_is); (case a__law_power => k_is); (case l__law_power => k_is); (case c__law_power => k_is); (case k__law_power => k_is); (case a__law_sum => k_is); (case l__law_sum => k_is); (case c__law_sum => k_is); (case k__law_sum => k_is); (case a__law_is_right => k_is); (case l__law_is_right => k_is); (case c__law_is_right => k_is); (case k__law_is_right => k_is); (case z_repr => first | k_is | rfl); (case z_range => first | k_is | rfl); (case z_sorted => first | k_is | rfl); (case z_tuple => first | k_is | rfl); (case z_int => first | k_is | rfl); (case z_abs => first | k_is | rfl); (case z_len => first | k_is | rfl); (case z_enumerate => first | k_is | rfl); (case z_max => first | k_is | rfl); (case z_isinstance => first | k_is | rfl); (case z_list => first | k_is | rfl); (case z_all => first | k_is | rfl); (case z_bool => first | k_is | rfl); (case z_sum => first | k_is | rfl); (case z_ValueError => first | k_is | rfl); (case v_MOST_HEAP => first | k_is | rfl); (case v_MOST_STEPS => first | k_is | rfl); (case v_MOST_STEP => first | k_is | rfl); (case xa_NoNumbers => first | k_is | rfl); (case xb_NoNumbers => k_exc); (case xc_NoNumbers => first | k_is | rfl); (case xd_NoNumbers => first | k_is | rfl); (case xe_NoNumbers => first | k_is | rfl); (case xa_NoSteps => first | k_is | rfl); (case xb_NoSteps => k_exc); (case xc_NoSteps => first | k_is | rfl); (case xd_NoSteps => first | k_is | rfl); (case xe_NoSteps => first | k_is | rfl); (case ya_NoNumbers => first | k_is | rfl); (case yb_NoNumbers => first | k_is | rfl); (case yc_NoNumbers => first | k_is | rfl); (case yc2_NoNumbers => first | k_is | rfl); (case yc3_NoNumbers => first | k_is | rfl); (case yc4_NoNumbers => first | k_is | rfl); (case yhg_NoNumbers => first | k_is | rfl); (case yhk_NoNumbers => first | k_is | rfl); (case yhs_NoNumbers => first | k_is | rfl); (case yhd_NoNumbers => first | k_is | rfl); (case yha_NoNumbers => first | k_is | rfl); (case yhn_NoNumbers => first | k_is | rfl); (case yht_NoNumbers => first | k_is | rfl); (case yhm_NoNumbers => first | k_is | rfl); (case ye_NoNumbers => first | k_is | rfl)


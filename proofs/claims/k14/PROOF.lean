import PyProof.Rows.All
import Wide.All
import OpenK.AllK
import Wide.FinOn
import HandS.ForMost
import HandS.ForExc
import HandS.Wide
import HandS.IsInst
import HandS.TupMul
import HandS.TupAny
import HandS.Zip
import HandS.Conv
import HandS.Flow
import HandS.Style
import HandS.Deep
import KE.GoesZip
import KE.GoesEnum
import KE.GoesMore
import HandS.Walk
import HandS.NoneIn
import HandS.ExcIs
import HandS.Defaults
import HandS.HeadHook1
import HandS.HeadHook2
import KE.KStateDown
import HandS.Head0
import HandS.Head1
import HandS.Head2
import HandS.HeadEnd
import HandS.EndBits
import PySem.Challenge.RW_draggedsums_k14_panels_within_others
set_option Elab.async false
set_option linter.all false
set_option maxRecDepth 100000
namespace Lite
open PySem L2

/-- plain data; ref: a mutable object of the store; scr: the script -/
inductive D where
  | non | bl (b : Bool) | int (i : Int) | str (x : Str)
  | tup (xs : List D) | lst (xs : List D) | dct (ks : List Key) (vs : List D) | ref (i : Nat) | scr (xs : List Int)

/-- the mutable addresses: those of the store by their numbers, and hidden ones -/
structure As where
  ix : List Addr
  hid : List Addr
instance : Membership Addr As := ⟨fun A a => a ∈ A.ix ∨ a ∈ A.hid⟩
theorem As.mem_def {A : As} {a : Addr} : a ∈ A ↔ a ∈ A.ix ∨ a ∈ A.hid := Iff.rfl
def As.more (A : As) (β : List Addr) : As := ⟨A.ix ++ β, A.hid⟩
def As.hide (A : As) (a : Addr) : As := ⟨A.ix, a :: A.hid⟩
/-- a tuple that is read, outside the mutable addresses -/
def TupAt (K : PySem.W.Frag) (H : Hp) (α : As) (a : Addr) (xs : List V) : Prop :=
  (Rd H a (.tup xs) ∧ a ∉ α) ∨ ∃ (o : Obj) (its : Array Value) (n : Nat), K.lookup a = some o ∧ o.cls = .type "tuple" ∧ o.data = .seq its n ∧ its.size ≤ sizeLine ∧ Vals xs its.toList

/-- a list that is only read -/
def ScrAt (K : PySem.W.Frag) (H : Hp) (α : As) (a : Addr) (xs : List V) : Prop :=
  (Rd H a (.lst xs) ∧ a ∉ α) ∨ ∃ (o : Obj) (its : Array Value) (n : Nat), K.lookup a = some o ∧ o.cls = .type "list" ∧ o.dict = none ∧ o.data = .seq its n ∧ its.size ≤ sizeLine ∧ Vals xs its.toList

mutual
def Rep (K : PySem.W.Frag) (H : Hp) (α : As) : D → V → Prop
  | .non, v => v = .non
  | .bl b, v => v = .bl b
  | .int i, v => v = .int i
  | .str x, v => v = .str x
  | .tup ds, v => ∃ a vs, v = .ref a ∧ TupAt K H α a vs ∧ RepL K H α ds vs
  | .lst ds, v => ∃ a vs, v = .ref a ∧ H a = some (.lst vs) ∧ a ∉ α ∧ RepL K H α ds vs
  | .dct ks ds, v => ∃ a kvs, v = .ref a ∧ H a = some (.dK kvs) ∧ a ∉ α ∧ kvs.map (·.1) = ks ∧ RepL K H α ds (kvs.map (·.2))
  | .ref i, v => ∃ a, v = .ref a ∧ α.ix[i]? = some a
  | .scr ns, v => ∃ a, v = .ref a ∧ ScrAt K H α a (ns.map V.int)
def RepL (K : PySem.W.Frag) (H : Hp) (α : As) : List D → List V → Prop
  | [], vs => vs = []
  | d :: ds, vs => ∃ v vr, vs = v :: vr ∧ Rep K H α d v ∧ RepL K H α ds vr
end

/-- what grows: the heap outside the mutable addresses stays, the numbered addresses get more -/
structure Tr (H : Hp) (α : As) (H' : Hp) (α' : As) : Prop where
  keep : ∀ b o, H b = some o → b ∉ α → H' b = some o ∧ b ∉ α'
  pre : ∃ β, α'.ix = α.ix ++ β
/-- .. the hidden ones as they are -/
structure Ext (H : Hp) (α : As) (H' : Hp) (α' : As) : Prop extends Tr H α H' α' where
  hid : α'.hid = α.hid
  hkeep : ∀ b ∈ α.hid, ∀ o, H b = some o → H' b = some o
theorem Tr.trans {H H1 H2 : Hp} {α α1 α2 : As} (a : Tr H α H1 α1) (b : Tr H1 α1 H2 α2) : Tr H α H2 α2 := by
  refine ⟨fun c o h n => ?_, ?_⟩
  · obtain ⟨h1, n1⟩ := a.keep c o h n
    exact b.keep c o h1 n1
  · obtain ⟨β, e⟩ := a.pre
    obtain ⟨γ, e2⟩ := b.pre
    exact ⟨β ++ γ, by rw [e2, e, List.append_assoc]⟩
theorem Ext.refl {H : Hp} {α : As} : Ext H α H α := ⟨⟨fun b o h n => ⟨h, n⟩, [], by simp⟩, rfl, fun _ _ _ h => h⟩
theorem Ext.trans {H H1 H2 : Hp} {α α1 α2 : As} (a : Ext H α H1 α1) (b : Ext H1 α1 H2 α2) : Ext H α H2 α2 := ⟨a.toTr.trans b.toTr, b.hid.trans a.hid, fun c hc o h => b.hkeep c (by rw [a.hid]; exact hc) o (a.hkeep c hc o h)⟩
/-- a new untracked place is laid -/
theorem Ext.new {H : Hp} {α : As} {p : Addr} {o : HO} (h : H p = none) : Ext H α (upd H p o) α :=
  ⟨⟨fun b u hb n => ⟨by rw [upd_ne (ne_of_none hb h)]; exact hb, n⟩, [], by simp⟩, rfl, fun b _ u hb => by rw [upd_ne (ne_of_none hb h)]; exact hb⟩
/-- .. and hidden; what is hidden changes; it is shown again -/
theorem Tr.hideNew {H : Hp} {α : As} {p : Addr} {o : HO} (h : H p = none) : Tr H α (upd H p o) (α.hide p) := by
  refine ⟨fun b u hb n => ⟨by rw [upd_ne (ne_of_none hb h)]; exact hb, fun z => ?_⟩, [], by simp [As.hide]⟩
  rcases z with z | z
  · exact n (.inl z)
  · rcases List.mem_cons.mp z with z | z
    · exact ne_of_none hb h z
    · exact n (.inr z)
theorem Tr.hidden {H : Hp} {α : As} {p : Addr} {o : HO} (h : p ∈ α) : Tr H α (upd H p o) α :=
  ⟨fun b u hb n => ⟨by rw [upd_ne (fun e => n (by rw [e]; exact h))]; exact hb, n⟩, [], by simp⟩
theorem Tr.show {H : Hp} {α α' : As} {p : Addr} (h1 : α'.ix = α.ix) (h2 : α.hid = p :: α'.hid) : Tr H α H α' := by
  refine ⟨fun b u hb n => ⟨hb, fun z => n ?_⟩, [], by simp [h1]⟩
  rcases z with z | z
  · exact .inl (by rw [← h1]; exact z)
  · exact .inr (by rw [h2]; exact List.mem_cons_of_mem _ z)

theorem TupAt.tr {K : PySem.W.Frag} {H H' : Hp} {α α' : As} {a : Addr} {xs : List V} (e : Tr H α H' α') (h : TupAt K H α a xs) : TupAt K H' α' a xs := by
  rcases h with ⟨h, n⟩ | h
  · rcases h with h | ⟨o, h⟩
    · obtain ⟨h1, n1⟩ := e.keep _ _ h n
      exact .inl ⟨.inl h1, n1⟩
    · obtain ⟨h1, n1⟩ := e.keep _ _ h n
      exact .inl ⟨.inr ⟨o, h1⟩, n1⟩
  · exact .inr h
theorem ScrAt.tr {K : PySem.W.Frag} {H H' : Hp} {α α' : As} {a : Addr} {xs : List V} (e : Tr H α H' α') (h : ScrAt K H α a xs) : ScrAt K H' α' a xs := by
  rcases h with ⟨h, n⟩ | h
  · rcases h with h | ⟨o, h⟩
    · obtain ⟨h1, n1⟩ := e.keep _ _ h n
      exact .inl ⟨.inl h1, n1⟩
    · obtain ⟨h1, n1⟩ := e.keep _ _ h n
      exact .inl ⟨.inr ⟨o, h1⟩, n1⟩
  · exact .inr h
theorem ScrAt.sq {K : PySem.W.Frag} {H : Hp} {α : As} {a : Addr} {xs : List V} (h : ScrAt K H α a xs) : SqL K H a xs := by
  rcases h with ⟨h, n⟩ | h
  · exact .inl h
  · exact .inr h
theorem ScrAt.of {K : PySem.W.Frag} {H : Hp} {α : As} {a : Addr} {xs : List V} (n : a ∉ α) (h : SqL K H a xs) : ScrAt K H α a xs := by
  rcases h with h | h
  · exact .inl ⟨h, n⟩
  · exact .inr h
theorem TupAt.sq {K : PySem.W.Frag} {H : Hp} {α : As} {a : Addr} {xs : List V} (h : TupAt K H α a xs) : SqT K H a xs := by
  rcases h with ⟨h, n⟩ | h
  · exact .inl h
  · exact .inr h

mutual
theorem Rep.tr {K : PySem.W.Frag} {H H' : Hp} {α α' : As} (e : Tr H α H' α') : ∀ (d : D) (v : V), Rep K H α d v → Rep K H' α' d v
  | .non, v, h => h
  | .bl b, v, h => h
  | .int i, v, h => h
  | .str x, v, h => h
  | .tup ds, v, h => by
    obtain ⟨a, vs, rfl, ht, hl⟩ := h
    exact ⟨a, vs, rfl, ht.tr e, RepL.tr e ds vs hl⟩
  | .lst ds, v, h => by
    obtain ⟨a, vs, rfl, ht, hn, hl⟩ := h
    obtain ⟨h1, n1⟩ := e.keep _ _ ht hn
    exact ⟨a, vs, rfl, h1, n1, RepL.tr e ds vs hl⟩
  | .dct ks ds, v, h => by
    obtain ⟨a, kvs, rfl, ht, hn, hk, hl⟩ := h
    obtain ⟨h1, n1⟩ := e.keep _ _ ht hn
    exact ⟨a, kvs, rfl, h1, n1, hk, RepL.tr e ds _ hl⟩
  | .ref i, v, h => by
    obtain ⟨a, rfl, hi⟩ := h
    obtain ⟨β, eβ⟩ := e.pre
    refine ⟨a, rfl, ?_⟩
    obtain ⟨hlt, _⟩ := List.getElem?_eq_some_iff.mp hi
    rw [eβ, List.getElem?_append_left hlt]
    exact hi
  | .scr ns, v, h => by
    obtain ⟨a, rfl, ht⟩ := h
    exact ⟨a, rfl, ht.tr e⟩
theorem RepL.tr {K : PySem.W.Frag} {H H' : Hp} {α α' : As} (e : Tr H α H' α') : ∀ (ds : List D) (vs : List V), RepL K H α ds vs → RepL K H' α' ds vs
  | [], vs, h => h
  | d :: ds, vs, h => by
    obtain ⟨v, vr, rfl, h1, h2⟩ := h
    exact ⟨v, vr, rfl, Rep.tr e d v h1, RepL.tr e ds vr h2⟩
end

theorem Rep.ext {K : PySem.W.Frag} {H H' : Hp} {α α' : As} (e : Ext H α H' α') (d : D) (v : V) (h : Rep K H α d v) : Rep K H' α' d v := Rep.tr e.toTr d v h
theorem RepL.ext {K : PySem.W.Frag} {H H' : Hp} {α α' : As} (e : Ext H α H' α') (ds : List D) (vs : List V) (h : RepL K H α ds vs) : RepL K H' α' ds vs := RepL.tr e.toTr ds vs h
theorem TupAt.ext {K : PySem.W.Frag} {H H' : Hp} {α α' : As} {a : Addr} {xs : List V} (e : Ext H α H' α') (h : TupAt K H α a xs) : TupAt K H' α' a xs := h.tr e.toTr
theorem RepL.length {K : PySem.W.Frag} {H : Hp} {α : As} : ∀ {ds : List D} {vs : List V}, RepL K H α ds vs → vs.length = ds.length
  | [], _, h => by
    have h' : _ = ([] : List V) := h
    rw [h']; rfl
  | d :: ds, _, h => by
    obtain ⟨v, vr, rfl, _, h2⟩ := h
    simp [RepL.length h2]
theorem RepL.get {K : PySem.W.Frag} {H : Hp} {α : As} : ∀ {ds : List D} {vs : List V} {i : Nat} {d : D}, RepL K H α ds vs → ds[i]? = some d → ∃ v, vs[i]? = some v ∧ Rep K H α d v
  | [], _, i, d, h, e => by simp at e
  | d :: ds, _, 0, d', h, e => by
    obtain ⟨v, vr, rfl, h1, h2⟩ := h
    simp at e; subst e
    exact ⟨v, rfl, h1⟩
  | d :: ds, _, i+1, d', h, e => by
    obtain ⟨v, vr, rfl, h1, h2⟩ := h
    simp at e
    obtain ⟨w, hw, r⟩ := RepL.get h2 e
    exact ⟨w, by simpa using hw, r⟩
theorem RepL.append {K : PySem.W.Frag} {H : Hp} {α : As} : ∀ {ds es : List D} {vs us : List V}, RepL K H α ds vs → RepL K H α es us → RepL K H α (ds ++ es) (vs ++ us)
  | [], es, vs, us, h, g => by
    have h' : vs = [] := h
    subst h'; exact g
  | d :: ds, es, _, us, h, g => by
    obtain ⟨v, vr, rfl, h1, h2⟩ := h
    exact ⟨v, vr ++ us, rfl, h1, RepL.append h2 g⟩
theorem RepL.take {K : PySem.W.Frag} {H : Hp} {α : As} : ∀ {ds : List D} {vs : List V} (n : Nat), RepL K H α ds vs → RepL K H α (ds.take n) (vs.take n)
  | _, _, 0, _ => by show _ = _; simp
  | [], vs, n+1, h => by
    have h' : vs = [] := h
    subst h'; show _ = _; simp
  | d :: ds, _, n+1, h => by
    obtain ⟨v, vr, rfl, h1, h2⟩ := h
    exact ⟨v, vr.take n, rfl, h1, RepL.take n h2⟩
theorem RepL.drop {K : PySem.W.Frag} {H : Hp} {α : As} : ∀ {ds : List D} {vs : List V} (n : Nat), RepL K H α ds vs → RepL K H α (ds.drop n) (vs.drop n)
  | _, _, 0, h => h
  | [], vs, n+1, h => by
    have h' : vs = [] := h
    subst h'; show _ = _; simp
  | d :: ds, _, n+1, h => by
    obtain ⟨v, vr, rfl, h1, h2⟩ := h
    exact RepL.drop n h2
theorem RepL.set {K : PySem.W.Frag} {H : Hp} {α : As} {d : D} {v : V} (r : Rep K H α d v) : ∀ {ds : List D} {vs : List V} (n : Nat), RepL K H α ds vs → RepL K H α (ds.set n d) (vs.set n v)
  | [], vs, n, h => by
    have h' : vs = [] := h
    subst h'; show _ = _; simp
  | e :: ds, _, 0, h => by
    obtain ⟨w, vr, rfl, h1, h2⟩ := h
    exact ⟨v, vr, rfl, r, h2⟩
  | e :: ds, _, n+1, h => by
    obtain ⟨w, vr, rfl, h1, h2⟩ := h
    exact ⟨w, vr.set n v, rfl, h1, RepL.set r n h2⟩
theorem RepL.erase {K : PySem.W.Frag} {H : Hp} {α : As} : ∀ {ds : List D} {vs : List V} (n : Nat), RepL K H α ds vs → RepL K H α (ds.eraseIdx n) (vs.eraseIdx n)
  | [], vs, n, h => by
    have h' : vs = [] := h
    subst h'; show _ = _; simp
  | e :: ds, _, 0, h => by
    obtain ⟨w, vr, rfl, h1, h2⟩ := h
    exact h2
  | e :: ds, _, n+1, h => by
    obtain ⟨w, vr, rfl, h1, h2⟩ := h
    exact ⟨w, vr.eraseIdx n, rfl, h1, RepL.erase n h2⟩
theorem RepL.of {K : PySem.W.Frag} {H : Hp} {α : As} : ∀ {ds : List D} {vs : List V}, vs.length = ds.length → (∀ (i : Nat) (d : D) (v : V), ds[i]? = some d → vs[i]? = some v → Rep K H α d v) → RepL K H α ds vs
  | [], vs, hl, h => by
    show vs = []
    cases vs with
    | nil => rfl
    | cons _ _ => simp at hl
  | d :: ds, vs, hl, h => by
    cases vs with
    | nil => simp at hl
    | cons v vr =>
      refine ⟨v, vr, rfl, h 0 d v rfl rfl, RepL.of (by simpa using hl) fun i d' v' h1 h2 => h (i+1) d' v' (by simpa using h1) (by simpa using h2)⟩

/-- a mutable thing -/
inductive Ob where
  | lst (ds : List D)
abbrev Store := List Ob
def ObRel (K : PySem.W.Frag) (H : Hp) (α : As) (a : Addr) : Ob → Prop
  | .lst ds => ∃ vs, H a = some (.lst vs) ∧ RepL K H α ds vs
structure StoreRel (K : PySem.W.Frag) (H : Hp) (α : As) (μ : Store) : Prop where
  len : α.ix.length = μ.length
  nd : α.ix.Nodup
  apart : ∀ a ∈ α.hid, a ∉ α.ix
  hidThere : ∀ a ∈ α.hid, ∃ o, H a = some o
  ob : ∀ (i : Nat) (a : Addr) (o : Ob), α.ix[i]? = some a → μ[i]? = some o → ObRel K H α a o

theorem ObRel.tr {K : PySem.W.Frag} {H H' : Hp} {α α' : As} {a : Addr} {o : Ob} (e : Tr H α H' α') (h : ObRel K H α a o) (hk : ∀ u, H a = some u → H' a = some u) : ObRel K H' α' a o := by
  cases o with
  | lst ds =>
    obtain ⟨vs, h1, h2⟩ := h
    exact ⟨vs, hk _ h1, RepL.tr e _ _ h2⟩
/-- a new immutable object: the store stands -/
theorem StoreRel.new {K : PySem.W.Frag} {H : Hp} {α : As} {μ : Store} {p : Addr} {o : HO} (S : StoreRel K H α μ) (h : H p = none) : StoreRel K (upd H p o) α μ := by
  refine ⟨S.len, S.nd, S.apart, fun a ha => ?_, fun i a ob ha hm => ?_⟩
  · obtain ⟨u, e⟩ := S.hidThere a ha
    exact ⟨u, by rw [upd_ne (ne_of_none e h)]; exact e⟩
  · exact (S.ob i a ob ha hm).tr (Ext.new h).toTr fun u e => by rw [upd_ne (ne_of_none e h)]; exact e
theorem StoreRel.there {K : PySem.W.Frag} {H : Hp} {α : As} {μ : Store} {p : Addr} (S : StoreRel K H α μ) (h : p ∈ α.ix) : ∃ o, H p = some o := by
  obtain ⟨i, hi⟩ := List.getElem?_of_mem h
  obtain ⟨hlt, _⟩ := List.getElem?_eq_some_iff.mp hi
  have hm : μ[i]? = some (μ[i]'(by rw [← S.len]; exact hlt)) := by simp
  have q := S.ob i p _ hi hm
  generalize (μ[i]'(by rw [← S.len]; exact hlt)) = ob at q
  cases ob with
  | lst ds =>
    obtain ⟨vs, h1, _⟩ := q
    exact ⟨_, h1⟩
theorem StoreRel.notin {K : PySem.W.Frag} {H : Hp} {α : As} {μ : Store} {p : Addr} (S : StoreRel K H α μ) (h : H p = none) : p ∉ α := by
  intro hp
  rcases hp with hp | hp
  · obtain ⟨o, e⟩ := S.there hp
    rw [h] at e; cases e
  · obtain ⟨o, e⟩ := S.hidThere p hp
    rw [h] at e; cases e
/-- a new mutable list -/
theorem Ext.newM {K : PySem.W.Frag} {H : Hp} {α : As} {μ : Store} {p : Addr} {o : HO} (S : StoreRel K H α μ) (h : H p = none) : Ext H α (upd H p o) (α.more [p]) := by
  refine ⟨⟨fun b u hb n => ⟨by rw [upd_ne (ne_of_none hb h)]; exact hb, fun z => ?_⟩, [p], rfl⟩, rfl, fun b _ u hb => by rw [upd_ne (ne_of_none hb h)]; exact hb⟩
  rcases z with z | z
  · rcases List.mem_append.mp z with z | z
    · exact n (.inl z)
    · exact ne_of_none hb h (by simpa using z)
  · exact n (.inr z)
theorem StoreRel.newM {K : PySem.W.Frag} {H : Hp} {α : As} {μ : Store} {p : Addr} {ds : List D} {vs : List V} (S : StoreRel K H α μ) (h : H p = none) (r : RepL K H α ds vs) :
    StoreRel K (upd H p (.lst vs)) (α.more [p]) (μ ++ [.lst ds]) := by
  have E : Ext H α (upd H p (.lst vs)) (α.more [p]) := Ext.newM S h
  have np := S.notin h
  refine ⟨by simp [As.more, S.len], ?_, fun a ha => ?_, fun a ha => ?_, fun i a ob ha hm => ?_⟩
  · show (α.ix ++ [p]).Nodup
    rw [List.nodup_append]
    refine ⟨S.nd, by simp, fun x hx y hy e => ?_⟩
    simp at hy
    subst hy; subst e
    exact np (.inl hx)
  · intro z
    rcases List.mem_append.mp z with z | z
    · exact S.apart a ha z
    · have e : a = p := by simpa using z
      exact np (.inr (by rw [← e]; exact ha))
  · obtain ⟨u, e⟩ := S.hidThere a ha
    exact ⟨u, by rw [upd_ne (ne_of_none e h)]; exact e⟩
  · have ha : (α.ix ++ [p])[i]? = some a := ha
    by_cases hi : i < α.ix.length
    · rw [List.getElem?_append_left hi] at ha
      rw [List.getElem?_append_left (by rw [← S.len]; exact hi)] at hm
      exact (S.ob i a ob ha hm).tr E.toTr fun u e => by rw [upd_ne (ne_of_none e h)]; exact e
    · have e1 : i = α.ix.length := by
        have := (List.getElem?_eq_some_iff.mp ha).1
        simp at this; omega
      subst e1
      rw [List.getElem?_append_right (Nat.le_refl _)] at ha
      rw [S.len, List.getElem?_append_right (Nat.le_refl _)] at hm
      simp at ha hm
      subst ha; subst hm
      exact ⟨vs, upd_same, RepL.tr E.toTr _ _ r⟩
/-- a mutable list is written -/
theorem Ext.write {K : PySem.W.Frag} {H : Hp} {α : As} {μ : Store} {i : Nat} {a : Addr} {o : HO} (S : StoreRel K H α μ) (h : α.ix[i]? = some a) : Ext H α (upd H a o) α :=
  ⟨Tr.hidden (.inl (List.mem_of_getElem? h)), rfl, fun b hb u q => by
    have ne : b ≠ a := fun z => S.apart b hb (by rw [z]; exact List.mem_of_getElem? h)
    rw [upd_ne ne]; exact q⟩
theorem StoreRel.write {K : PySem.W.Frag} {H : Hp} {α : As} {μ : Store} {i : Nat} {a : Addr} {ds : List D} {vs : List V} (S : StoreRel K H α μ) (h : α.ix[i]? = some a) (r : RepL K H α ds vs) :
    StoreRel K (upd H a (.lst vs)) α (μ.set i (.lst ds)) := by
  have E : Ext H α (upd H a (.lst vs)) α := Ext.write S h
  refine ⟨by simp [S.len], S.nd, S.apart, fun b hb => ?_, fun j b ob hb hm => ?_⟩
  · obtain ⟨u, e⟩ := S.hidThere b hb
    have ne : b ≠ a := fun z => S.apart b hb (by rw [z]; exact List.mem_of_getElem? h)
    exact ⟨u, by rw [upd_ne ne]; exact e⟩
  · by_cases e : j = i
    · subst e
      rw [h] at hb; cases hb
      have hl : j < μ.length := by rw [← S.len]; exact (List.getElem?_eq_some_iff.mp h).1
      rw [List.getElem?_set_self hl] at hm
      cases hm
      exact ⟨vs, upd_same, RepL.tr E.toTr _ _ r⟩
    · rw [List.getElem?_set_ne (Ne.symm e)] at hm
      have ne : b ≠ a := by
        intro z
        subst z
        have h1 := (List.getElem?_eq_some_iff.mp hb)
        have h2 := (List.getElem?_eq_some_iff.mp h)
        exact e ((List.getElem_inj S.nd).mp (h1.2.trans h2.2.symm))
      exact (S.ob j b ob hb hm).tr E.toTr fun u e => by rw [upd_ne ne]; exact e
/-- a new object is laid and hidden; a hidden one is written; the last one hidden is shown -/
theorem StoreRel.hideNew {K : PySem.W.Frag} {H : Hp} {α : As} {μ : Store} {p : Addr} {o : HO} (S : StoreRel K H α μ) (h : H p = none) : StoreRel K (upd H p o) (α.hide p) μ := by
  have np := S.notin h
  refine ⟨S.len, S.nd, fun a ha => ?_, fun a ha => ?_, fun i a ob ha hm => ?_⟩
  · rcases List.mem_cons.mp ha with e | ha
    · rw [e]; exact fun z => np (.inl z)
    · exact S.apart a ha
  · rcases List.mem_cons.mp ha with e | ha
    · exact ⟨o, by rw [e]; exact upd_same⟩
    · obtain ⟨u, e⟩ := S.hidThere a ha
      exact ⟨u, by rw [upd_ne (ne_of_none e h)]; exact e⟩
  · exact (S.ob i a ob ha hm).tr (Tr.hideNew h) fun u e => by rw [upd_ne (ne_of_none e h)]; exact e
theorem StoreRel.hidden {K : PySem.W.Frag} {H : Hp} {α : As} {μ : Store} {p : Addr} {o : HO} (S : StoreRel K H α μ) (h : p ∈ α.hid) : StoreRel K (upd H p o) α μ := by
  refine ⟨S.len, S.nd, S.apart, fun a ha => ?_, fun i a ob ha hm => ?_⟩
  · by_cases e : a = p
    · exact ⟨o, by rw [e]; exact upd_same⟩
    · rw [upd_ne e]
      exact S.hidThere a ha
  · have ne : a ≠ p := fun e => S.apart p h (by rw [← e]; exact List.mem_of_getElem? ha)
    exact (S.ob i a ob ha hm).tr (Tr.hidden (.inr h)) fun u e => by rw [upd_ne ne]; exact e
theorem StoreRel.show {K : PySem.W.Frag} {H : Hp} {α α' : As} {μ : Store} {p : Addr} (S : StoreRel K H α μ) (h1 : α'.ix = α.ix) (h2 : α.hid = p :: α'.hid) : StoreRel K H α' μ := by
  refine ⟨by rw [h1]; exact S.len, by rw [h1]; exact S.nd, fun a ha => by rw [h1]; exact S.apart a (by rw [h2]; exact List.mem_cons_of_mem _ ha), fun a ha => S.hidThere a (by rw [h2]; exact List.mem_cons_of_mem _ ha), fun i a ob ha hm => ?_⟩
  rw [h1] at ha
  exact (S.ob i a ob ha hm).tr (Tr.show h1 h2) fun u e => e

/-- the names' values -/
abbrev Frame := List (Option D)
def FrameRel (K : PySem.W.Frag) (H : Hp) (α : As) (σ : St) (ρ : Frame) : Prop :=
  σ.length = ρ.length ∧ ∀ (i : Nat) (d : D), ρ[i]? = some (some d) → ∃ v, σ[i]? = some (some v) ∧ Rep K H α d v
theorem FrameRel.tr {K : PySem.W.Frag} {H H' : Hp} {α α' : As} {σ : St} {ρ : Frame} (e : Tr H α H' α') (h : FrameRel K H α σ ρ) : FrameRel K H' α' σ ρ :=
  ⟨h.1, fun i d hi => by
    obtain ⟨v, h1, h2⟩ := h.2 i d hi
    exact ⟨v, h1, Rep.tr e d v h2⟩⟩
theorem FrameRel.ext {K : PySem.W.Frag} {H H' : Hp} {α α' : As} {σ : St} {ρ : Frame} (h : FrameRel K H α σ ρ) (e : Ext H α H' α') : FrameRel K H' α' σ ρ := FrameRel.tr e.toTr h
theorem FrameRel.set {K : PySem.W.Frag} {H : Hp} {α : As} {σ : St} {ρ : Frame} {d : D} {v : V} (i : Nat) (h : FrameRel K H α σ ρ) (r : Rep K H α d v) : FrameRel K H α (σ.set i (some v)) (ρ.set i (some d)) := by
  refine ⟨by simp [h.1], fun j e hj => ?_⟩
  by_cases q : j = i
  · subst q
    have hl : j < ρ.length := by simpa using (List.getElem?_eq_some_iff.mp hj).1
    rw [List.getElem?_set_self hl] at hj
    cases hj
    exact ⟨v, by rw [List.getElem?_set_self (by rw [h.1]; exact hl)], r⟩
  · rw [List.getElem?_set_ne (Ne.symm q)] at hj
    obtain ⟨w, h1, h2⟩ := h.2 j e hj
    exact ⟨w, by rw [List.getElem?_set_ne (Ne.symm q)]; exact h1, h2⟩
/-- slots forgotten in both -/
def wipeF (ρ : Frame) : List Nat → Frame
  | [] => ρ
  | v :: vs => (wipeF ρ vs).set v none
theorem FrameRel.setNone {K : PySem.W.Frag} {H : Hp} {α : As} {σ : St} {ρ : Frame} (i : Nat) (h : FrameRel K H α σ ρ) : FrameRel K H α (σ.set i none) (ρ.set i none) := by
  refine ⟨by simp [h.1], fun j e hj => ?_⟩
  by_cases q : j = i
  · subst q
    have hl : j < ρ.length := by simpa using (List.getElem?_eq_some_iff.mp hj).1
    rw [List.getElem?_set_self hl] at hj
    cases hj
  · rw [List.getElem?_set_ne (Ne.symm q)] at hj
    obtain ⟨w, h1, h2⟩ := h.2 j e hj
    exact ⟨w, by rw [List.getElem?_set_ne (Ne.symm q)]; exact h1, h2⟩
theorem FrameRel.wipe {K : PySem.W.Frag} {H : Hp} {α : As} {σ : St} {ρ : Frame} (h : FrameRel K H α σ ρ) : ∀ vs, FrameRel K H α (wipe σ vs) (wipeF ρ vs)
  | [] => h
  | v :: vs => (FrameRel.wipe h vs).setNone v

/-- results: a value, an exception by its class's name, or not covered -/
inductive R (α : Type) where
  | ok (a : α) (μ : Store)
  | exc (x : Str) (fs : List (Str × D)) (μ : Store)
  | no
def R.bind {α β : Type} (r : R α) (f : α → Store → R β) : R β :=
  match r with
  | .ok a μ => f a μ
  | .exc x fs μ => .exc x fs μ
  | .no => .no
end Lite

set_option Elab.async false
set_option linter.all false
set_option maxRecDepth 100000
namespace Lite
open PySem L2

/-! ### what is wanted of a result -/
abbrev RelT (A B : Type) := Hp → As → A → B → Prop
/-- an exception's own dict -/
def ExcD (K : PySem.W.Frag) (H : Hp) (α : As) (dx : Option Addr) (fs : List (Str × D)) : Prop :=
  (fs = [] ∧ dx = none) ∨ ∃ a vs, fs ≠ [] ∧ dx = some a ∧ H a = some (.xd vs) ∧ vs.map (·.1) = fs.map (·.1) ∧ RepL K H α (fs.map (·.2)) (vs.map (·.2))
def Post {A B : Type} (K : PySem.W.Frag) (mg : Str → Option Value) (rel : RelT A B) (H : Hp) (α : As) (Q : B → Hp → Prop) (E : XK) : R A → Prop
  | .ok a μ => ∀ v H' α', StoreRel K H' α' μ → Ext H α H' α' → rel H' α' a v → Q v H'
  | .exc x fs μ => ∀ C dx H' α', mg x = some C → StoreRel K H' α' μ → Ext H α H' α' → ExcD K H' α' dx fs → E C dx H'
  | .no => False

section
variable {A B A' B' : Type} {K : PySem.W.Frag} {mg : Str → Option Value} {rel : RelT A B} {rel' : RelT A' B'} {H H1 : Hp} {α α1 : As} {E : XK}
theorem Post.up {Q : B → Hp → Prop} {r : R A} (e : Ext H α H1 α1) (h : Post K mg rel H α Q E r) : Post K mg rel H1 α1 Q E r := by
  cases r with
  | ok a μ => exact fun v H' α' s x q => h v H' α' s (e.trans x) q
  | exc x fs μ => exact fun C dx H' α' m s x q => h C dx H' α' m s (e.trans x) q
  | no => exact h
theorem Post.imp {Q Q' : B → Hp → Prop} {r : R A} (h : Post K mg rel H α Q E r) (k : ∀ v H', Q v H' → Q' v H') : Post K mg rel H α Q' E r := by
  cases r with
  | ok a μ => exact fun v H' α' s x q => k _ _ (h v H' α' s x q)
  | exc x fs μ => exact h
  | no => exact h
/-- the first part, then the second -/
theorem Post.bind {Q : B' → Hp → Prop} {r : R A} {k : A → Store → R A'} (h : Post K mg rel' H α Q E (r.bind k)) :
    Post K mg rel H α (fun v H1 => ∃ α1 μ1 a, StoreRel K H1 α1 μ1 ∧ Ext H α H1 α1 ∧ rel H1 α1 a v ∧ Post K mg rel' H1 α1 Q E (k a μ1)) E r := by
  cases r with
  | ok a μ =>
    intro v H' α' s x q
    exact ⟨α', μ, a, s, x, q, Post.up x h⟩
  | exc x fs μ => exact h
  | no => exact h
end

abbrev SE := Frame → Store → R D
abbrev ST := Frame → Store → R Bool
abbrev SA := Frame → Store → R (List D)
abbrev relB : RelT Bool Bool := fun _ _ a b => a = b

section
variable (K : PySem.W.Frag) (mg : Str → Option Value) (W : WX)
def tEv (f : SE) : TE := fun σ H Q => ∃ α μ ρ, StoreRel K H α μ ∧ FrameRel K H α σ ρ ∧ Post K mg (Rep K) H α Q (fun c d H' => W c d σ H') (f ρ μ)
def tEvT (f : ST) : TT := fun σ H Q => ∃ α μ ρ, StoreRel K H α μ ∧ FrameRel K H α σ ρ ∧ Post K mg relB H α Q (fun c d H' => W c d σ H') (f ρ μ)
def tEvA (f : SA) : TA := fun σ H Q => ∃ α μ ρ, StoreRel K H α μ ∧ FrameRel K H α σ ρ ∧ Post K mg (RepL K) H α Q (fun c d H' => W c d σ H') (f ρ μ)
end

/-- the context fits: names, scope, exceptions -/
structure CT (X : Cx) (W : WX) (sc : Scope) (N : List Str) : Prop where
  scope : X.env.scope = sc
  names : X.N = N
  nd : N.Nodup
  calm : X.calm = true
  tk : Takes X W
  units : X.A.units + 100 < cLine

theorem _root_.L2.PE.imp {X : Cx} {e : Expr} {t t' : TE} (h : PE X e t) (k : ∀ σ H Q, t' σ H Q → t σ H Q) : PE X e t' := ⟨fun pins s σ H Q I q => h.run pins s σ H Q I (k σ H Q q)⟩
theorem _root_.L2.PT.imp {X : Cx} {e : Expr} {t t' : TT} (h : PT X e t) (k : ∀ σ H Q, t' σ H Q → t σ H Q) : PT X e t' := ⟨fun pins s σ H Q I q => h.run pins s σ H Q I (k σ H Q q)⟩
theorem _root_.L2.PW.imp {X : Cx} {e : Expr} {t t' : TT} (h : PW X e t) (k : ∀ σ H Q, t' σ H Q → t σ H Q) : PW X e t' := ⟨fun wh pins s σ H Q I q => h.run wh pins s σ H Q I (k σ H Q q)⟩
theorem _root_.L2.PA.imp {X : Cx} {e : List Expr} {t t' : TA} (h : PA X e t) (k : ∀ σ H Q, t' σ H Q → t σ H Q) : PA X e t' := ⟨fun pos pins s σ H Q I q => h.run pos pins s σ H Q I (k σ H Q q)⟩

/-! ### what is seen at a value -/
def see (μ : Store) : D → D
  | .ref i => match μ[i]? with
    | some (.lst ds) => .lst ds
    | none => .ref i
  | d => d
/-- a readable rendering: as Rep, but a list may be a mutable one -/
def Seen (K : PySem.W.Frag) (H : Hp) (α : As) (d : D) (v : V) : Prop :=
  match d with
  | .lst ds => ∃ a vs, v = .ref a ∧ H a = some (.lst vs) ∧ RepL K H α ds vs
  | d => Rep K H α d v
theorem Rep.seen {K : PySem.W.Frag} {H : Hp} {α : As} {d : D} {v : V} (h : Rep K H α d v) : Seen K H α d v := by
  cases d with
  | lst ds =>
    obtain ⟨a, vs, e, h1, _, h2⟩ := h
    exact ⟨a, vs, e, h1, h2⟩
  | _ => exact h
theorem see_ok {K : PySem.W.Frag} {H : Hp} {α : As} {μ : Store} {d : D} {v : V} (S : StoreRel K H α μ) (h : Rep K H α d v) : Seen K H α (see μ d) v := by
  cases d with
  | ref i =>
    obtain ⟨a, rfl, ha⟩ := h
    cases e : μ[i]? with
    | none =>
      have e2 : see μ (.ref i) = .ref i := by simp only [see, e]
      rw [e2]
      exact ⟨a, rfl, ha⟩
    | some ob =>
      cases ob with
      | lst ds =>
        have e2 : see μ (.ref i) = .lst ds := by simp only [see, e]
        rw [e2]
        obtain ⟨vs, h1, h2⟩ := S.ob i a _ ha e
        exact ⟨a, vs, rfl, h1, h2⟩
  | _ => exact Rep.seen h

/-! ### truth -/
def truD : D → Option Bool
  | .non => some false
  | .bl b => some b
  | .int i => some (i != 0)
  | .str x => if x.length ≤ sizeLine then some ((x.length : Int) != 0) else none
  | .tup ds => some (!ds.isEmpty)
  | .lst ds => some (!ds.isEmpty)
  | .dct _ ds => some (!ds.isEmpty)
  | .scr ns => some (!ns.isEmpty)
  | .ref _ => none
def truth (d : D) (μ : Store) : R Bool :=
  match truD (see μ d) with
  | some b => .ok b μ
  | none => .no
theorem isEmpty_len {α β : Type} {xs : List α} {ys : List β} (h : xs.length = ys.length) : xs.isEmpty = ys.isEmpty := by
  cases xs <;> cases ys <;> simp_all
theorem truD_ok {K : PySem.W.Frag} {H : Hp} {α : As} {d : D} {v : V} {b : Bool} (h : Seen K H α d v) (e : truD d = some b) : TruV K v H b := by
  cases d with
  | non => have h' : v = .non := h; subst h'; cases e; rfl
  | bl c => have h' : v = .bl c := h; subst h'; cases e; rfl
  | int i => have h' : v = .int i := h; subst h'; cases e; rfl
  | str x =>
    have h' : v = .str x := h
    subst h'
    simp only [truD] at e
    by_cases hl : x.length ≤ sizeLine
    · rw [if_pos hl] at e
      cases e
      exact ⟨hl, rfl⟩
    · rw [if_neg hl] at e
      cases e
  | tup ds =>
    obtain ⟨a, vs, rfl, h1, h2⟩ := h
    cases e
    exact .inr (.inl ⟨vs, h1.sq, by rw [isEmpty_len (RepL.length h2)]⟩)
  | lst ds =>
    obtain ⟨a, vs, rfl, h1, h2⟩ := h
    cases e
    exact .inl ⟨vs, SqL.of h1, by rw [isEmpty_len (RepL.length h2)]⟩
  | dct ks ds =>
    obtain ⟨a, kvs, rfl, h1, _, _, h2⟩ := h
    cases e
    exact .inr (.inr ⟨kvs, h1, by have := RepL.length h2; rw [List.length_map] at this; rw [isEmpty_len this]⟩)
  | scr ns =>
    obtain ⟨a, rfl, h1⟩ := h
    cases e
    exact .inl ⟨_, h1.sq, by rw [isEmpty_len (by simp : (ns.map V.int).length = ns.length)]⟩
  | ref i => cases e
theorem truth_ok {K : PySem.W.Frag} {mg : Str → Option Value} {H : Hp} {α : As} {μ : Store} {d : D} {v : V} {Q : Bool → Hp → Prop} {E : XK} (S : StoreRel K H α μ) (h : Rep K H α d v)
    (q : Post K mg relB H α Q E (truth d μ)) : ∃ k, TruV K v H k ∧ Q k H := by
  unfold truth at q
  cases e : truD (see μ d) with
  | none => rw [e] at q; exact q.elim
  | some b =>
    rw [e] at q
    exact ⟨b, truD_ok (see_ok S h) e, q b H α S Ext.refl rfl⟩
def sTruth (f : SE) : ST := fun ρ μ => (f ρ μ).bind truth

/-- both: as a value, and as a test -/
structure Snd (X : Cx) (W : WX) (e : Expr) (f : SE) : Prop where
  pe : PE X e (tEv X.K X.mg W f)
  pt : PT X e (tEvT X.K X.mg W (sTruth f))

section
variable {X : Cx} {W : WX} {sc : Scope} {N : List Str} {e a b c : Expr} {f g h : SE} {pos : Pos}

/-- of most forms: the test is the value's truth -/
theorem Snd.plain (hp : PE X e (tEv X.K X.mg W f)) (he : ∀ whole, isTrue e X.env whole = (do let v ← whole; standAt e.pos; holding [v] (truthy v))) : Snd X W e f := by
  refine ⟨hp, (pt_truth hp he).imp fun σ H Q q => ?_⟩
  obtain ⟨α, μ, ρ, S, F, q⟩ := q
  refine ⟨α, μ, ρ, S, F, (Post.bind (rel := Rep X.K) q).imp fun v H1 q1 => ?_⟩
  obtain ⟨α1, μ1, d, S1, x1, r1, q1⟩ := q1
  exact truth_ok S1 r1 q1

/-! ### constants and names -/
def sCon (d : D) : SE := fun _ μ => .ok d μ
def sVar (i : Nat) : SE := fun ρ μ => match ρ[i]? with
  | some (some d) => .ok d μ
  | _ => .no
theorem tC_ev {v : V} {d : D} (r : ∀ H α, Rep X.K H α d v) : ∀ σ H Q, tEv X.K X.mg W (sCon d) σ H Q → tC v σ H Q := by
  intro σ H Q q
  obtain ⟨α, μ, ρ, S, F, q⟩ := q
  exact q v H α S Ext.refl (r H α)
theorem s_int {i : Int} {j : Nat} : Snd X W (.Constant (.int i) j pos) (sCon (.int i)) := .plain (pe_int.imp (tC_ev fun _ _ => rfl)) (by intro _; rfl)
theorem s_bl {i : Bool} {j : Nat} : Snd X W (.Constant (.bool i) j pos) (sCon (.bl i)) := .plain (pe_bl.imp (tC_ev fun _ _ => rfl)) (by intro _; rfl)
theorem s_non {j : Nat} : Snd X W (.Constant .none j pos) (sCon .non) := .plain (pe_non.imp (tC_ev fun _ _ => rfl)) (by intro _; rfl)
theorem s_str {i : Str} {j : Nat} : Snd X W (.Constant (.str i) j pos) (sCon (.str i)) := .plain (pe_str.imp (tC_ev fun _ _ => rfl)) (by intro _; rfl)
theorem s_var {i : Nat} {x : Str} (hN : X.N[i]? = some x) (hv : Vis X.env.scope x) (hd : (x == ("__debug__" : Str)) = false) (hcd : (x == ("__classdict__" : Str)) = false) : Snd X W (.Name x pos) (sVar i) := by
  refine .plain ((pe_var hN hv hd hcd).imp fun σ H Q q => ?_) (by intro _; rfl)
  obtain ⟨α, μ, ρ, S, F, q⟩ := q
  unfold sVar at q
  split at q
  · rename_i d hd'
    obtain ⟨v, h1, h2⟩ := F.2 i d hd'
    exact ⟨v, h1, q v H α S Ext.refl h2⟩
  · exact q.elim
theorem s_glob {x : Str} {v : V} {u : Value} {d : D} (hg : Gl X x) (hm : X.mg x = some u) (r : RelV v u) (hd : (x == ("__debug__" : Str)) = false) (rd : ∀ H α, Rep X.K H α d v) : Snd X W (.Name x pos) (sCon d) :=
  .plain ((pe_glob hg hm r hd).imp (tC_ev rd)) (by intro _; rfl)

/-! ### argument lists, displays -/
def sNil : SA := fun _ μ => .ok [] μ
def sCons (f : SE) (g : SA) : SA := fun ρ μ => (f ρ μ).bind fun d μ1 => (g ρ μ1).bind fun ds μ2 => .ok (d :: ds) μ2
abbrev SndA (X : Cx) (W : WX) (es : List Expr) (f : SA) : Prop := PA X es (tEvA X.K X.mg W f)
theorem a_nil : SndA X W [] sNil := pa_nil.imp fun σ H Q q => by
  obtain ⟨α, μ, ρ, S, F, q⟩ := q
  exact q [] H α S Ext.refl rfl
theorem a_cons {es : List Expr} {g : SA} (ha : PE X e (tEv X.K X.mg W f)) (hr : SndA X W es g) (hs : starEach (e :: es) X.env = (false, eval e X.env) :: starEach es X.env) : SndA X W (e :: es) (sCons f g) :=
  (pa_cons ha hr hs).imp fun σ H Q q => by
    obtain ⟨α, μ, ρ, S, F, q⟩ := q
    refine ⟨α, μ, ρ, S, F, (Post.bind (rel := Rep X.K) q).imp fun v H1 q1 => ?_⟩
    obtain ⟨α1, μ1, d, S1, x1, r1, q1⟩ := q1
    refine ⟨α1, μ1, ρ, S1, F.ext x1, (Post.bind (rel := RepL X.K) q1).imp fun vs H2 q2 => ?_⟩
    obtain ⟨α2, μ2, ds, S2, x2, r2, q2⟩ := q2
    exact q2 (v :: vs) H2 α2 S2 Ext.refl ⟨v, vs, rfl, Rep.ext x2 _ _ r1, r2⟩
/-- a fresh immutable tuple, list -/
theorem Rep.newTup {K : PySem.W.Frag} {H : Hp} {α : As} {μ : Store} {ds : List D} {vs : List V} {p : Addr} (S : StoreRel K H α μ) (r : RepL K H α ds vs) (hp : H p = none) : Rep K (upd H p (.tup vs)) α (.tup ds) (.ref p) :=
  ⟨p, vs, rfl, .inl ⟨.inl upd_same, S.notin hp⟩, RepL.ext (Ext.new hp) _ _ r⟩
theorem Rep.newLst {K : PySem.W.Frag} {H : Hp} {α : As} {μ : Store} {ds : List D} {vs : List V} {p : Addr} (S : StoreRel K H α μ) (r : RepL K H α ds vs) (hp : H p = none) : Rep K (upd H p (.lst vs)) α (.lst ds) (.ref p) :=
  ⟨p, vs, rfl, upd_same, S.notin hp, RepL.ext (Ext.new hp) _ _ r⟩
def mkTup (ds : List D) (μ : Store) : R D := if ds.length ≤ sizeLine then .ok (.tup ds) μ else .no
def mkLst (ds : List D) (μ : Store) : R D := if ds.length ≤ sizeLine then .ok (.lst ds) μ else .no
def mkRef (ds : List D) (μ : Store) : R D := if ds.length ≤ sizeLine then .ok (.ref μ.length) (μ ++ [.lst ds]) else .no
def sTup (f : SA) : SE := fun ρ μ => (f ρ μ).bind mkTup
def sLst (f : SA) : SE := fun ρ μ => (f ρ μ).bind mkLst
def sRef (f : SA) : SE := fun ρ μ => (f ρ μ).bind mkRef
section
variable {K : PySem.W.Frag} {mg : Str → Option Value} {H : Hp} {α : As} {μ : Store} {ds : List D} {vs : List V} {Q : VK} {E : XK}
theorem mkTup_ok (S : StoreRel K H α μ) (r : RepL K H α ds vs) (q : Post K mg (Rep K) H α Q E (mkTup ds μ)) : vs.length ≤ sizeLine ∧ ∀ p, H p = none → Q (.ref p) (upd H p (.tup vs)) := by
  unfold mkTup at q
  split at q
  · rename_i hl
    exact ⟨by rw [RepL.length r]; exact hl, fun p hp => q _ _ α (S.new hp) (Ext.new hp) (Rep.newTup S r hp)⟩
  · exact q.elim
theorem mkLst_ok (S : StoreRel K H α μ) (r : RepL K H α ds vs) (q : Post K mg (Rep K) H α Q E (mkLst ds μ)) : vs.length ≤ sizeLine ∧ ∀ p, H p = none → Q (.ref p) (upd H p (.lst vs)) := by
  unfold mkLst at q
  split at q
  · rename_i hl
    exact ⟨by rw [RepL.length r]; exact hl, fun p hp => q _ _ α (S.new hp) (Ext.new hp) (Rep.newLst S r hp)⟩
  · exact q.elim
theorem mkRef_ok (S : StoreRel K H α μ) (r : RepL K H α ds vs) (q : Post K mg (Rep K) H α Q E (mkRef ds μ)) : vs.length ≤ sizeLine ∧ ∀ p, H p = none → Q (.ref p) (upd H p (.lst vs)) := by
  unfold mkRef at q
  split at q
  · rename_i hl
    exact ⟨by rw [RepL.length r]; exact hl, fun p hp => q _ _ (α.more [p]) (S.newM hp r) (Ext.newM S hp) ⟨p, rfl, by rw [← S.len]; simp [As.more]⟩⟩
  · exact q.elim
end
theorem s_tup {es : List Expr} {k : Nat} {g : SA} (h : SndA X W es g) : Snd X W (.Tuple es k pos) (sTup g) := by
  refine .plain ((pe_tup h).imp fun σ H Q q => ?_) (by intro _; rfl)
  obtain ⟨α, μ, ρ, S, F, q⟩ := q
  refine ⟨α, μ, ρ, S, F, (Post.bind (rel := RepL X.K) q).imp fun vs H1 q1 => ?_⟩
  obtain ⟨α1, μ1, ds, S1, x1, r1, q1⟩ := q1
  exact mkTup_ok S1 r1 q1
theorem s_lst {es : List Expr} {g : SA} (h : SndA X W es g) : Snd X W (.List es pos) (sLst g) := by
  refine .plain ((pe_lst h).imp fun σ H Q q => ?_) (by intro _; rfl)
  obtain ⟨α, μ, ρ, S, F, q⟩ := q
  refine ⟨α, μ, ρ, S, F, (Post.bind (rel := RepL X.K) q).imp fun vs H1 q1 => ?_⟩
  obtain ⟨α1, μ1, ds, S1, x1, r1, q1⟩ := q1
  exact mkLst_ok S1 r1 q1
theorem s_ref {es : List Expr} {g : SA} (h : SndA X W es g) : Snd X W (.List es pos) (sRef g) := by
  refine .plain ((pe_lst h).imp fun σ H Q q => ?_) (by intro _; rfl)
  obtain ⟨α, μ, ρ, S, F, q⟩ := q
  refine ⟨α, μ, ρ, S, F, (Post.bind (rel := RepL X.K) q).imp fun vs H1 q1 => ?_⟩
  obtain ⟨α1, μ1, ds, S1, x1, r1, q1⟩ := q1
  exact mkRef_ok S1 r1 q1

/-! ### two-place operations -/
abbrev Op2 := D → D → Store → R D
def sBin (o : Op2) (f g : SE) : SE := fun ρ μ => (f ρ μ).bind fun x μ1 => (g ρ μ1).bind fun y μ2 => o x y μ2
/-- what an operation on values asks, by data -/
def rD (K : PySem.W.Frag) (mg : Str → Option Value) (o : Op2) : R2 := fun x y H Q => ∃ α μ dx dy, StoreRel K H α μ ∧ Rep K H α dx x ∧ Rep K H α dy y ∧ Post K mg (Rep K) H α Q (fun _ _ _ => False) (o dx dy μ)
/-- an operation never lets an exception out: in its place «no» -/
def Quiet (o : Op2) : Prop := ∀ x y μ z fs μ', o x y μ ≠ .exc z fs μ'
theorem bin_ev {o : Op2} (hq : Quiet o) : ∀ σ H Q, tEv X.K X.mg W (sBin o f g) σ H Q → tOp (rD X.K X.mg o) (tEv X.K X.mg W f) (tEv X.K X.mg W g) σ H Q := by
  intro σ H Q q
  obtain ⟨α, μ, ρ, S, F, q⟩ := q
  refine ⟨α, μ, ρ, S, F, (Post.bind (rel := Rep X.K) q).imp fun v H1 q1 => ?_⟩
  obtain ⟨α1, μ1, d, S1, x1, r1, q1⟩ := q1
  refine ⟨α1, μ1, ρ, S1, F.ext x1, (Post.bind (rel := Rep X.K) q1).imp fun w H2 q2 => ?_⟩
  obtain ⟨α2, μ2, d2, S2, x2, r2, q2⟩ := q2
  refine ⟨α2, μ2, d, d2, S2, Rep.ext x2 _ _ r1, r2, ?_⟩
  cases e : o d d2 μ2 with
  | ok z μ3 => rw [e] at q2; exact q2
  | exc z fs μ3 => exact (hq _ _ _ _ _ _ e).elim
  | no => rw [e] at q2; exact q2
theorem s_bin {op : Operator} {o : Op2} (hq : Quiet o) (ho : OpR X (binaryOp op) (rD X.K X.mg o)) (ha : PE X a (tEv X.K X.mg W f)) (hb : PE X b (tEv X.K X.mg W g)) : Snd X W (.BinOp a op b pos) (sBin o f g) :=
  .plain ((pe_op ho ha hb).imp (bin_ev hq)) (by intro _; rfl)
/-- comparisons: their value is a bool -/
def cmpR (o : D → D → Store → Option Bool) : Op2 := fun x y μ => match o x y μ with
  | some b => .ok (.bl b) μ
  | none => .no
abbrev Cmp2 := D → D → Store → Option Bool
theorem cmp_quiet {o : Cmp2} : Quiet (cmpR o) := by
  intro x y μ z fs μ' h
  unfold cmpR at h
  split at h <;> cases h
/-- a closure that gives bools alone -/
def Boolish (f : SE) : Prop := ∀ ρ μ d μ', f ρ μ = .ok d μ' → ∃ k, d = .bl k
theorem rep_bl {K : PySem.W.Frag} {H : Hp} {α : As} {d : D} {k : Bool} (h : Rep K H α d (.bl k)) : d = .bl k := by
  cases d with
  | bl k' => have h' : V.bl k = V.bl k' := h; cases h'; rfl
  | non => exact absurd (show V.bl k = .non from h) (by intro z; cases z)
  | int i => exact absurd (show V.bl k = .int i from h) (by intro z; cases z)
  | str i => exact absurd (show V.bl k = .str i from h) (by intro z; cases z)
  | tup ds => obtain ⟨a, vs, e, _⟩ := h; exact absurd e (by intro z; cases z)
  | lst ds => obtain ⟨a, vs, e, _⟩ := h; exact absurd e (by intro z; cases z)
  | dct ks ds => obtain ⟨a, vs, e, _⟩ := h; exact absurd e (by intro z; cases z)
  | ref i => obtain ⟨a, e, _⟩ := h; exact absurd e (by intro z; cases z)
  | scr ns => obtain ⟨a, e, _⟩ := h; exact absurd e (by intro z; cases z)
theorem boolish_ev {K : PySem.W.Frag} {mg : Str → Option Value} {W : WX} {f : SE} (hb : Boolish f) : ∀ σ H Q, tEvT K mg W (sTruth f) σ H Q → tEv K mg W f σ H (fun x H' => ∃ k, x = .bl k ∧ Q k H') := by
  intro σ H Q q
  obtain ⟨α, μ, ρ, S, F, q⟩ := q
  refine ⟨α, μ, ρ, S, F, ?_⟩
  unfold sTruth at q
  cases e : f ρ μ with
  | ok d μ3 =>
    rw [e] at q
    obtain ⟨k, rfl⟩ := hb _ _ _ _ e
    intro v H' α' S' x' r'
    exact ⟨k, r', q k H' α' S' x' rfl⟩
  | exc z fs μ3 => rw [e] at q; exact q
  | no => rw [e] at q; exact q
theorem bind_ok {α β : Type} {r : R α} {k : α → Store → R β} {b : β} {μ : Store} (h : r.bind k = .ok b μ) : ∃ a μ1, r = .ok a μ1 ∧ k a μ1 = .ok b μ := by
  cases r with
  | ok a μ1 => exact ⟨a, μ1, rfl, h⟩
  | exc _ _ _ => cases h
  | no => cases h
theorem cmpR_bool {o : Cmp2} {x y : D} {μ μ' : Store} {d : D} (h : cmpR o x y μ = .ok d μ') : ∃ k, d = .bl k := by
  unfold cmpR at h
  split at h
  · cases h; exact ⟨_, rfl⟩
  · cases h
theorem sBin_bool {o : Cmp2} : Boolish (sBin (cmpR o) f g) := by
  intro ρ μ d μ' h
  obtain ⟨x, μ1, _, h⟩ := bind_ok h
  obtain ⟨y, μ2, _, h⟩ := bind_ok h
  exact cmpR_bool h
theorem s_cmp {op : CmpOp} {o : Cmp2} (ho : OpR X (compareOp op) (rD X.K X.mg (cmpR o))) (ha : PE X a (tEv X.K X.mg W f)) (hb : PE X b (tEv X.K X.mg W g)) (hm : behindInMarks op b = false) : Snd X W (.Compare a [op] [b] pos) (sBin (cmpR o) f g) :=
  ⟨(pe_cmpR ho ha hb hm).imp (bin_ev cmp_quiet), (pt_cmpR ho ha hb hm).imp fun σ H Q q => bin_ev (f := f) (g := g) cmp_quiet σ H _ (boolish_ev sBin_bool σ H Q q)⟩
end
end Lite

set_option Elab.async false
set_option linter.all false
set_option maxRecDepth 100000
namespace Lite
open PySem L2

/-! ### plain data as the library's -/
mutual
def toPy : D → Option PyData
  | .non => some .none
  | .bl b => some (.bool b)
  | .int i => some (.int i)
  | .str x => some (.str x)
  | .tup ds => (toPyL ds).map .tuple
  | .lst ds => (toPyL ds).map .list
  | .dct _ _ => none
  | .ref _ => none
  | .scr ns => some (.list (ns.map .int))
def toPyL : List D → Option (List PyData)
  | [] => some []
  | d :: ds => match toPy d, toPyL ds with
    | some p, some ps => some (p :: ps)
    | _, _ => none
end
theorem toPy_scr {K : PySem.W.Frag} {H : Hp} : ∀ ns : List Int, DpAll K H (ns.map V.int) (ns.map PyData.int)
  | [] => .nil
  | n :: ns => .cons (.int n) (toPy_scr ns)
mutual
theorem toPy_ok {K : PySem.W.Frag} {H : Hp} {α : As} : ∀ (d : D) (v : V) (p : PyData), Rep K H α d v → toPy d = some p → Dp K H v p
  | .non, v, p, h, e => by have h' : v = .non := h; subst h'; cases e; exact .non
  | .bl b, v, p, h, e => by have h' : v = .bl b := h; subst h'; cases e; exact .bl b
  | .int i, v, p, h, e => by have h' : v = .int i := h; subst h'; cases e; exact .int i
  | .str x, v, p, h, e => by have h' : v = .str x := h; subst h'; cases e; exact .str x
  | .tup ds, v, p, h, e => by
    obtain ⟨a, vs, rfl, h1, h2⟩ := h
    simp only [toPy] at e
    cases q : toPyL ds with
    | none => rw [q] at e; cases e
    | some ps => rw [q] at e; cases e; exact .tup h1.sq (toPyL_ok ds vs ps h2 q)
  | .lst ds, v, p, h, e => by
    obtain ⟨a, vs, rfl, h1, _, h2⟩ := h
    simp only [toPy] at e
    cases q : toPyL ds with
    | none => rw [q] at e; cases e
    | some ps => rw [q] at e; cases e; exact .lst (SqL.of h1) (toPyL_ok ds vs ps h2 q)
  | .dct _ _, v, p, h, e => by cases e
  | .ref _, v, p, h, e => by cases e
  | .scr ns, v, p, h, e => by
    obtain ⟨a, rfl, h1⟩ := h
    cases e
    exact .lst h1.sq (toPy_scr ns)
theorem toPyL_ok {K : PySem.W.Frag} {H : Hp} {α : As} : ∀ (ds : List D) (vs : List V) (ps : List PyData), RepL K H α ds vs → toPyL ds = some ps → DpAll K H vs ps
  | [], vs, ps, h, e => by have h' : vs = [] := h; subst h'; cases e; exact .nil
  | d :: ds, vs, ps, h, e => by
    obtain ⟨v, vr, rfl, h1, h2⟩ := h
    simp only [toPyL] at e
    cases q1 : toPy d with
    | none => rw [q1] at e; cases e
    | some p =>
      cases q2 : toPyL ds with
      | none => rw [q1, q2] at e; cases e
      | some pr =>
        rw [q1, q2] at e
        cases e
        exact .cons (toPy_ok d v p h1 q1) (toPyL_ok ds vr pr h2 q2)
end
theorem seen_py {K : PySem.W.Frag} {H : Hp} {α : As} {d : D} {v : V} {p : PyData} (h : Seen K H α d v) (e : toPy d = some p) : Dp K H v p := by
  cases d with
  | lst ds =>
    obtain ⟨a, vs, rfl, h1, h2⟩ := h
    simp only [toPy] at e
    cases q : toPyL ds with
    | none => rw [q] at e; cases e
    | some ps => rw [q] at e; cases e; exact .lst (SqL.of h1) (toPyL_ok ds vs ps h2 q)
  | _ => exact toPy_ok _ _ _ h e

/-! ### + -/
def opAdd : Op2 := fun x y μ => match x, y with
  | .int i, .int j => .ok (.int (i + j)) μ
  | .str a, .str b => if a.length + b.length ≤ sizeLine then .ok (.str (a ++ b)) μ else .no
  | .tup a, .tup b => if a.length + b.length ≤ sizeLine then .ok (.tup (a ++ b)) μ else .no
  | x, y => match see μ x, see μ y with
    | .lst a, .lst b => if a.length + b.length ≤ sizeLine then .ok (.lst (a ++ b)) μ else .no
    | _, _ => .no
theorem opAdd_quiet : Quiet opAdd := by
  intro x y μ z fs μ' h
  unfold opAdd at h
  split at h
  · cases h
  · split at h <;> cases h
  · split at h <;> cases h
  · split at h
    · split at h <;> cases h
    · cases h
section
variable {X : Cx}
theorem opAdd_ok : OpR X (binaryOp .Add) (rD X.K X.mg opAdd) := by
  intro pins s σ H x y v u Q I rx ry h
  obtain ⟨α, μ, dx, dy, S, hx, hy, q⟩ := h
  unfold opAdd at q
  split at q
  · rename_i i j
    exact op_add pins s σ H x y v u Q I rx ry ⟨i, j, hx, hy, q _ H α S Ext.refl rfl⟩
  · rename_i a b
    split at q
    · rename_i hl
      exact op_add_str pins s σ H x y v u Q I rx ry ⟨a, b, hx, hy, hl, q _ H α S Ext.refl rfl⟩
    · exact q.elim
  · rename_i a b
    split at q
    · rename_i hl
      obtain ⟨p, vs, rfl, t1, r1⟩ := hx
      obtain ⟨p2, ws, rfl, t2, r2⟩ := hy
      have l1 := RepL.length r1
      have l2 := RepL.length r2
      refine op_catA pins s σ H _ _ v u Q I rx ry ⟨p, p2, vs, ws, rfl, rfl, t1.sq, t2.sq, by omega, fun e => ?_, fun _ e => ?_, fun _ _ p3 h3 => ?_⟩
      · subst e
        have ea : a = [] := by cases a <;> simp_all
        subst ea
        exact q _ H α S Ext.refl ⟨p2, ws, rfl, t2, r2⟩
      · subst e
        have eb : b = [] := by cases b <;> simp_all
        subst eb
        exact q _ H α S Ext.refl ⟨p, vs, rfl, t1, by simpa using r1⟩
      · exact q _ _ α (S.new h3) (Ext.new h3) (Rep.newTup S (RepL.append r1 r2) h3)
    · exact q.elim
  · split at q
    · rename_i a b e1 e2
      split at q
      · rename_i hl
        have s1 := see_ok S hx
        have s2 := see_ok S hy
        rw [e1] at s1
        rw [e2] at s2
        obtain ⟨p, vs, rfl, t1, r1⟩ := s1
        obtain ⟨p2, ws, rfl, t2, r2⟩ := s2
        have l1 := RepL.length r1
        have l2 := RepL.length r2
        exact op_cat pins s σ H _ _ v u Q I rx ry ⟨p, p2, vs, ws, rfl, rfl, t1, t2, by omega, fun p3 h3 => q _ _ α (S.new h3) (Ext.new h3) (Rep.newLst S (RepL.append r1 r2) h3)⟩
      · exact q.elim
    · exact q.elim
/-- two lists put together, as a mutable one -/
def opAddM : Op2 := fun x y μ => match see μ x, see μ y with
  | .lst a, .lst b => if a.length + b.length ≤ sizeLine then .ok (.ref μ.length) (μ ++ [.lst (a ++ b)]) else .no
  | _, _ => .no
theorem opAddM_quiet : Quiet opAddM := by
  intro x y μ z fs μ' h
  unfold opAddM at h
  split at h
  · split at h <;> cases h
  · cases h
theorem opAddM_ok : OpR X (binaryOp .Add) (rD X.K X.mg opAddM) := by
  intro pins s σ H x y v u Q I rx ry h
  obtain ⟨α, μ, dx, dy, S, hx, hy, q⟩ := h
  unfold opAddM at q
  split at q
  · rename_i a b e1 e2
    split at q
    · rename_i hl
      have s1 := see_ok S hx
      have s2 := see_ok S hy
      rw [e1] at s1
      rw [e2] at s2
      obtain ⟨p, vs, rfl, t1, r1⟩ := s1
      obtain ⟨p2, ws, rfl, t2, r2⟩ := s2
      have l1 := RepL.length r1
      have l2 := RepL.length r2
      exact op_cat pins s σ H _ _ v u Q I rx ry ⟨p, p2, vs, ws, rfl, rfl, t1, t2, by omega, fun p3 h3 => q _ _ (α.more [p3]) (S.newM h3 (RepL.append r1 r2)) (Ext.newM S h3) ⟨p3, rfl, by rw [← S.len]; simp [As.more]⟩⟩
    · exact q.elim
  · exact q.elim

/-! ### - // % ** -/
def intOp (c : Int → Int → Prop) [∀ i j, Decidable (c i j)] (g : Int → Int → Int) : Op2 := fun x y μ => match x, y with
  | .int i, .int j => if c i j then .ok (.int (g i j)) μ else .no
  | _, _ => .no
theorem intOp_quiet {c : Int → Int → Prop} [∀ i j, Decidable (c i j)] {g : Int → Int → Int} : Quiet (intOp c g) := by
  intro x y μ z fs μ' h
  unfold intOp at h
  split at h
  · split at h <;> cases h
  · cases h
theorem intOp_ok {f : Value → Value → Sem Value} {c : Int → Int → Prop} [∀ i j, Decidable (c i j)] {g : Int → Int → Int} (h : OpR X f (rI c fun i j => .int (g i j))) : OpR X f (rD X.K X.mg (intOp c g)) := by
  intro pins s σ H x y v u Q I rx ry hq
  obtain ⟨α, μ, dx, dy, S, hx, hy, q⟩ := hq
  unfold intOp at q
  split at q
  · rename_i i j
    split at q
    · rename_i hc
      exact h pins s σ H x y v u Q I rx ry ⟨i, j, hx, hy, hc, q _ H α S Ext.refl rfl⟩
    · exact q.elim
  · exact q.elim
def cTrue (_ _ : Int) : Prop := True
instance (i j : Int) : Decidable (cTrue i j) := isTrue trivial
instance (i j : Int) : Decidable (CDivW i j) := by unfold CDivW; infer_instance
instance (i j : Int) : Decidable (CMulW i j) := by unfold CMulW; infer_instance
instance (i j : Int) : Decidable (CPow i j) := by unfold CPow; infer_instance
def cPos (_ j : Int) : Prop := 0 < j
instance (i j : Int) : Decidable (cPos i j) := by unfold cPos; infer_instance
def opSub : Op2 := intOp cTrue fun i j => i - j
def opDiv : Op2 := intOp CDivW fun i j => i / j
def opMod : Op2 := intOp cPos fun i j => i % j
def opPow : Op2 := intOp CPow fun i j => i ^ j.toNat
theorem opSub_ok : OpR X (binaryOp .Sub) (rD X.K X.mg opSub) := intOp_ok fun pins s σ H x y v u Q I rx ry ⟨i, j, e1, e2, _, q⟩ => op_sub pins s σ H x y v u Q I rx ry ⟨i, j, e1, e2, q⟩
theorem opDiv_ok : OpR X (binaryOp .FloorDiv) (rD X.K X.mg opDiv) := intOp_ok op_fdivW
theorem opMod_ok : OpR X (binaryOp .Mod) (rD X.K X.mg opMod) := intOp_ok op_mod
theorem opPow_ok : OpR X (binaryOp .Pow) (rD X.K X.mg opPow) := intOp_ok op_pow

/-! ### * -/
theorem RepL.rep {K : PySem.W.Frag} {H : Hp} {α : As} {ds : List D} {vs : List V} (r : RepL K H α ds vs) : ∀ k : Nat, RepL K H α (List.replicate k ds).flatten (List.replicate k vs).flatten
  | 0 => by show _ = _; simp
  | k+1 => by
    rw [List.replicate_succ, List.replicate_succ, List.flatten_cons, List.flatten_cons]
    exact RepL.append r (RepL.rep r k)
def opMul : Op2 := fun x y μ => match x, y with
  | .int i, .int j => if CMulW i j then .ok (.int (i * j)) μ else .no
  | .tup a, .int k => if a ≠ [] ∧ 2 ≤ k ∧ k ≤ 1000 ∧ a.length ≤ 1000 then .ok (.tup (List.replicate k.toNat a).flatten) μ else .no
  | x, .int k => match see μ x with
    | .lst a => if -(2 ^ 63) ≤ k ∧ k < 2 ^ 63 ∧ a.length * k.toNat ≤ sizeLine then .ok (.lst (List.replicate k.toNat a).flatten) μ else .no
    | _ => .no
  | _, _ => .no
theorem opMul_quiet : Quiet opMul := by
  intro x y μ z fs μ' h
  unfold opMul at h
  split at h
  · split at h <;> cases h
  · split at h <;> cases h
  · split at h
    · split at h <;> cases h
    · cases h
  · cases h
theorem opMul_ok : OpR X (binaryOp .Mult) (rD X.K X.mg opMul) := by
  intro pins s σ H x y v u Q I rx ry h
  obtain ⟨α, μ, dx, dy, S, hx, hy, q⟩ := h
  unfold opMul at q
  split at q
  · rename_i i j
    split at q
    · rename_i hc
      exact op_mulW pins s σ H x y v u Q I rx ry ⟨i, j, hx, hy, hc, q _ H α S Ext.refl rfl⟩
    · exact q.elim
  · rename_i a k
    split at q
    · rename_i hc
      obtain ⟨h1, h2, h3, h4⟩ := hc
      obtain ⟨p, vs, rfl, t1, r1⟩ := hx
      have l1 := RepL.length r1
      have hy' : y = .int k := hy
      subst hy'
      exact op_repT pins s σ H _ _ v u Q I rx ry ⟨p, k, vs, rfl, rfl, t1.sq, (by intro e; subst e; cases a <;> simp_all), h2, h3, by omega, fun p3 e3 => q _ _ α (S.new e3) (Ext.new e3) (Rep.newTup S (RepL.rep r1 _) e3)⟩
    · exact q.elim
  · split at q
    · rename_i a e1
      split at q
      · rename_i k _ _ _ hc
        obtain ⟨h1, h2, h3⟩ := hc
        have s1 := see_ok S hx
        rw [e1] at s1
        obtain ⟨p, vs, rfl, t1, r1⟩ := s1
        have l1 := RepL.length r1
        have hy' : y = .int k := hy
        subst hy'
        exact op_rep pins s σ H _ _ v u Q I rx ry ⟨p, k, vs, rfl, rfl, t1, h1, h2, by rw [l1]; exact h3, fun p3 e3 => q _ _ α (S.new e3) (Ext.new e3) (Rep.newLst S (RepL.rep r1 _) e3)⟩
      · exact q.elim
    · exact q.elim
  · exact q.elim

/-! ### comparisons -/
def intCmp (p : Int → Int → Bool) : Cmp2 := fun x y _ => match x, y with
  | .int i, .int j => some (p i j)
  | _, _ => none
theorem intCmp_ok {f : Value → Value → Sem Value} {p : Int → Int → Bool} (h : OpR X f (rI0 fun i j => .bl (p i j))) : OpR X f (rD X.K X.mg (cmpR (intCmp p))) := by
  intro pins s σ H x y v u Q I rx ry hq
  obtain ⟨α, μ, dx, dy, S, hx, hy, q⟩ := hq
  unfold cmpR intCmp at q
  split at q
  · rename_i b e
    split at e
    · rename_i i j
      cases e
      exact h pins s σ H x y v u Q I rx ry ⟨i, j, hx, hy, q _ H α S Ext.refl rfl⟩
    · cases e
  · exact q.elim
def cmpLt : Cmp2 := intCmp fun i j => decide (i < j)
def cmpLe : Cmp2 := intCmp fun i j => decide (i ≤ j)
def cmpGt : Cmp2 := intCmp fun i j => decide (j < i)
def cmpGe : Cmp2 := intCmp fun i j => decide (j ≤ i)
theorem cmpLt_ok : OpR X (compareOp .Lt) (rD X.K X.mg (cmpR cmpLt)) := intCmp_ok op_lt
theorem cmpLe_ok : OpR X (compareOp .LtE) (rD X.K X.mg (cmpR cmpLe)) := intCmp_ok op_le
theorem cmpGt_ok : OpR X (compareOp .Gt) (rD X.K X.mg (cmpR cmpGt)) := intCmp_ok op_gt
theorem cmpGe_ok : OpR X (compareOp .GtE) (rD X.K X.mg (cmpR cmpGe)) := intCmp_ok op_ge
/-- == of data -/
def eqD (x y : D) (μ : Store) : Option Bool := match toPy (see μ x), toPy (see μ y) with
  | some p, some q => if SeqAt.shaped p && SeqAt.shaped q then some (PyData.eqv p q) else none
  | _, _ => none
def cmpEq : Cmp2 := eqD
def cmpNe : Cmp2 := fun x y μ => (eqD x y μ).map (!·)
theorem eqD_ok {H : Hp} {α : As} {μ : Store} {dx dy : D} {x y : V} {b : Bool} (S : StoreRel X.K H α μ) (hx : Rep X.K H α dx x) (hy : Rep X.K H α dy y) (e : eqD dx dy μ = some b) :
    ∃ d e, Dp X.K H x d ∧ Dp X.K H y e ∧ SeqAt.shaped d = true ∧ SeqAt.shaped e = true ∧ PyData.eqv d e = b := by
  unfold eqD at e
  split at e
  · rename_i p q e1 e2
    split at e
    · rename_i hs
      rw [Bool.and_eq_true] at hs
      cases e
      exact ⟨p, q, seen_py (see_ok S hx) e1, seen_py (see_ok S hy) e2, hs.1, hs.2, rfl⟩
    · cases e
  · cases e
theorem cmpEq_ok (hu : X.A.units + 64 < cLine) : OpR X (compareOp .Eq) (rD X.K X.mg (cmpR cmpEq)) := by
  intro pins s σ H x y v u Q I rx ry h
  obtain ⟨α, μ, dx, dy, S, hx, hy, q⟩ := h
  unfold cmpR cmpEq at q
  split at q
  · rename_i b e
    obtain ⟨d, e', h1, h2, h3, h4, h5⟩ := eqD_ok S hx hy e
    exact op_eqD hu pins s σ H x y v u Q I rx ry ⟨d, e', h1, h2, h3, h4, by rw [h5]; exact q _ H α S Ext.refl rfl⟩
  · exact q.elim
theorem cmpNe_ok (hu : X.A.units + 64 < cLine) : OpR X (compareOp .NotEq) (rD X.K X.mg (cmpR cmpNe)) := by
  intro pins s σ H x y v u Q I rx ry h
  obtain ⟨α, μ, dx, dy, S, hx, hy, q⟩ := h
  unfold cmpR cmpNe at q
  split at q
  · rename_i b e
    cases e0 : eqD dx dy μ with
    | none => rw [e0] at e; cases e
    | some c =>
      rw [e0] at e
      obtain ⟨d, e', h1, h2, h3, h4, h5⟩ := eqD_ok S hx hy e0
      have e2 : (!c) = b := by simpa using e
      exact op_neD hu pins s σ H x y v u Q I rx ry ⟨d, e', h1, h2, h3, h4, by rw [h5, e2]; exact q _ H α S Ext.refl rfl⟩
  · exact q.elim
/-- is None -/
def isNon (d : D) : Bool := match d with | .non => true | _ => false
theorem rep_non {K : PySem.W.Frag} {H : Hp} {α : As} {d : D} {v : V} (h : Rep K H α d v) : decide (v = .non) = isNon d := by
  cases d with
  | non => have h' : v = .non := h; subst h'; rfl
  | bl b => have h' : v = .bl b := h; subst h'; rfl
  | int b => have h' : v = .int b := h; subst h'; rfl
  | str b => have h' : v = .str b := h; subst h'; rfl
  | tup ds => obtain ⟨a, vs, rfl, _⟩ := h; rfl
  | lst ds => obtain ⟨a, vs, rfl, _⟩ := h; rfl
  | dct ks ds => obtain ⟨a, vs, rfl, _⟩ := h; rfl
  | ref i => obtain ⟨a, rfl, _⟩ := h; rfl
  | scr ns => obtain ⟨a, rfl, _⟩ := h; rfl
def cmpIs : Cmp2 := fun x y _ => match y with | .non => some (isNon x) | _ => none
def cmpIsNot : Cmp2 := fun x y _ => match y with | .non => some (!isNon x) | _ => none
theorem cmpIs_ok : OpR X (compareOp .Is) (rD X.K X.mg (cmpR cmpIs)) := by
  intro pins s σ H x y v u Q I rx ry h
  obtain ⟨α, μ, dx, dy, S, hx, hy, q⟩ := h
  unfold cmpR cmpIs at q
  split at q
  · rename_i b e
    split at e
    · cases e
      exact op_isN pins s σ H x y v u Q I rx ry ⟨hy, q _ H α S Ext.refl (by show _ = _; rw [rep_non hx])⟩
    · cases e
  · exact q.elim
theorem cmpIsNot_ok : OpR X (compareOp .IsNot) (rD X.K X.mg (cmpR cmpIsNot)) := by
  intro pins s σ H x y v u Q I rx ry h
  obtain ⟨α, μ, dx, dy, S, hx, hy, q⟩ := h
  unfold cmpR cmpIsNot at q
  split at q
  · rename_i b e
    split at e
    · cases e
      exact op_notN pins s σ H x y v u Q I rx ry ⟨hy, q _ H α S Ext.refl (by show _ = _; rw [rep_non hx])⟩
    · cases e
  · exact q.elim
end
end Lite

set_option Elab.async false
set_option linter.all false
set_option maxRecDepth 100000
namespace Lite
open PySem L2

/-! ### in, not in: flat things -/
def flatD : D → Bool
  | .non => true
  | .bl _ => true
  | .int _ => true
  | .str _ => true
  | _ => false
def eqF : D → D → Bool
  | .non, .non => true
  | .bl a, .bl b => a == b
  | .bl a, .int b => (if a then 1 else 0) == b
  | .int a, .bl b => a == (if b then 1 else 0)
  | .int a, .int b => a == b
  | .str a, .str b => a == b
  | _, _ => false
def toV : D → V
  | .bl b => .bl b
  | .int i => .int i
  | .str x => .str x
  | _ => .non
theorem flat_rep {K : PySem.W.Frag} {H : Hp} {α : As} {d : D} {v : V} (h : Rep K H α d v) (f : flatD d = true) : v = toV d := by
  cases d <;> first | exact h | cases f
theorem flat_toV {d : D} (f : flatD d = true) : flatV (toV d) = true := by
  cases d <;> first | rfl | cases f
theorem eqF_toV {x y : D} (f : flatD x = true) (g : flatD y = true) : eqV (toV x) (toV y) = eqF x y := by
  cases x <;> cases y <;> first | rfl | (simp [flatD] at f g; done)
theorem flats_rep {K : PySem.W.Frag} {H : Hp} {α : As} : ∀ {ds : List D} {vs : List V}, RepL K H α ds vs → ds.all flatD = true → vs = ds.map toV ∧ vs.all flatV = true
  | [], vs, h, _ => by have h' : vs = [] := h; subst h'; exact ⟨rfl, rfl⟩
  | d :: ds, vs, h, f => by
    obtain ⟨v, vr, rfl, h1, h2⟩ := h
    rw [List.all_cons, Bool.and_eq_true] at f
    obtain ⟨e1, e2⟩ := flats_rep h2 f.2
    have e := flat_rep h1 f.1
    subst e
    exact ⟨by rw [e1]; rfl, by rw [List.all_cons, flat_toV f.1, e2]; rfl⟩
theorem any_toV {x : D} (f : flatD x = true) : ∀ {ds : List D}, ds.all flatD = true → inV (toV x) (ds.map toV) = ds.any fun y => eqF y x
  | [], _ => rfl
  | d :: ds, h => by
    rw [List.all_cons, Bool.and_eq_true] at h
    have ih := any_toV f h.2
    unfold inV at ih ⊢
    rw [List.map_cons, List.any_cons, List.any_cons, ih, eqF_toV h.1 f]
def cmpIn : Cmp2 := fun x y μ => match x, see μ y with
  | .str a, .str b => match a.cps.toList with
    | [c] => some (decide (c ∈ b.cps.toList))
    | _ => none
  | x, .tup ds => if flatD x && ds.all flatD then some (ds.any fun y => eqF y x) else none
  | x, .lst ds =>
    if flatD x && ds.all flatD then some (ds.any fun y => eqF y x) else
      match toPy (see μ x), toPyL ds with
      | some p, some ps => if SeqAt.shaped p && SeqAt.shaped (.list ps) then some (ps.any fun z => PyData.eqv z p) else none
      | _, _ => none
  | _, _ => none
def cmpNotIn : Cmp2 := fun x y μ => (cmpIn x y μ).map (!·)
section
variable {X : Cx}
theorem seen_tup {K : PySem.W.Frag} {H : Hp} {α : As} {ds : List D} {v : V} (h : Seen K H α (.tup ds) v) : ∃ a vs, v = .ref a ∧ SqT K H a vs ∧ RepL K H α ds vs := by
  obtain ⟨a, vs, rfl, h1, h2⟩ := h
  exact ⟨a, vs, rfl, h1.sq, h2⟩
theorem in_core (neg : Bool) {op : CmpOp} (h1 : OpR X (compareOp op) (rIn X.K neg))
    (h2 : OpR X (compareOp op) (fun x y H Q => ∃ (c : Nat) (z : Str), x = .str ⟨#[c]⟩ ∧ y = .str z ∧ Q (.bl (if neg then !decide (c ∈ z.cps.toList) else decide (c ∈ z.cps.toList))) H))
    (h3 : OpR X (compareOp op) (fun x y H Q => ∃ d ds, Dp X.K H x d ∧ Dp X.K H y (.list ds) ∧ SeqAt.shaped d = true ∧ SeqAt.shaped (.list ds) = true ∧ Q (.bl (if neg then !ds.any fun z => PyData.eqv z d else ds.any fun z => PyData.eqv z d)) H)) :
    OpR X (compareOp op) (rD X.K X.mg (cmpR fun x y μ => (cmpIn x y μ).map fun b => if neg then !b else b)) := by
  intro pins s σ H x y v u Q I rx ry h
  obtain ⟨α, μ, dx, dy, S, hx, hy, q⟩ := h
  have sy := see_ok S hy
  unfold cmpR at q
  split at q
  · rename_i b e
    have e : (cmpIn dx dy μ).map (fun b => if neg = true then !b else b) = some b := e
    cases e0 : cmpIn dx dy μ with
    | none => rw [e0] at e; cases e
    | some c =>
      rw [e0] at e
      have eb : (if neg then !c else c) = b := by simpa using e
      have Qb : Q (.bl b) H := q _ H α S Ext.refl rfl
      unfold cmpIn at e0
      split at e0
      · rename_i _ _ a z e1
        split at e0
        · rename_i cc ec
          cases e0
          have hx' : x = .str a := hx
          have hy' : y = .str z := by rw [e1] at sy; exact sy
          have ha : a = ⟨#[cc]⟩ := by
            obtain ⟨l⟩ := a
            simp only at ec
            congr 1
            apply Array.ext'
            simpa using ec
          exact h2 pins s σ H x y v u Q I rx ry ⟨cc, z, by rw [hx', ha], hy', by rw [eb]; exact Qb⟩
        · cases e0
      · rename_i _ ds _ e1
        split at e0
        · rename_i hf
          rw [Bool.and_eq_true] at hf
          cases e0
          rw [e1] at sy
          obtain ⟨p, vs, rfl, t1, r1⟩ := seen_tup sy
          obtain ⟨e2, e3⟩ := flats_rep r1 hf.2
          have ex := flat_rep hx hf.1
          subst ex
          refine h1 pins s σ H _ _ v u Q I rx ry ⟨p, vs, rfl, .inr t1, flat_toV hf.1, e3, ?_⟩
          rw [e2, any_toV hf.1 hf.2, eb]
          exact Qb
        · cases e0
      · rename_i _ ds _ e1
        split at e0
        · rename_i hf
          rw [Bool.and_eq_true] at hf
          cases e0
          rw [e1] at sy
          obtain ⟨p, vs, rfl, t1, r1⟩ := sy
          obtain ⟨e2, e3⟩ := flats_rep r1 hf.2
          have ex := flat_rep hx hf.1
          subst ex
          refine h1 pins s σ H _ _ v u Q I rx ry ⟨p, vs, rfl, .inl (SqL.of t1), flat_toV hf.1, e3, ?_⟩
          rw [e2, any_toV hf.1 hf.2, eb]
          exact Qb
        · split at e0
          · rename_i p ps e2 e3
            split at e0
            · rename_i hs
              rw [Bool.and_eq_true] at hs
              cases e0
              rw [e1] at sy
              obtain ⟨p', vs, rfl, t1, r1⟩ := sy
              exact h3 pins s σ H _ _ v u Q I rx ry ⟨p, ps, seen_py (see_ok S hx) e2, .lst (SqL.of t1) (toPyL_ok _ _ _ r1 e3), hs.1, hs.2, by rw [eb]; exact Qb⟩
            · cases e0
          · cases e0
      · cases e0
  · exact q.elim
theorem cmpIn_ok (hu : X.A.units + 65 < cLine) : OpR X (compareOp .In) (rD X.K X.mg (cmpR cmpIn)) := by
  have := in_core (X := X) false (op := .In) op_in_seq (fun pins s σ H x y v u Q I rx ry h => op_in_sign pins s σ H x y v u Q I rx ry h) (fun pins s σ H x y v u Q I rx ry h => op_inD hu pins s σ H x y v u Q I rx ry h)
  have e : (fun x y μ => (cmpIn x y μ).map fun b => if false = true then !b else b) = cmpIn := by
    funext x y μ
    cases cmpIn x y μ <;> rfl
  rw [e] at this
  exact this
theorem cmpNotIn_ok (hu : X.A.units + 65 < cLine) : OpR X (compareOp .NotIn) (rD X.K X.mg (cmpR cmpNotIn)) := by
  have := in_core (X := X) true (op := .NotIn) op_notIn_seq (fun pins s σ H x y v u Q I rx ry h => op_notIn_sign pins s σ H x y v u Q I rx ry h) (fun pins s σ H x y v u Q I rx ry h => op_notInD hu pins s σ H x y v u Q I rx ry h)
  have e : (fun x y μ => (cmpIn x y μ).map fun b => if true = true then !b else b) = cmpNotIn := by
    funext x y μ
    unfold cmpNotIn
    cases cmpIn x y μ <;> rfl
  rw [e] at this
  exact this

/-! ### and, or, not, if, minus -/
variable {W : WX} {e a b c : Expr} {f g h : SE} {pos : Pos} {rest : List Expr}
def sAnd (f g : SE) : SE := fun ρ μ => (f ρ μ).bind fun x μ1 => (truth x μ1).bind fun k μ2 => if k = true then g ρ μ2 else .ok x μ2
def sOr (f g : SE) : SE := fun ρ μ => (f ρ μ).bind fun x μ1 => (truth x μ1).bind fun k μ2 => if k = true then .ok x μ2 else g ρ μ2
def sNot (f : SE) : SE := fun ρ μ => (sTruth f ρ μ).bind fun k μ1 => .ok (.bl (!k)) μ1
def sIf (c f g : SE) : SE := fun ρ μ => (sTruth c ρ μ).bind fun k μ1 => if k = true then f ρ μ1 else g ρ μ1
theorem truth_post {K : PySem.W.Frag} {mg : Str → Option Value} {A B : Type} {rel : RelT A B} {H : Hp} {α : As} {μ : Store} {d : D} {v : V} {Q : B → Hp → Prop} {E : XK} {k : Bool → Store → R A} (S : StoreRel K H α μ) (h : Rep K H α d v)
    (q : Post K mg rel H α Q E ((truth d μ).bind k)) : ∃ b, TruV K v H b ∧ truth d μ = .ok b μ ∧ Post K mg rel H α Q E (k b μ) := by
  unfold truth at q ⊢
  cases e : truD (see μ d) with
  | none => rw [e] at q; exact q.elim
  | some b =>
    rw [e] at q
    exact ⟨b, truD_ok (see_ok S h) e, rfl, q⟩
/-- the last (or only) one of a row -/
theorem s_one {op : BoolOp} (ha : Snd X W a f) : PE X (.BoolOp op [a] pos) (tEv X.K X.mg W f) ∧ PW X (.BoolOp op [a] pos) (tEvT X.K X.mg W (sTruth f)) := by
  cases op
  · exact ⟨pe_one ha.pe, pw_and1 ha.pt⟩
  · exact ⟨pe_one ha.pe, pw_or1 ha.pt⟩
theorem bind_assoc {α β γ : Type} (r : R α) (k : α → Store → R β) (k2 : β → Store → R γ) : (r.bind k).bind k2 = r.bind fun x μ => (k x μ).bind k2 := by
  cases r <;> rfl
theorem s_and (ha : Snd X W a f) (hb : PE X (.BoolOp .And (b :: rest) pos) (tEv X.K X.mg W g) ∧ PW X (.BoolOp .And (b :: rest) pos) (tEvT X.K X.mg W (sTruth g))) :
    PE X (.BoolOp .And (a :: b :: rest) pos) (tEv X.K X.mg W (sAnd f g)) ∧ PW X (.BoolOp .And (a :: b :: rest) pos) (tEvT X.K X.mg W (sTruth (sAnd f g))) := by
  refine ⟨(pe_andT ha.pe hb.1).imp fun σ H Q q => ?_, (pw_and ha.pt hb.2).imp fun σ H Q q => ?_⟩
  · obtain ⟨α, μ, ρ, S, F, q⟩ := q
    refine ⟨α, μ, ρ, S, F, (Post.bind (rel := Rep X.K) q).imp fun v H1 q1 => ?_⟩
    obtain ⟨α1, μ1, d, S1, x1, r1, q1⟩ := q1
    obtain ⟨k, t, _, q2⟩ := truth_post S1 r1 q1
    refine ⟨k, t, ?_⟩
    cases k with
    | true => exact ⟨α1, μ1, ρ, S1, F.ext x1, q2⟩
    | false => exact q2 v H1 α1 S1 Ext.refl r1
  · obtain ⟨α, μ, ρ, S, F, q⟩ := q
    unfold sTruth sAnd at q
    rw [bind_assoc] at q
    unfold tAnd
    refine ⟨α, μ, ρ, S, F, ?_⟩
    unfold sTruth
    cases e0 : f ρ μ with
    | no => rw [e0] at q; exact q
    | exc z fs μ1 => rw [e0] at q; exact q
    | ok d μ1 =>
      rw [e0] at q
      simp only [R.bind] at q ⊢
      cases e1 : truD (see μ1 d) with
      | none =>
        have e2 : truth d μ1 = .no := by unfold truth; rw [e1]
        rw [e2] at q
        exact q.elim
      | some k =>
        have e2 : truth d μ1 = .ok k μ1 := by unfold truth; rw [e1]
        rw [e2] at q ⊢
        intro k' H' α' S' x' r'
        cases r'
        cases k with
        | true => exact ⟨α', μ1, ρ, S', F.ext x', Post.up x' q⟩
        | false =>
          simp only [Bool.false_eq_true, if_false] at q ⊢
          rw [e2] at q
          exact q false H' α' S' x' rfl
theorem s_or (ha : Snd X W a f) (hb : PE X (.BoolOp .Or (b :: rest) pos) (tEv X.K X.mg W g) ∧ PW X (.BoolOp .Or (b :: rest) pos) (tEvT X.K X.mg W (sTruth g))) :
    PE X (.BoolOp .Or (a :: b :: rest) pos) (tEv X.K X.mg W (sOr f g)) ∧ PW X (.BoolOp .Or (a :: b :: rest) pos) (tEvT X.K X.mg W (sTruth (sOr f g))) := by
  refine ⟨(pe_orT ha.pe hb.1).imp fun σ H Q q => ?_, (pw_or ha.pt hb.2).imp fun σ H Q q => ?_⟩
  · obtain ⟨α, μ, ρ, S, F, q⟩ := q
    refine ⟨α, μ, ρ, S, F, (Post.bind (rel := Rep X.K) q).imp fun v H1 q1 => ?_⟩
    obtain ⟨α1, μ1, d, S1, x1, r1, q1⟩ := q1
    obtain ⟨k, t, _, q2⟩ := truth_post S1 r1 q1
    refine ⟨k, t, ?_⟩
    cases k with
    | true => exact q2 v H1 α1 S1 Ext.refl r1
    | false => exact ⟨α1, μ1, ρ, S1, F.ext x1, q2⟩
  · obtain ⟨α, μ, ρ, S, F, q⟩ := q
    unfold sTruth sOr at q
    rw [bind_assoc] at q
    unfold tOr
    refine ⟨α, μ, ρ, S, F, ?_⟩
    unfold sTruth
    cases e0 : f ρ μ with
    | no => rw [e0] at q; exact q
    | exc z fs μ1 => rw [e0] at q; exact q
    | ok d μ1 =>
      rw [e0] at q
      simp only [R.bind] at q ⊢
      cases e1 : truD (see μ1 d) with
      | none =>
        have e2 : truth d μ1 = .no := by unfold truth; rw [e1]
        rw [e2] at q
        exact q.elim
      | some k =>
        have e2 : truth d μ1 = .ok k μ1 := by unfold truth; rw [e1]
        rw [e2] at q ⊢
        intro k' H' α' S' x' r'
        cases r'
        cases k with
        | false => exact ⟨α', μ1, ρ, S', F.ext x', Post.up x' q⟩
        | true =>
          simp only [if_true] at q ⊢
          rw [e2] at q
          exact q true H' α' S' x' rfl
theorem Snd.ofW {op : BoolOp} {es : List Expr} (h : PE X (.BoolOp op es pos) (tEv X.K X.mg W f) ∧ PW X (.BoolOp op es pos) (tEvT X.K X.mg W (sTruth f))) : Snd X W (.BoolOp op es pos) f := ⟨h.1, h.2.pt⟩
theorem s_not (ha : Snd X W a f) : Snd X W (.UnaryOp .Not a pos) (sNot f) := by
  refine ⟨(pe_notT ha.pe).imp fun σ H Q q => ?_, (pt_not ha.pt).imp fun σ H Q q => ?_⟩
  · obtain ⟨α, μ, ρ, S, F, q⟩ := q
    unfold sNot sTruth at q
    rw [bind_assoc] at q
    refine ⟨α, μ, ρ, S, F, (Post.bind (rel := Rep X.K) q).imp fun v H1 q1 => ?_⟩
    obtain ⟨α1, μ1, d, S1, x1, r1, q1⟩ := q1
    obtain ⟨k, t, _, q2⟩ := truth_post S1 r1 q1
    exact ⟨k, t, q2 _ H1 α1 S1 Ext.refl rfl⟩
  · obtain ⟨α, μ, ρ, S, F, q⟩ := q
    unfold sNot at q
    unfold sTruth at q
    rw [bind_assoc] at q
    refine ⟨α, μ, ρ, S, F, (Post.bind (rel := relB) q).imp fun k H1 q1 => ?_⟩
    obtain ⟨α1, μ1, k', S1, x1, r1, q1⟩ := q1
    have ek : k' = k := r1
    subst ek
    exact q1 (!k') H1 α1 S1 Ext.refl rfl
theorem _root_.L2.pt_ifExp {tA : TT} {ta tb : TT} (hc : PT X c tA) (ha : PT X a ta) (hb : PT X b tb) : PT X (.IfExp c a b pos) (fun σ H Q => tA σ H fun k H1 => if k = true then ta σ H1 Q else tb σ H1 Q) := by
  refine ⟨fun pins s σ H Q I h => ?_⟩
  refine PyProof.Rows.isTrue_IfExp (thn (hc.run pins s σ H _ I h) fun d s1 ⟨H1, I1, q1⟩ => ?_)
  cases d with
  | true => exact ha.run pins s1 σ H1 Q I1 q1
  | false => exact hb.run pins s1 σ H1 Q I1 q1
theorem s_if (hc : Snd X W c h) (ha : Snd X W a f) (hb : Snd X W b g) : Snd X W (.IfExp c a b pos) (sIf h f g) := by
  refine ⟨(pe_ifExp hc.pt ha.pe hb.pe).imp fun σ H Q q => ?_, (pt_ifExp hc.pt ha.pt hb.pt).imp fun σ H Q q => ?_⟩
  · obtain ⟨α, μ, ρ, S, F, q⟩ := q
    refine ⟨α, μ, ρ, S, F, (Post.bind (rel := relB) q).imp fun k H1 q1 => ?_⟩
    obtain ⟨α1, μ1, k', S1, x1, r1, q1⟩ := q1
    have ek : k' = k := r1
    subst ek
    cases k' with
    | true => exact ⟨α1, μ1, ρ, S1, F.ext x1, q1⟩
    | false => exact ⟨α1, μ1, ρ, S1, F.ext x1, q1⟩
  · obtain ⟨α, μ, ρ, S, F, q⟩ := q
    unfold sTruth sIf at q
    rw [bind_assoc] at q
    refine ⟨α, μ, ρ, S, F, (Post.bind (rel := relB) q).imp fun k H1 q1 => ?_⟩
    obtain ⟨α1, μ1, k', S1, x1, r1, q1⟩ := q1
    have ek : k' = k := r1
    subst ek
    cases k' with
    | true => exact ⟨α1, μ1, ρ, S1, F.ext x1, q1⟩
    | false => exact ⟨α1, μ1, ρ, S1, F.ext x1, q1⟩
def opNeg (x : D) (μ : Store) : R D := match x with
  | .int i => .ok (.int (-i)) μ
  | _ => .no
def sNeg (f : SE) : SE := fun ρ μ => (f ρ μ).bind opNeg
theorem s_neg (ha : Snd X W a f) : Snd X W (.UnaryOp .USub a pos) (sNeg f) := by
  refine .plain ((pe_un un_neg ha.pe).imp fun σ H Q q => ?_) (by intro _; rfl)
  obtain ⟨α, μ, ρ, S, F, q⟩ := q
  refine ⟨α, μ, ρ, S, F, (Post.bind (rel := Rep X.K) q).imp fun v H1 q1 => ?_⟩
  obtain ⟨α1, μ1, d, S1, x1, r1, q1⟩ := q1
  unfold opNeg at q1
  split at q1
  · rename_i i
    exact ⟨i, r1, q1 _ H1 α1 S1 Ext.refl rfl⟩
  · exact q1.elim

/-! ### a < b < c -/
def sChain (o o' : Cmp2) (f g h : SE) : SE := fun ρ μ => (f ρ μ).bind fun x μ1 => (g ρ μ1).bind fun y μ2 => match o x y μ2 with
  | some true => (h ρ μ2).bind fun z μ3 => cmpR o' y z μ3
  | some false => .ok (.bl false) μ2
  | none => .no
theorem chain_ev {o o' : Cmp2} : ∀ σ H Q, tEv X.K X.mg W (sChain o o' f g h) σ H Q → tChain (rD X.K X.mg (cmpR o)) (rD X.K X.mg (cmpR o')) (tEv X.K X.mg W f) (tEv X.K X.mg W g) (tEv X.K X.mg W h) σ H Q := by
  intro σ H Q q
  obtain ⟨α, μ, ρ, S, F, q⟩ := q
  refine ⟨α, μ, ρ, S, F, (Post.bind (rel := Rep X.K) q).imp fun v H1 q1 => ?_⟩
  obtain ⟨α1, μ1, d, S1, x1, r1, q1⟩ := q1
  refine ⟨α1, μ1, ρ, S1, F.ext x1, (Post.bind (rel := Rep X.K) q1).imp fun w H2 q2 => ?_⟩
  obtain ⟨α2, μ2, d2, S2, x2, r2, q2⟩ := q2
  refine ⟨α2, μ2, d, d2, S2, Rep.ext x2 _ _ r1, r2, ?_⟩
  cases e : o d d2 μ2 with
  | none => rw [e] at q2; exact q2.elim
  | some k =>
    rw [e] at q2
    have e6 : cmpR o d d2 μ2 = .ok (.bl k) μ2 := by unfold cmpR; rw [e]
    rw [e6]
    intro z H3 α3 S3 x3 r3
    have r3' : z = .bl k := r3
    refine ⟨k, r3', ?_⟩
    cases k with
    | true =>
      simp only [if_true]
      refine ⟨α3, μ2, ρ, S3, (F.ext x1).ext (x2.trans x3), (Post.bind (rel := Rep X.K) (Post.up x3 q2)).imp fun z4 H4 q4 => ?_⟩
      obtain ⟨α4, μ4, d4, S4, x4, r4, q4⟩ := q4
      refine ⟨α4, μ4, d2, d4, S4, Rep.ext (x3.trans x4) _ _ r2, r4, ?_⟩
      cases e5 : o' d2 d4 μ4 with
      | none =>
        have e6 : cmpR o' d2 d4 μ4 = .no := by unfold cmpR; rw [e5]
        rw [e6] at q4; exact q4.elim
      | some k5 =>
        have e6 : cmpR o' d2 d4 μ4 = .ok (.bl k5) μ4 := by unfold cmpR; rw [e5]
        rw [e6] at q4 ⊢; exact q4
    | false =>
      simp only [Bool.false_eq_true, if_false]
      exact q2 _ H3 α3 S3 x3 rfl
theorem sChain_bool {o o' : Cmp2} : Boolish (sChain o o' f g h) := by
  intro ρ μ d μ' hh
  obtain ⟨x, μ1, _, hh⟩ := bind_ok hh
  obtain ⟨y, μ2, _, hh⟩ := bind_ok hh
  split at hh
  · obtain ⟨z, μ3, _, hh⟩ := bind_ok hh
    exact cmpR_bool hh
  · cases hh; exact ⟨_, rfl⟩
  · cases hh
theorem s_chain {op op' : CmpOp} {o o' : Cmp2} (ho : OpR X (compareOp op) (rD X.K X.mg (cmpR o))) (ho' : OpR X (compareOp op') (rD X.K X.mg (cmpR o'))) (ha : Snd X W a f) (hb : Snd X W b g) (hc : Snd X W c h)
    (hm : lastMarks [op, op'] [b, c] = false) : Snd X W (.Compare a [op, op'] [b, c] pos) (sChain o o' f g h) :=
  ⟨(pe_chain ho ho' ha.pe hb.pe hc.pe hm).imp chain_ev, (pt_chain ho ho' ha.pe hb.pe hc.pe hm).imp fun σ H Q q => chain_ev (f := f) (g := g) (h := h) σ H _ (boolish_ev sChain_bool σ H Q q)⟩

/-! ### x[i], x[lo:hi] -/
def opSub1 : Op2 := fun x y μ => match y with
  | .int i => match see μ x with
    | .lst ds => match atI ds i with | some d => .ok d μ | none => .no
    | .tup ds => match atI ds i with | some d => .ok d μ | none => .no
    | .scr ns => match atI ns i with | some n => .ok (.int n) μ | none => .no
    | .str z => if z.length ≤ sizeLine then match atI z.cps.toList i with | some c => .ok (.str ⟨#[c]⟩) μ | none => .no else .no
    | _ => .no
  | _ => .no
theorem opSub1_quiet : Quiet opSub1 := by
  intro x y μ z fs μ' h
  unfold opSub1 at h
  split at h
  · split at h
    · split at h <;> cases h
    · split at h <;> cases h
    · split at h <;> cases h
    · split at h
      · split at h <;> cases h
      · cases h
    · cases h
  · cases h
theorem RepL.at {K : PySem.W.Frag} {H : Hp} {α : As} {ds : List D} {vs : List V} {i : Int} {d : D} (r : RepL K H α ds vs) (e : atI ds i = some d) : ∃ v, atI vs i = some v ∧ Rep K H α d v := by
  unfold atI at e ⊢
  rw [RepL.length r]
  cases q : ixN ds.length i with
  | none => rw [q] at e; cases e
  | some j =>
    rw [q] at e
    simp only [Option.bind_some] at e ⊢
    exact RepL.get r e
theorem opSub1_ok : IxR X (rD X.K X.mg opSub1) := by
  intro value slice pins s σ H x y v u Q I rx ry h hs
  obtain ⟨α, μ, dx, dy, S, hx, hy, q⟩ := h
  have sx := see_ok S hx
  unfold opSub1 at q
  split at q
  · rename_i i
    have hy' : y = .int i := hy
    split at q
    · rename_i ds e1
      split at q
      · rename_i d e2
        rw [e1] at sx
        obtain ⟨p, vs, rfl, t1, r1⟩ := sx
        obtain ⟨w, hw, rw'⟩ := RepL.at r1 e2
        exact ix_seq value slice pins s σ H _ y v u Q I rx ry (.inl ⟨p, vs, i, w, rfl, hy', SqL.of t1, hw, q w H α S Ext.refl rw'⟩) hs
      · exact q.elim
    · rename_i ds e1
      split at q
      · rename_i d e2
        rw [e1] at sx
        obtain ⟨p, vs, rfl, t1, r1⟩ := seen_tup sx
        obtain ⟨w, hw, rw'⟩ := RepL.at r1 e2
        exact ix_seq value slice pins s σ H _ y v u Q I rx ry (.inr (.inl ⟨p, vs, i, w, rfl, hy', t1, hw, q w H α S Ext.refl rw'⟩)) hs
      · exact q.elim
    · rename_i ns e1
      split at q
      · rename_i n e2
        rw [e1] at sx
        obtain ⟨p, rfl, t1⟩ := sx
        have hw : atI (ns.map V.int) i = some (.int n) := by
          unfold atI at e2 ⊢
          rw [List.length_map]
          cases q0 : ixN ns.length i with
          | none => rw [q0] at e2; cases e2
          | some j =>
            rw [q0] at e2
            simp only [Option.bind_some] at e2 ⊢
            rw [List.getElem?_map, e2]; rfl
        exact ix_seq value slice pins s σ H _ y v u Q I rx ry (.inl ⟨p, _, i, _, rfl, hy', t1.sq, hw, q _ H α S Ext.refl rfl⟩) hs
      · exact q.elim
    · rename_i z e1
      split at q
      · rename_i hl
        split at q
        · rename_i c e2
          rw [e1] at sx
          exact ix_seq value slice pins s σ H _ y v u Q I rx ry (.inr (.inr ⟨z, i, c, sx, hy', hl, e2, q _ H α S Ext.refl rfl⟩)) hs
        · exact q.elim
      · exact q.elim
    · exact q.elim
  · exact q.elim
theorem s_sub (ha : Snd X W a f) (hb : Snd X W b g) (hs : PlainIx b) : Snd X W (.Subscript a b pos) (sBin opSub1 f g) :=
  .plain ((pe_ix opSub1_ok ha.pe hb.pe hs).imp (bin_ev opSub1_quiet)) (by intro _; rfl)
def cutD (xs : List D) (lo hi : Option Int) : List D := (xs.drop (HT.sIx xs.length 0 lo)).take (HT.sIx xs.length xs.length hi - HT.sIx xs.length 0 lo)
abbrev SO := Frame → Store → R (Option Int)
def sPartN : SO := fun _ μ => .ok none μ
def sPart (f : SE) : SO := fun ρ μ => (f ρ μ).bind fun d μ1 => match d with
  | .int i => .ok (some i) μ1
  | _ => .no
abbrev relO : RelT (Option Int) (Option Int) := fun _ _ a b => a = b
def tEvO (K : PySem.W.Frag) (mg : Str → Option Value) (W : WX) (f : SO) : TO := fun σ H Q => ∃ α μ ρ, StoreRel K H α μ ∧ FrameRel K H α σ ρ ∧ Post K mg relO H α Q (fun c d H' => W c d σ H') (f ρ μ)
theorem _root_.L2.PO.imp {X : Cx} {e : Option Expr} {t t' : TO} (h : PO X e t) (k : ∀ σ H Q, t' σ H Q → t σ H Q) : PO X e t' := ⟨fun pins s σ H Q I q => h.run pins s σ H Q I (k σ H Q q)⟩
theorem o_none : PO X none (tEvO X.K X.mg W sPartN) := po_none.imp fun σ H Q q => by
  obtain ⟨α, μ, ρ, S, F, q⟩ := q
  exact q none H α S Ext.refl rfl
theorem o_some (ha : Snd X W a f) : PO X (some a) (tEvO X.K X.mg W (sPart f)) := (po_some ha.pe).imp fun σ H Q q => by
  obtain ⟨α, μ, ρ, S, F, q⟩ := q
  refine ⟨α, μ, ρ, S, F, (Post.bind (rel := Rep X.K) q).imp fun v H1 q1 => ?_⟩
  obtain ⟨α1, μ1, d, S1, x1, r1, q1⟩ := q1
  split at q1
  · rename_i i
    exact ⟨i, r1, q1 _ H1 α1 S1 Ext.refl rfl⟩
  · exact q1.elim
def opSlice (x : D) (lo hi : Option Int) (μ : Store) : R D := match see μ x with
  | .lst ds => .ok (.lst (cutD ds lo hi)) μ
  | .tup ds => .ok (.tup (cutD ds lo hi)) μ
  | .str z => if z.length ≤ sizeLine then .ok (.str (cutS z lo hi)) μ else .no
  | _ => .no
def sSlice (f : SE) (l h : SO) : SE := fun ρ μ => (f ρ μ).bind fun x μ1 => (l ρ μ1).bind fun lo μ2 => (h ρ μ2).bind fun hi μ3 => opSlice x lo hi μ3
def rSlD (K : PySem.W.Frag) (mg : Str → Option Value) : V → Option Int → Option Int → Hp → VK → Prop := fun x lo hi H Q => ∃ α μ dx, StoreRel K H α μ ∧ Rep K H α dx x ∧ Post K mg (Rep K) H α Q (fun _ _ _ => False) (opSlice dx lo hi μ)
theorem RepL.cut {K : PySem.W.Frag} {H : Hp} {α : As} {ds : List D} {vs : List V} (r : RepL K H α ds vs) (lo hi : Option Int) : RepL K H α (cutD ds lo hi) (cutV vs lo hi) := by
  unfold cutD cutV
  rw [RepL.length r]
  exact RepL.take _ (RepL.drop _ r)
theorem opSlice_ok : SlR X (rSlD X.K X.mg) := by
  intro pins s σ H x v vl vu lo hi sl Q I rx hs pl pu h
  obtain ⟨α, μ, dx, S, hx, q⟩ := h
  have sx := see_ok S hx
  unfold opSlice at q
  split at q
  · rename_i ds e1
    rw [e1] at sx
    obtain ⟨p, vs, rfl, t1, r1⟩ := sx
    exact sl_list pins s σ H _ v vl vu lo hi sl Q I rx hs pl pu ⟨p, vs, rfl, SqL.of t1, fun p3 h3 => q _ _ α (S.new h3) (Ext.new h3) (Rep.newLst S (RepL.cut r1 lo hi) h3)⟩
  · rename_i ds e1
    rw [e1] at sx
    obtain ⟨p, vs, rfl, t1, r1⟩ := sx
    refine sl_tupA pins s σ H _ v vl vu lo hi sl Q I rx hs pl pu ⟨p, vs, rfl, t1.sq, fun hw => ?_, fun _ p3 h3 => q _ _ α (S.new h3) (Ext.new h3) (Rep.newTup S (RepL.cut r1 lo hi) h3)⟩
    refine q _ H α S Ext.refl ⟨p, vs, rfl, t1, ?_⟩
    have e2 : cutD ds lo hi = ds := by
      unfold cutD
      rw [RepL.length r1] at hw
      rw [hw.1, hw.2]
      simp
    rw [e2]
    exact r1
  · rename_i z e1
    split at q
    · rename_i hl
      rw [e1] at sx
      exact sl_str pins s σ H _ v vl vu lo hi sl Q I rx hs pl pu ⟨z, sx, hl, q _ H α S Ext.refl rfl⟩
    · exact q.elim
  · exact q.elim
theorem opSlice_quiet {x : D} {lo hi : Option Int} {μ μ' : Store} {z : Str} {fs : List (Str × D)} : opSlice x lo hi μ ≠ .exc z fs μ' := by
  intro h
  unfold opSlice at h
  split at h
  · cases h
  · cases h
  · split at h <;> cases h
  · cases h
theorem s_slice {lo hi : Option Expr} {l h : SO} {p2 : Pos} (ha : Snd X W a f) (hl : PO X lo (tEvO X.K X.mg W l)) (hh : PO X hi (tEvO X.K X.mg W h)) : Snd X W (.Subscript a (.Slice lo hi none p2) pos) (sSlice f l h) := by
  refine .plain ((pe_slice opSlice_ok ha.pe hl hh).imp fun σ H Q q => ?_) (by intro _; rfl)
  obtain ⟨α, μ, ρ, S, F, q⟩ := q
  refine ⟨α, μ, ρ, S, F, (Post.bind (rel := Rep X.K) q).imp fun v H1 q1 => ?_⟩
  obtain ⟨α1, μ1, d, S1, x1, r1, q1⟩ := q1
  refine ⟨α1, μ1, ρ, S1, F.ext x1, (Post.bind (rel := relO) q1).imp fun lo' H2 q2 => ?_⟩
  obtain ⟨α2, μ2, lo2, S2, x2, r2, q2⟩ := q2
  refine ⟨α2, μ2, ρ, S2, (F.ext x1).ext x2, (Post.bind (rel := relO) q2).imp fun hi' H3 q3 => ?_⟩
  obtain ⟨α3, μ3, hi2, S3, x3, r3, q3⟩ := q3
  have e2 : lo2 = lo' := r2
  have e3 : hi2 = hi' := r3
  subst e2; subst e3
  refine ⟨α3, μ3, d, S3, Rep.ext (x2.trans x3) _ _ r1, ?_⟩
  cases e : opSlice d lo2 hi2 μ3 with
  | ok z μ4 => rw [e] at q3; exact q3
  | exc z fs μ4 => exact (opSlice_quiet e).elim
  | no => rw [e] at q3; exact q3
end
end Lite

set_option Elab.async false
set_option linter.all false
set_option maxRecDepth 100000
namespace Lite
open PySem L2

/-! ### syntax without stars -/
def noStar : Expr → Bool
  | .Starred _ _ => false
  | _ => true
theorem star_cons {e : Expr} (h : noStar e = true) (es : List Expr) (env : Env) : starEach (e :: es) env = (false, eval e env) :: starEach es env := by
  cases e <;> first | rfl | cases h
theorem star_none : ∀ {es : List Expr} (h : es.all noStar = true) (env : Env) (pos : Pos), (backTo pos (starEach es env)).any (·.1) = false
  | [], _, _, _ => rfl
  | e :: es, h, env, pos => by
    rw [List.all_cons, Bool.and_eq_true] at h
    rw [star_cons h.1]
    show (false || (backTo pos (starEach es env)).any (·.1)) = false
    rw [star_none h.2 env pos]; rfl
theorem star_len : ∀ {es : List Expr} (h : es.all noStar = true) (env : Env) (pos : Pos), (backTo pos (starEach es env)).all (fun x => !x.1) = true
  | [], _, _, _ => rfl
  | e :: es, h, env, pos => by
    rw [List.all_cons, Bool.and_eq_true] at h
    rw [star_cons h.1]
    show (!false && (backTo pos (starEach es env)).all (fun x => !x.1)) = true
    rw [star_len h.2 env pos]; rfl

/-! ### defs -/
structure Fn where
  ar : Nat
  run : List D → Store → R D
def spOf (K : PySem.W.Frag) (mg : Str → Option Value) (F : Fn) : Sp := fun vs H Q E => ∃ α μ ds, StoreRel K H α μ ∧ RepL K H α ds vs ∧ ds.length = F.ar ∧ Post K mg (Rep K) H α Q E (F.run ds μ)
/-- a def stands behind the name x, and there is room to call it -/
def FnAt (X : Cx) (x : Str) (F : Fn) : Prop := ∃ f fd k ps, FnOk X.prog X.w X.K X.mg X.base (L2.CX X.prog X.w) k f fd ps (spOf X.K X.mg F) ∧ Room k X.A ∧ X.mg x = some (.ref f) ∧ PySem.W.keepIn X.K (.ref f) = true ∧ Binds X.K fd ps []
def sCall (F : Fn) (g : SA) : SE := fun ρ μ => (g ρ μ).bind fun ds μ1 => if ds.length = F.ar then F.run ds μ1 else .no
section
variable {X : Cx} {W : WX} {e a b c : Expr} {f g h : SE} {pos p : Pos} {es : List Expr} {x : Str} {F : Fn}
theorem _root_.L2.pe_callS0 {CX : CXT} {k : Nat} {f : Addr} {fd : FuncData} {ps : List Str} {sp : Sp} {E : L2.St → XK} (F : FnOk X.prog X.w X.K X.mg X.base CX k f fd ps sp) (hr : Room k X.A) (hg : Gl X x) (hm : X.mg x = some (.ref f)) (hk : PySem.W.keepIn X.K (.ref f) = true) (hb : Binds X.K fd ps []) (hx : ∀ σ, PassesAt CX X σ (E σ))
    (hdb : (x == ("__debug__" : Str)) = false) : PE X (.Call (.Name x p) [] [] pos) (fun σ H Q => sp [] H Q (E σ)) := by
  refine ⟨fun pins s σ H Q I h => ?_⟩
  refine wpAny_Call_Name_kw (ld_glob I hg hm ?_ hdb)
  exact PySem.W.callWith_K0 I.kIn hk (run_fnS (us := []) F hr hb (hx σ) I .nil h)
theorem s_call0 (hF : FnAt X x F) (tk : Takes X W) (hg : Gl X x) (hd : (x == ("__debug__" : Str)) = false) : Snd X W (.Call (.Name x p) [] [] pos) (sCall F sNil) := by
  refine .plain ?_ (by intro _; rfl)
  obtain ⟨f, fd, k, ps, G, hr, hm, hk, hb⟩ := hF
  refine (pe_callS0 G hr hg hm hk hb (passAt tk) hd).imp fun σ H Q q => ?_
  obtain ⟨α, μ, ρ, S, FR, q⟩ := q
  unfold sCall sNil at q
  simp only [R.bind] at q
  split at q
  · rename_i hl
    exact ⟨α, μ, [], S, rfl, hl, q⟩
  · exact q.elim
theorem s_call {g : SA} (hF : FnAt X x F) (tk : Takes X W) (hg : Gl X x) (hd : (x == ("__debug__" : Str)) = false) (hs : (e :: es).all noStar = true) (ha : SndA X W (e :: es) g) : Snd X W (.Call (.Name x p) (e :: es) [] pos) (sCall F g) := by
  refine .plain ?_ (by intro _; rfl)
  obtain ⟨f, fd, k, ps, G, hr, hm, hk, hb⟩ := hF
  rw [List.all_cons, Bool.and_eq_true] at hs
  refine (pe_callS G hr hg hm hk hb (passAt tk) ha hd (star_cons hs.1 es _) (star_none hs.2 _ _)).imp fun σ H Q q => ?_
  obtain ⟨α, μ, ρ, S, FR, q⟩ := q
  unfold sCall at q
  refine ⟨α, μ, ρ, S, FR, (Post.bind (rel := RepL X.K) q).imp fun vs H1 q1 => ?_⟩
  obtain ⟨α1, μ1, ds, S1, x1, r1, q1⟩ := q1
  split at q1
  · rename_i hl
    exact ⟨α1, μ1, ds, S1, r1, hl, q1⟩
  · exact q1.elim

/-! ### built-ins by their values -/
abbrev OpL := List D → Store → R D
def QuietL (o : OpL) : Prop := ∀ ds μ z fs μ', o ds μ ≠ .exc z fs μ'
def rC (K : PySem.W.Frag) (mg : Str → Option Value) (o : OpL) : List V → Hp → VK → Prop := fun vs H Q => ∃ α μ ds, StoreRel K H α μ ∧ RepL K H α ds vs ∧ Post K mg (Rep K) H α Q (fun _ _ _ => False) (o ds μ)
def sBi (o : OpL) (g : SA) : SE := fun ρ μ => (g ρ μ).bind o
theorem bi_ev {o : OpL} {g : SA} (hq : QuietL o) : ∀ σ H Q, tEv X.K X.mg W (sBi o g) σ H Q → tCB (rC X.K X.mg o) (tEvA X.K X.mg W g) σ H Q := by
  intro σ H Q q
  obtain ⟨α, μ, ρ, S, FR, q⟩ := q
  refine ⟨α, μ, ρ, S, FR, (Post.bind (rel := RepL X.K) q).imp fun vs H1 q1 => ?_⟩
  obtain ⟨α1, μ1, ds, S1, x1, r1, q1⟩ := q1
  refine ⟨α1, μ1, ds, S1, r1, ?_⟩
  cases e : o ds μ1 with
  | ok z μ3 => rw [e] at q1; exact q1
  | exc z fs μ3 => exact (hq _ _ _ _ _ e).elim
  | no => rw [e] at q1; exact q1
theorem s_bi {o : OpL} {g : SA} {id : String} (hq : QuietL o) (hc : CallR X (.builtin id) (rC X.K X.mg o)) (hg : Gl X x) (hm : X.mg x = none) (hv : bootBuiltins x = some (.builtin id)) (hn : x ≠ "__name__") (hd : (x == ("__debug__" : Str)) = false)
    (hs : (e :: es).all noStar = true) (ha : SndA X W (e :: es) g) : Snd X W (.Call (.Name x p) (e :: es) [] pos) (sBi o g) := by
  rw [List.all_cons, Bool.and_eq_true] at hs
  exact .plain ((pe_callB hc hg hm hv ha hn hd (star_cons hs.1 es _) (star_none hs.2 _ _)).imp (bi_ev hq)) (by intro _; rfl)
theorem s_ty {o : OpL} {g : SA} {T : String} (hq : QuietL o) (hc : CallR X (.type T) (rC X.K X.mg o)) (hg : Gl X x) (hm : X.mg x = none) (hv : bootBuiltins x = some (.type T)) (hn : x ≠ "__name__") (hd : (x == ("__debug__" : Str)) = false)
    (hs : (e :: es).all noStar = true) (ha : SndA X W (e :: es) g) : Snd X W (.Call (.Name x p) (e :: es) [] pos) (sBi o g) := by
  rw [List.all_cons, Bool.and_eq_true] at hs
  exact .plain ((pe_callTy hc hg hm hv ha hn hd (star_cons hs.1 es _) (star_none hs.2 _ _)).imp (bi_ev hq)) (by intro _; rfl)

theorem repL1 {K : PySem.W.Frag} {H : Hp} {α : As} {d : D} {vs : List V} (r : RepL K H α [d] vs) : ∃ v, vs = [v] ∧ Rep K H α d v := by
  obtain ⟨v, vr, rfl, h1, h2⟩ := r
  have h2' : vr = [] := h2
  subst h2'
  exact ⟨v, rfl, h1⟩
theorem repL2 {K : PySem.W.Frag} {H : Hp} {α : As} {d d2 : D} {vs : List V} (r : RepL K H α [d, d2] vs) : ∃ v w, vs = [v, w] ∧ Rep K H α d v ∧ Rep K H α d2 w := by
  obtain ⟨v, vr, rfl, h1, h2⟩ := r
  obtain ⟨w, rfl, h3⟩ := repL1 h2
  exact ⟨v, w, rfl, h1, h3⟩

def lenD : D → Option Nat
  | .str x => if x.length ≤ sizeLine then some x.length else none
  | .lst ds => some ds.length
  | .tup ds => some ds.length
  | .scr ns => some ns.length
  | _ => none
def biLen : OpL := fun ds μ => match ds with
  | [d] => match lenD (see μ d) with
    | some n => .ok (.int n) μ
    | none => .no
  | _ => .no
theorem biLen_quiet : QuietL biLen := by
  intro ds μ z fs μ' h
  unfold biLen at h
  split at h
  · split at h <;> cases h
  · cases h
theorem biLen_ok : CallR X (.builtin "len") (rC X.K X.mg biLen) := by
  intro pins s σ H xs us Q I r h
  obtain ⟨α, μ, ds, S, rl, q⟩ := h
  unfold biLen at q
  split at q
  · rename_i d
    obtain ⟨v, rfl, rv⟩ := repL1 rl
    split at q
    · rename_i n e
      have sv := see_ok S rv
      refine call_len pins s σ H _ us Q I r ⟨v, n, rfl, ?_, q _ H α S Ext.refl rfl⟩
      generalize see μ d = d' at e sv
      cases d' with
      | str x =>
        have h' : v = .str x := sv
        subst h'
        simp only [lenD] at e
        by_cases hl : x.length ≤ sizeLine
        · rw [if_pos hl] at e; cases e; exact ⟨hl, rfl⟩
        · rw [if_neg hl] at e; cases e
      | lst es =>
        obtain ⟨a, vs, rfl, h1, h2⟩ := sv
        cases e
        exact .inl ⟨vs, SqL.of h1, (RepL.length h2).symm⟩
      | tup es =>
        obtain ⟨a, vs, rfl, h1, h2⟩ := sv
        cases e
        exact .inr ⟨vs, h1.sq, (RepL.length h2).symm⟩
      | scr ns =>
        obtain ⟨a, rfl, h1⟩ := sv
        cases e
        exact .inl ⟨_, h1.sq, by simp⟩
      | _ => cases e
    · exact q.elim
  · exact q.elim

def biAbs : OpL := fun ds μ => match ds with
  | [.int i] => .ok (.int (if i < 0 then -i else i)) μ
  | _ => .no
theorem biAbs_ok : CallR X (.builtin "abs") (rC X.K X.mg biAbs) := by
  intro pins s σ H xs us Q I r h
  obtain ⟨α, μ, ds, S, rl, q⟩ := h
  unfold biAbs at q
  split at q
  · rename_i i
    obtain ⟨v, rfl, rv⟩ := repL1 rl
    have rv' : v = .int i := rv
    subst rv'
    exact call_abs pins s σ H _ us Q I r ⟨i, rfl, q _ H α S Ext.refl rfl⟩
  · exact q.elim
theorem biAbs_quiet : QuietL biAbs := by
  intro ds μ z fs μ' h
  unfold biAbs at h
  split at h <;> cases h
def biMin : OpL := fun ds μ => match ds with
  | [.int i, .int j] => .ok (.int (if j < i then j else i)) μ
  | _ => .no
theorem biMin_ok (hc : X.calm = true) : CallR X (.builtin "min") (rC X.K X.mg biMin) := by
  intro pins s σ H xs us Q I r h
  obtain ⟨α, μ, ds, S, rl, q⟩ := h
  unfold biMin at q
  split at q
  · rename_i i j
    obtain ⟨v, w, rfl, rv, rw'⟩ := repL2 rl
    have rv' : v = .int i := rv
    subst rv'
    have rw'' : w = .int j := rw'
    subst rw''
    exact call_min2 hc pins s σ H _ us Q I r ⟨i, j, rfl, q _ H α S Ext.refl rfl⟩
  · exact q.elim
theorem biMin_quiet : QuietL biMin := by
  intro ds μ z fs μ' h
  unfold biMin at h
  split at h <;> cases h
def biInt : OpL := fun ds μ => match ds with
  | [.int i] => .ok (.int i) μ
  | [.bl k] => .ok (.int (if k then 1 else 0)) μ
  | _ => .no
theorem biInt_ok : CallR X (.type "int") (rC X.K X.mg biInt) := by
  intro pins s σ H xs us Q I r h
  obtain ⟨α, μ, ds, S, rl, q⟩ := h
  unfold biInt at q
  split at q
  · rename_i i
    obtain ⟨v, rfl, rv⟩ := repL1 rl
    have rv' : v = .int i := rv
    subst rv'
    exact call_int1 pins s σ H _ us Q I r (.inl ⟨i, rfl, q _ H α S Ext.refl rfl⟩)
  · rename_i i
    obtain ⟨v, rfl, rv⟩ := repL1 rl
    have rv' : v = .bl i := rv
    subst rv'
    exact call_int1 pins s σ H _ us Q I r (.inr ⟨i, rfl, q _ H α S Ext.refl rfl⟩)
  · exact q.elim
theorem biInt_quiet : QuietL biInt := by
  intro ds μ z fs μ' h
  unfold biInt at h
  split at h <;> cases h
/-- lists of ints, of bools -/
def asInts : List D → Option (List Int)
  | [] => some []
  | .int i :: ds => (asInts ds).map (i :: ·)
  | _ => none
def asBools : List D → Option (List Bool)
  | [] => some []
  | .bl i :: ds => (asBools ds).map (i :: ·)
  | _ => none
theorem asInts_ok {K : PySem.W.Frag} {H : Hp} {α : As} : ∀ {ds : List D} {vs : List V} {ns : List Int}, RepL K H α ds vs → asInts ds = some ns → vs = ns.map V.int
  | [], vs, ns, h, e => by have h' : vs = [] := h; subst h'; cases e; rfl
  | d :: ds, vs, ns, h, e => by
    obtain ⟨v, vr, rfl, h1, h2⟩ := h
    cases d with
    | int i =>
      simp only [asInts] at e
      cases q : asInts ds with
      | none => rw [q] at e; cases e
      | some ms =>
        rw [q] at e
        cases e
        have h1' : v = .int i := h1
        subst h1'
        rw [asInts_ok h2 q]; rfl
    | _ => cases e
theorem asBools_ok {K : PySem.W.Frag} {H : Hp} {α : As} : ∀ {ds : List D} {vs : List V} {ns : List Bool}, RepL K H α ds vs → asBools ds = some ns → vs = ns.map V.bl
  | [], vs, ns, h, e => by have h' : vs = [] := h; subst h'; cases e; rfl
  | d :: ds, vs, ns, h, e => by
    obtain ⟨v, vr, rfl, h1, h2⟩ := h
    cases d with
    | bl i =>
      simp only [asBools] at e
      cases q : asBools ds with
      | none => rw [q] at e; cases e
      | some ms =>
        rw [q] at e
        cases e
        have h1' : v = .bl i := h1
        subst h1'
        rw [asBools_ok h2 q]; rfl
    | _ => cases e
def seeLst (d : D) (μ : Store) : Option (List D) := match see μ d with
  | .lst ds => some ds
  | _ => none
theorem seeLst_ok {K : PySem.W.Frag} {H : Hp} {α : As} {μ : Store} {d : D} {v : V} {ds : List D} (S : StoreRel K H α μ) (h : Rep K H α d v) (e : seeLst d μ = some ds) : ∃ a vs, v = .ref a ∧ H a = some (.lst vs) ∧ RepL K H α ds vs := by
  unfold seeLst at e
  have s1 := see_ok S h
  split at e
  · rename_i ds' e1
    cases e
    rw [e1] at s1
    exact s1
  · cases e
def biOf (p : List D → Option D) : OpL := fun ds μ => match ds with
  | [d] => match (seeLst d μ).bind p with
    | some r => .ok r μ
    | none => .no
  | _ => .no
theorem biOf_quiet {p : List D → Option D} : QuietL (biOf p) := by
  intro ds μ z fs μ' h
  unfold biOf at h
  split at h
  · split at h <;> cases h
  · cases h
def biSum : OpL := biOf fun ds => (asInts ds).map fun ns => .int ns.sum
def biAll : OpL := biOf fun ds => (asBools ds).map fun ns => .bl (ns.all id)
def biAny : OpL := biOf fun ds => (asBools ds).map fun ns => .bl (ns.any id)
theorem biSum_ok (hc : X.calm = true) : CallR X (.builtin "sum") (rC X.K X.mg biSum) := by
  intro pins s σ H xs us Q I r h
  obtain ⟨α, μ, ds, S, rl, q⟩ := h
  unfold biSum biOf at q
  split at q
  · rename_i d
    obtain ⟨v, rfl, rv⟩ := repL1 rl
    split at q
    · rename_i z e
      obtain ⟨es, e1, e2⟩ := Option.bind_eq_some_iff.mp e
      obtain ⟨ns, e3, rfl⟩ := Option.map_eq_some_iff.mp e2
      obtain ⟨a, vs, rfl, h1, h2⟩ := seeLst_ok S rv e1
      have := asInts_ok h2 e3
      subst this
      exact cr_sum hc pins s σ H _ us Q I r ⟨a, ns, rfl, SqL.of h1, q _ H α S Ext.refl rfl⟩
    · exact q.elim
  · exact q.elim
theorem biAll_ok (hc : X.calm = true) : CallR X (.builtin "all") (rC X.K X.mg biAll) := by
  intro pins s σ H xs us Q I r h
  obtain ⟨α, μ, ds, S, rl, q⟩ := h
  unfold biAll biOf at q
  split at q
  · rename_i d
    obtain ⟨v, rfl, rv⟩ := repL1 rl
    split at q
    · rename_i z e
      obtain ⟨es, e1, e2⟩ := Option.bind_eq_some_iff.mp e
      obtain ⟨ns, e3, rfl⟩ := Option.map_eq_some_iff.mp e2
      obtain ⟨a, vs, rfl, h1, h2⟩ := seeLst_ok S rv e1
      have := asBools_ok h2 e3
      subst this
      exact cr_all hc pins s σ H _ us Q I r ⟨a, ns, rfl, SqL.of h1, q _ H α S Ext.refl rfl⟩
    · exact q.elim
  · exact q.elim
theorem biAny_ok (hc : X.calm = true) : CallR X (.builtin "any") (rC X.K X.mg biAny) := by
  intro pins s σ H xs us Q I r h
  obtain ⟨α, μ, ds, S, rl, q⟩ := h
  unfold biAny biOf at q
  split at q
  · rename_i d
    obtain ⟨v, rfl, rv⟩ := repL1 rl
    split at q
    · rename_i z e
      obtain ⟨es, e1, e2⟩ := Option.bind_eq_some_iff.mp e
      obtain ⟨ns, e3, rfl⟩ := Option.map_eq_some_iff.mp e2
      obtain ⟨a, vs, rfl, h1, h2⟩ := seeLst_ok S rv e1
      have := asBools_ok h2 e3
      subst this
      exact cr_any hc pins s σ H _ us Q I r ⟨a, ns, rfl, SqL.of h1, q _ H α S Ext.refl rfl⟩
    · exact q.elim
  · exact q.elim
/-- list(x), tuple(x) of a list or a tuple -/
def biList : OpL := fun ds μ => match ds with
  | [d] => match see μ d with
    | .lst es => .ok (.lst es) μ
    | .tup es => .ok (.lst es) μ
    | _ => .no
  | _ => .no
def biTuple : OpL := fun ds μ => match ds with
  | [d] => match see μ d with
    | .lst es => .ok (.tup es) μ
    | .tup es => .ok (.tup es) μ
    | _ => .no
  | _ => .no
theorem biList_quiet : QuietL biList := by
  intro ds μ z fs μ' h
  unfold biList at h
  split at h
  · split at h <;> cases h
  · cases h
theorem biTuple_quiet : QuietL biTuple := by
  intro ds μ z fs μ' h
  unfold biTuple at h
  split at h
  · split at h <;> cases h
  · cases h
theorem biList_ok : CallR X (.type "list") (rC X.K X.mg biList) := by
  intro pins s σ H xs us Q I r h
  obtain ⟨α, μ, ds, S, rl, q⟩ := h
  unfold biList at q
  split at q
  · rename_i d
    obtain ⟨v, rfl, rv⟩ := repL1 rl
    have sv := see_ok S rv
    split at q
    · rename_i es e
      rw [e] at sv
      obtain ⟨a, vs, rfl, h1, h2⟩ := sv
      exact call_list_of pins s σ H _ us Q I r ⟨a, vs, rfl, .inl (SqL.of h1), fun p hp => q _ _ α (S.new hp) (Ext.new hp) (Rep.newLst S h2 hp)⟩
    · rename_i es e
      rw [e] at sv
      obtain ⟨a, vs, rfl, h1, h2⟩ := sv
      exact call_list_of pins s σ H _ us Q I r ⟨a, vs, rfl, .inr h1.sq, fun p hp => q _ _ α (S.new hp) (Ext.new hp) (Rep.newLst S h2 hp)⟩
    · exact q.elim
  · exact q.elim
theorem biTuple_ok : CallR X (.type "tuple") (rC X.K X.mg biTuple) := by
  intro pins s σ H xs us Q I r h
  obtain ⟨α, μ, ds, S, rl, q⟩ := h
  unfold biTuple at q
  split at q
  · rename_i d
    obtain ⟨v, rfl, rv⟩ := repL1 rl
    have sv := see_ok S rv
    split at q
    · rename_i es e
      rw [e] at sv
      obtain ⟨a, vs, rfl, h1, h2⟩ := sv
      exact call_tuple_of pins s σ H _ us Q I r ⟨a, vs, rfl, .inl ⟨SqL.of h1, fun p hp => q _ _ α (S.new hp) (Ext.new hp) (Rep.newTup S h2 hp)⟩⟩
    · rename_i es e
      rw [e] at sv
      obtain ⟨a, vs, rfl, h1, h2⟩ := sv
      exact call_tuple_of pins s σ H _ us Q I r ⟨a, vs, rfl, .inr ⟨h1.sq, q _ H α S Ext.refl ⟨a, vs, rfl, h1, h2⟩⟩⟩
    · exact q.elim
  · exact q.elim

/-! ### isinstance against a built-in class -/
def tyD : D → Option String
  | .non => some "NoneType"
  | .bl _ => some "bool"
  | .int _ => some "int"
  | .str _ => some "str"
  | .tup _ => some "tuple"
  | .lst _ => some "list"
  | .dct _ _ => some "dict"
  | _ => none
theorem tyD_ok {K : PySem.W.Frag} {H : Hp} {α : As} {d : D} {v : V} {t : String} (h : Seen K H α d v) (e : tyD d = some t) : TyX K H v (.type t) := by
  cases d with
  | non => have h' : v = .non := h; subst h'; cases e; exact .base .non
  | bl b => have h' : v = .bl b := h; subst h'; cases e; exact .base (.bl b)
  | int b => have h' : v = .int b := h; subst h'; cases e; exact .base (.int b)
  | str b => have h' : v = .str b := h; subst h'; cases e; exact .base (.str b)
  | tup ds =>
    obtain ⟨a, vs, rfl, h1, h2⟩ := h
    cases e
    rcases h1 with ⟨h1 | ⟨o, h1⟩, _⟩ | ⟨o, its, n, h1, h2, _⟩
    · exact .base (.tup h1)
    · exact .fTuple h1
    · exact .kTuple h1 h2
  | lst ds =>
    obtain ⟨a, vs, rfl, h1, h2⟩ := h
    cases e
    exact .base (.lst h1)
  | dct ks ds =>
    obtain ⟨a, vs, rfl, h1, h2⟩ := h
    cases e
    exact .base (.dK h1)
  | scr ns => cases e
  | ref i => cases e
/-- the answer; the table is checked once (below) -/
def isiB (t T : String) : Bool := t == T || (t == "bool" && T == "int")
theorem isi_tab : ∀ t ∈ ["NoneType", "bool", "int", "str", "tuple", "list", "dict"], ∀ T ∈ ["bool", "int", "str", "tuple", "list"], kitB t T = some (isiB t T) := by decide +kernel
def opIsi (T : String) (d : D) (μ : Store) : R D := match tyD (see μ d) with
  | some t => .ok (.bl (isiB t T)) μ
  | none => .no
def sIsi (T : String) (f : SE) : SE := fun ρ μ => (f ρ μ).bind (opIsi T)
theorem tyD_mem {d : D} {t : String} (e : tyD d = some t) : t ∈ ["NoneType", "bool", "int", "str", "tuple", "list", "dict"] := by
  cases d <;> simp only [tyD] at e <;> first | (cases e; simp) | cases e
theorem s_isi {T : String} {n : Str} {p2 : Pos} (hT : T ∈ ["bool", "int", "str", "tuple", "list"]) (ha : Snd X W a f) (hg : Gl X "isinstance") (hm : X.mg "isinstance" = none) (hg2 : Gl X n) (hm2 : X.mg n = none) (hv2 : bootBuiltins n = some (.type T)) (hn2 : n ≠ "__name__") (hd2 : (n == ("__debug__" : Str)) = false)
    (hs : noStar a = true) : Snd X W (.Call (.Name "isinstance" p) [a, .Name n p2] [] pos) (sIsi T f) := by
  have hpa : PA X [a, .Name n p2] (tCons (tEv X.K X.mg W f) (tCons (tC (.ty T)) tNil)) := pa_cons ha.pe (pa_cons (pe_bltn hg2 hm2 hv2 rfl hn2 hd2) pa_nil) (star_cons hs _ _)
  refine .plain ((pe_callB call_isi hg hm (by decide +kernel) hpa (by decide) (by decide) (star_cons hs _ _) (star_none (by rfl) _ _)).imp fun σ H Q q => ?_) (by intro _; rfl)
  obtain ⟨α, μ, ρ, S, FR, q⟩ := q
  refine ⟨α, μ, ρ, S, FR, (Post.bind (rel := Rep X.K) q).imp fun v H1 q1 => ?_⟩
  obtain ⟨α1, μ1, d, S1, x1, r1, q1⟩ := q1
  unfold opIsi at q1
  split at q1
  · rename_i t e
    exact ⟨v, .ty T, .type t, .type T, isiB t T, rfl, .ty T, tyD_ok (see_ok S1 r1) e, kit_ty (isi_tab t (tyD_mem e) T hT), q1 _ H1 α1 S1 Ext.refl rfl⟩
  · exact q1.elim
end
end Lite

set_option Elab.async false
set_option linter.all false
set_option maxRecDepth 100000
set_option maxHeartbeats 2000000
/-! walks over lists or tuples, by a flag: plain, enumerate, zip of two -/
namespace Lite
open PySem L2
/-- a list (true) or a tuple (false) that is read -/
def SqB (K : PySem.W.Frag) (H : Hp) : Bool → Addr → List V → Prop
  | true, a, xs => SqL K H a xs
  | false, a, xs => SqT K H a xs
/-- the same in the machine's heap, and its iterator -/
def HqB (h : Heap) : Bool → Addr → Array Value → Prop
  | true, a, its => h.IsList a its
  | false, a, its => h.IsTuple a its
def ItB (h : Heap) : Bool → Addr → Addr → Nat → Prop
  | true, it, a, i => h.IsListIter it a i
  | false, it, a, i => h.IsTupleIter it a i
def objB : Bool → Addr → Obj
  | true, a => { cls := .type "list_iterator", data := .fields #[.ref a, .int 0 0] }
  | false, a => { cls := .type "tuple_iterator", data := .fields #[.ref a, .int 0 0] }
theorem beginsB (k : Bool) (a : Addr) (its : Array Value) : Begins (.ref a) (objB k a) fun h => HqB h k a its := by
  cases k
  · exact begins_tuple a its
  · exact begins_list a its
theorem drawsB {prog : Program} {w : World} {A : Around} (hh : A.handled = none) (k : Bool) (it a : Addr) (ne : a ≠ it) (its : Array Value) :
    Draws prog w A it [it, a] its.size (fun i v => its[i]? = some v) (fun i h => ItB h k it a i ∧ HqB h k a its) := by
  cases k
  · exact Draws.tuple hh it a ne its
  · exact Draws.list hh it a ne its
theorem ItB.at {h h' : Heap} {k : Bool} {it a : Addr} {i : Nat} (x : ItB h k it a i) (q : ∀ o, h.get? it = some o → h'.get? it = some o) : ItB h' k it a i := by
  cases k
  · exact PySem.Heap.IsTupleIter.at x q
  · exact PySem.Heap.IsListIter.at x q
theorem ItB.obj {h : Heap} {k : Bool} {it a : Addr} {i : Nat} (x : ItB h k it a i) : ∃ o, h.get? it = some o ∧ ∀ v, o.data ≠ .cell v := by
  cases k
  · obtain ⟨o, e, _, d⟩ := x
    exact ⟨o, e, fun v q => by rw [d] at q; cases q⟩
  · obtain ⟨o, e, _, d⟩ := x
    exact ⟨o, e, fun v q => by rw [d] at q; cases q⟩
theorem ItB.start {h : Heap} {k : Bool} {it a : Addr} (e : h.get? it = some (objB k a)) : ItB h k it a 0 := by
  cases k
  · exact ⟨_, e, rfl, rfl⟩
  · exact ⟨_, e, rfl, rfl⟩
theorem HqB.lt {h : Heap} {k : Bool} {a : Addr} {its : Array Value} (x : HqB h k a its) : a < h.objs.size := by
  cases k
  · obtain ⟨o, e, _⟩ := x
    exact Heap.lt_size e
  · obtain ⟨o, e, _⟩ := x
    exact Heap.lt_size e
section
variable {X : Cx} {pins : List (Addr × Obj)} {σ : L2.St} {H : Hp} {s : Shared} {a : Addr} {xs ys : List V} {k : Bool}
theorem seqB (I : Inv X pins σ H s) (h : SqB X.K H k a xs) : ∃ its : List Value, Vals xs its ∧ HqB s.heap k a its.toArray := by
  cases k
  · obtain ⟨its, r, p, _⟩ := I.tuple h
    exact ⟨its, r, p⟩
  · obtain ⟨its, r, p, _⟩ := I.list h
    exact ⟨its, r, p.isList⟩
theorem seqB_inj (I : Inv X pins σ H s) (h : SqB X.K H k a xs) (h' : SqB X.K H k a ys) : xs = ys := by
  cases k
  · exact I.tuple_inj h h'
  · exact I.list_inj h h'
end

/-! ### enumerate -/
def IteB (K : PySem.W.Frag) (k : Bool) (a : Addr) : It where
  go i H := ∃ (xs : List V) (x : V), SqB K H k a xs ∧ xs[i]? = some x
  yld i H v H' := ∃ T x, v = .ref T ∧ H T = none ∧ H' = upd H T (.tup [.int (i : Nat), x]) ∧ ∀ xs, SqB K H k a xs → xs[i]? = some x
  stop i H := ∃ xs : List V, SqB K H k a xs ∧ xs.length = i
theorem turnE {P : Program} {w : World} {K : PySem.W.Frag} {elts : List Expr} {kk : Nat} {tpos : Pos} {k : Bool} (a e it : Addr) (hai : a ≠ it) (hae : e ≠ a) :
    Turn P w K (.Tuple elts kk tpos) (IteB K k a) [e, it] e (fun i h => (∃ old, IsEnum h e it ((i : Nat) : Int) old) ∧ ItB h k it a i ∧ e ≠ it) where
  mem := by simp
  obj := by
    rintro i h ⟨⟨old, he⟩, hi, _⟩ b hb
    have hb' : b = e ∨ b = it := by simpa using hb
    rcases hb' with rfl | rfl
    · exact ⟨_, he, fun v q => nomatch q⟩
    · exact hi.obj
  keep := by
    rintro i h h' ⟨⟨old, he⟩, hi, hne⟩ q
    exact ⟨⟨old, q e (by simp) _ he⟩, hi.at fun o z => q it (by simp) o z, hne⟩
  item := by
    intro X hP hw hK hc i pins s σ H E I hf st hg
    subst hP hw hK
    obtain ⟨⟨old, he⟩, hit, hne⟩ := st
    obtain ⟨xs, x, hq, hx⟩ := hg
    obtain ⟨its, rv, p⟩ := seqB I hq
    obtain ⟨u, hu, ru⟩ := rv.get hx
    have lte : e < s.heap.objs.size := Heap.lt_size he
    have lti : it < s.heap.objs.size := by obtain ⟨_, q, _⟩ := hit.obj; exact Heap.lt_size q
    have hil : i < its.toArray.size := by
      have := (List.getElem?_eq_some_iff.mp hu).1
      simpa using this
    refine wpAny_pyNext_enum_itemD (drawsB (A := X.A.in1) (I.ok.hd hc) k it a hai its.toArray) he ⟨hit, p⟩ hil hne (by simp [hne, hae]) fun y h' tk hy ho hit' hT hsz hk => ?_
    have hyu : y = u := by
      have h1 : its[i]? = some y := by simpa using hy
      exact Option.some.inj (h1.symm.trans hu)
    subst hyu
    refine ⟨_, rfl, wpAny_letOwnedTupleGo_enum (s := { s with heap := h', toks := tk + 1 }) ho fun h2 he2 sb => ?_⟩
    have hT2 : h2.get? s.heap.objs.size = some { cls := .type "tuple", data := .seq #[.int i tk, y] } := (sb.2 _ (Nat.ne_of_gt lte)).trans hT
    have new : ObjOk X.prog X.w (upd H s.heap.objs.size (.tup [.int (i : Nat), x])) h2 s.heap.objs.size (.tup [.int (i : Nat), x]) :=
      ⟨(by show 2 ≤ sizeLine; decide), [.int i tk, y], .cons ⟨_, rfl⟩ (.cons ru .nil), ⟨_, hT2, rfl, _, rfl⟩⟩
    have I1 := I.turnedNew (t' := tk + 1) (ch := [e, it]) (fun b ob hb q => (sb.2 b (fun z => hb (by simp [z]))).trans (hk b ob (fun z => hb (by simp [z])) (fun z => hb (by simp [z])) q)) hf (Nat.le_refl _) new
    refine ⟨.ref s.heap.objs.size, _, I1, rfl, ⟨_, x, rfl, I.hok.fresh (Nat.le_refl _), rfl, fun zs hz => by rw [seqB_inj I hz hq]; exact hx⟩, ⟨⟨y, ?_⟩, hit'.1.at fun o q => (sb.2 it (Ne.symm hne)).trans q, hne⟩, fun b hb => ?_⟩
    · have ei : ((i + 1 : Nat) : Int) = (i : Int) + 1 := by omega
      rw [ei]; exact he2
    · have hb' : b < s.heap.objs.size := by
        have hb2 : b = e ∨ b = it := by simpa using hb
        rcases hb2 with rfl | rfl
        · exact lte
        · exact lti
      rw [upd_ne (Nat.ne_of_lt hb')]
      exact (hf b hb).1
  done := by
    intro X hP hw hK hc i pins s σ H E I hf st hg
    subst hP hw hK
    obtain ⟨⟨old, he⟩, hit, hne⟩ := st
    obtain ⟨xs, hq, hx⟩ := hg
    obtain ⟨its, rv, p⟩ := seqB I hq
    have hl := rv.length
    have hn : i = its.toArray.size := by simp; omega
    have hit' : ItB s.heap k it a its.toArray.size := by rw [← hn]; exact hit
    obtain ⟨f0, f1, f2, f3, f4, f5⟩ := hf it (by simp)
    exact wpAny_pyNext_enum_endD (drawsB (A := X.A.in1) (I.ok.hd hc) k it a hai its.toArray) he ⟨hit', p⟩ fun h' eb => ⟨rfl, I.turned (t' := s.toks) (fun b o hb q => eb b o hb q) f0 f1 f3 f4 f5⟩
  self := by
    rintro A i s Q E ⟨⟨_, he⟩, _⟩ h
    exact wpAny_pyIter_enum he h
set_option maxHeartbeats 4000000 in
theorem meets_enum1 {v : Value} {o : Obj} {HH : Heap → Prop} (B : Begins v o HH) :
    Meets (Builtin.«enumerate.__new__» ⟨[.type "enumerate", v], []⟩) (fun _ R s => HH s.heap ∧
      R (.ok (.ret (.ref (s.heap.push o).objs.size))) { s with heap := (s.heap.push o).push { cls := .type "enumerate", data := .fields #[.none, .bool false, .ref s.heap.objs.size, rawInt 0, .none, .none] } }) :=
  .of_wp fun prog w A R s hh => by
    obtain ⟨hp, g, d, tk, os⟩ := s
    obtain ⟨h1, h2⟩ := hh
    have hs := sub_enumerate
    have step : ∀ {A' : Around} {E : Value → Shared → Prop} {Q : Value → Shared → Prop}, Q (.ref hp.objs.size) ⟨hp.push o, g, d, tk, os⟩ → wpAny (model prog w) A' (pyIter v) Q E ⟨hp, g, d, tk, os⟩ :=
      fun {A' E Q} q => B.iter prog w A' E ⟨hp, g, d, tk, os⟩ Q h1 q
    wp_walk using step
    refine wpAny_stack_any fun st => wpAny_pure ?_
    split
    · rename_i c _ _ _ _ _
      cases (c == Value.type "enumerate") <;> (wp_walk using step; exact ⟨_, rfl, h2⟩)
    · wp_walk using step
      exact ⟨_, rfl, h2⟩
theorem call_enum1 {prog : Program} {w : World} {A : Around} {E : Value → Shared → Prop} {s : Shared} {v : Value} {o : Obj} {HH : Heap → Prop} {Q : Value → Shared → Prop} (B : Begins v o HH) (h1 : HH s.heap)
    (h : ∀ h', IsEnum h' (s.heap.objs.size + 1) s.heap.objs.size 0 .none → h'.get? s.heap.objs.size = some o → (∀ b o, s.heap.get? b = some o → h'.get? b = some o) → Q (.ref (s.heap.objs.size + 1)) { s with heap := h' }) :
    wpAny (model prog w) A (call (.type "enumerate") [v]) Q E s := by
  refine callType_new F.called_enumerate (by decide) (F.typeCall_enumerate_1 _) (F.newCall_enumerate_1 _) (fun obj => F.args_object_init_2 obj _) F.entry_enumerate_new (meets_enum1 B) ⟨h1, ?_⟩
  have z1 : (s.heap.push o).objs.size = s.heap.objs.size + 1 := Heap.size_push ..
  have e1 := Heap.get?_push_size (s.heap.push o) (o := { cls := .type "enumerate", data := .fields #[.none, .bool false, .ref s.heap.objs.size, rawInt 0, .none, .none] }) rfl
  rw [z1] at e1
  show _ ∧ _
  rw [z1]
  exact ⟨⟨_, e1, rfl⟩, h _ e1 (Heap.get?_push_of_some _ (Heap.get?_push_size _ B.free)) fun b o x => Heap.get?_push_of_some _ (Heap.get?_push_of_some _ x)⟩
def iEnumB (K : PySem.W.Frag) (ta : TA) : TI := fun σ H R => ta σ H fun vs H1 => ∃ k a xs, vs = [.ref a] ∧ SqB K H1 k a xs ∧ R (IteB K k a) H1
theorem pi_enumB {X : Cx} {e : Expr} {ta : TA} {p pos tpos : Pos} {elts : List Expr} {kk : Nat} (hg : Gl X "enumerate") (hm : X.mg "enumerate" = none) (ha : PA X [e] ta) (hs : starEach [e] X.env = [(false, eval e X.env)]) :
    PI X (.Tuple elts kk tpos) (.Call (.Name "enumerate" p) [e] [] pos) (iEnumB X.K ta) := by
  refine ⟨fun pins s σ H R I h => ?_⟩
  refine PyProof.Rows.Call_ (ld_blt I hg hm PyProof.Rows.boot_enumerate (PyProof.Rows.callWith_type1 (thn (ha.run pos pins s σ H _ I h) fun us s1 ⟨vs, H1, I1, r1, q1⟩ => ?_) hs rfl))
  obtain ⟨k, a, xs, ex, hq, q⟩ := q1
  subst ex
  cases r1 with
  | cons r rr =>
    cases rr
    cases r
    obtain ⟨its, rv, p'⟩ := seqB I1 hq
    have la := p'.lt
    refine call_enum1 (beginsB k a its.toArray) p' fun h' he hit hk => wpAny_pyIter_enum he ?_
    have I2 : Inv X pins σ H1 { s1 with heap := h' } := I1.kept (t' := s1.toks) hk
    refine ⟨s1.heap.objs.size + 1, [s1.heap.objs.size + 1, s1.heap.objs.size], _, _, H1, rfl, I2, turnE a (s1.heap.objs.size + 1) s1.heap.objs.size (Nat.ne_of_lt la) (Nat.ne_of_lt (Nat.lt_succ_of_lt la)).symm, ⟨⟨.none, he⟩, ItB.start hit, Nat.succ_ne_self _⟩, fun b hb => ?_, q⟩
    have hb' : b = s1.heap.objs.size + 1 ∨ b = s1.heap.objs.size := by simpa using hb
    have hle : s1.heap.objs.size ≤ b := by
      rcases hb' with z | z
      · rw [z]; exact Nat.le_add_right _ _
      · rw [z]; exact Nat.le_refl _
    exact I1.fpOk hle (I1.hok.fresh hle)

/-! ### zip -/
def ItzB (K : PySem.W.Frag) (k l : Bool) (a b : Addr) : It where
  go i H := ∃ (xs ys : List V) (x y : V), SqB K H k a xs ∧ SqB K H l b ys ∧ xs[i]? = some x ∧ ys[i]? = some y
  yld i H v H' := ∃ T x y, v = .ref T ∧ H T = none ∧ H' = upd H T (.tup [x, y]) ∧ (∀ xs, SqB K H k a xs → xs[i]? = some x) ∧ ∀ ys, SqB K H l b ys → ys[i]? = some y
  stop i H := ∃ xs ys : List V, SqB K H k a xs ∧ SqB K H l b ys ∧ i = min xs.length ys.length
theorem turnZ {P : Program} {w : World} {K : PySem.W.Frag} {elts : List Expr} {kk : Nat} {tpos : Pos} {k l : Bool} {a b z TI TO i1 i2 : Addr} (S : ZipSep2 z TI TO i1 i2 [i1, a] [i2, b]) (n1 : a ≠ i1) (n2 : b ≠ i2) :
    Turn P w K (.Tuple elts kk tpos) (ItzB K k l a b) [z, TI, TO, i1, i2] z (fun i h => IsZip h z TI TO .none ∧ IsTupOf2 h TI (.ref i1) (.ref i2) ∧ (∃ x y, IsTupOf2 h TO x y) ∧ ItB h k i1 a i ∧ ItB h l i2 b i) where
  mem := by simp
  obj := by
    rintro i h ⟨hz, hTI, ⟨x, y, hTO⟩, h1, h2⟩ c hc
    have hc' : c = z ∨ c = TI ∨ c = TO ∨ c = i1 ∨ c = i2 := by simpa using hc
    rcases hc' with rfl | rfl | rfl | rfl | rfl
    · exact ⟨_, hz, fun v q => nomatch q⟩
    · exact ⟨_, hTI, fun v q => nomatch q⟩
    · exact ⟨_, hTO, fun v q => nomatch q⟩
    · exact h1.obj
    · exact h2.obj
  keep := by
    rintro i h h' ⟨hz, hTI, ⟨x, y, hTO⟩, h1, h2⟩ q
    exact ⟨q z (by simp) _ hz, q TI (by simp) _ hTI, ⟨x, y, q TO (by simp) _ hTO⟩, h1.at fun o e => q i1 (by simp) o e, h2.at fun o e => q i2 (by simp) o e⟩
  item := by
    intro X hP hw hK hc i pins s σ H E I hf st hg
    subst hP hw hK
    obtain ⟨hz, hTI, ⟨x0, y0, hTO⟩, h1, h2⟩ := st
    obtain ⟨xs, ys, x, y, hqx, hqy, hx, hy⟩ := hg
    obtain ⟨its, rv, p⟩ := seqB I hqx
    obtain ⟨its2, rv2, p2⟩ := seqB I hqy
    obtain ⟨u, hu, ru⟩ := rv.get hx
    obtain ⟨u2, hu2, ru2⟩ := rv2.get hy
    have ltz : z < s.heap.objs.size := Heap.lt_size hz
    have il : i < its.toArray.size := by
      have := (List.getElem?_eq_some_iff.mp hu).1
      simpa using this
    have il2 : i < its2.toArray.size := by
      have := (List.getElem?_eq_some_iff.mp hu2).1
      simpa using this
    refine wpAny_pyNext_zipD2_item S (drawsB (A := X.A.in1) (I.ok.hd hc) k i1 a n1 its.toArray) (drawsB (A := X.A.in1) (I.ok.hd hc) l i2 b n2 its2.toArray) hz hTI hTO ⟨h1, p⟩ ⟨h2, p2⟩ il il2 fun v1 v2 h' tk e1 e2 z' TO' h1' h2' hT hsz hk => ?_
    have ev1 : v1 = u := by
      have q : its[i]? = some v1 := by simpa using e1
      exact Option.some.inj (q.symm.trans hu)
    have ev2 : v2 = u2 := by
      have q : its2[i]? = some v2 := by simpa using e2
      exact Option.some.inj (q.symm.trans hu2)
    subst ev1; subst ev2
    refine ⟨_, rfl, wpAny_letOwnedTupleGo_zip (s := { s with heap := h', toks := tk }) z' fun h3 z3 sb => ?_⟩
    have hT2 : h3.get? s.heap.objs.size = some { cls := .type "tuple", data := .seq #[v1, v2] } := (sb.2 _ (Nat.ne_of_gt ltz)).trans hT
    have new : ObjOk X.prog X.w (upd H s.heap.objs.size (.tup [x, y])) h3 s.heap.objs.size (.tup [x, y]) :=
      ⟨(by show 2 ≤ sizeLine; decide), [v1, v2], .cons ru (.cons ru2 .nil), ⟨_, hT2, rfl, _, rfl⟩⟩
    have I1 := I.turnedNew (t' := tk) (ch := [z, TI, TO, i1, i2]) (fun c o hb q => (sb.2 c (fun q' => hb (by simp [q']))).trans (hk c o (fun q' => hb (by simp [q'])) (fun q' => hb (by simp [q'])) (fun q' => hb (by simp [q'])) (fun q' => hb (by simp [q'])) q)) hf (Nat.le_refl _) new
    have TIi1 := S.TIi1
    have TIi2 := S.TIi2
    refine ⟨.ref s.heap.objs.size, _, I1, rfl, ⟨_, x, y, rfl, I.hok.fresh (Nat.le_refl _), rfl, fun zs hz => by rw [seqB_inj I hz hqx]; exact hx, fun zs hz => by rw [seqB_inj I hz hqy]; exact hy⟩, ⟨z3, ?_, ⟨v1, v2, ?_⟩, ?_, ?_⟩, fun c hcm => ?_⟩
    · exact (sb.2 _ S.TIz).trans (hk _ _ S.TIz S.TITO TIi1 TIi2 hTI)
    · exact (sb.2 _ S.TOz).trans TO'
    · exact h1'.1.at fun o q => (sb.2 _ S.zi1.symm).trans q
    · exact h2'.1.at fun o q => (sb.2 _ S.zi2.symm).trans q
    · have hlt : c < s.heap.objs.size := by
        have hc' : c = z ∨ c = TI ∨ c = TO ∨ c = i1 ∨ c = i2 := by simpa using hcm
        rcases hc' with rfl | rfl | rfl | rfl | rfl
        · exact ltz
        · exact Heap.lt_size hTI
        · exact Heap.lt_size hTO
        · obtain ⟨_, q, _⟩ := h1.obj; exact Heap.lt_size q
        · obtain ⟨_, q, _⟩ := h2.obj; exact Heap.lt_size q
      rw [upd_ne (Nat.ne_of_lt hlt)]
      exact (hf c hcm).1
  done := by
    intro X hP hw hK hc i pins s σ H E I hf st hg
    subst hP hw hK
    obtain ⟨hz, hTI, ⟨x0, y0, hTO⟩, h1, h2⟩ := st
    obtain ⟨xs, ys, hqx, hqy, hend⟩ := hg
    obtain ⟨its, rv, p⟩ := seqB I hqx
    obtain ⟨its2, rv2, p2⟩ := seqB I hqy
    have l1 := rv.length
    have l2 := rv2.length
    have a1 : its.toArray.size = xs.length := by simp; omega
    have a2 : its2.toArray.size = ys.length := by simp; omega
    exact wpAny_pyNext_zipD2_end S (drawsB (A := X.A.in1) (I.ok.hd hc) k i1 a n1 its.toArray) (drawsB (A := X.A.in1) (I.ok.hd hc) l i2 b n2 its2.toArray) hz hTI hTO ⟨h1, p⟩ ⟨h2, p2⟩ (by omega) (by omega) (by omega) fun h' tk hk =>
      ⟨rfl, I.turnedL (t' := tk) (ch := [z, TI, TO, i1, i2]) (fun c o hb q => hk c o (fun q' => hb (by simp [q'])) (fun q' => hb (by simp [q'])) (fun q' => hb (by simp [q'])) (fun q' => hb (by simp [q'])) q) hf⟩
  self := by
    rintro A i s Q E ⟨hz, _⟩ h
    exact wpAny_pyIter_zip hz h
def iZipB (K : PySem.W.Frag) (ta : TA) : TI := fun σ H R => ta σ H fun vs H1 => ∃ k l a b xs ys, vs = [.ref a, .ref b] ∧ SqB K H1 k a xs ∧ SqB K H1 l b ys ∧ R (ItzB K k l a b) H1
theorem pi_zipB {X : Cx} {e e2 : Expr} {ta : TA} {p pos tpos : Pos} {elts : List Expr} {kk : Nat} (hg : Gl X "zip") (hm : X.mg "zip" = none) (ha : PA X [e, e2] ta)
    (hs : starEach [e, e2] X.env = (false, eval e X.env) :: starEach [e2] X.env) (hpl : (backTo pos (starEach [e2] X.env)).any (·.1) = false) :
    PI X (.Tuple elts kk tpos) (.Call (.Name "zip" p) [e, e2] [] pos) (iZipB X.K ta) := by
  refine ⟨fun pins s σ H R I h => ?_⟩
  refine PyProof.Rows.Call_ (ld_blt I hg hm PyProof.Rows.boot_zip (PyProof.Rows.callWith_type1 (thn (ha.run pos pins s σ H _ I h) fun us s1 ⟨vs, H1, I1, r1, q1⟩ => ?_) hs hpl))
  obtain ⟨k, l, a, b, xs, ys, ex, hqx, hqy, q⟩ := q1
  subst ex
  cases r1 with
  | cons r rr =>
    cases rr with
    | cons r' rr =>
      cases rr
      cases r
      cases r'
      obtain ⟨its, rv, p1⟩ := seqB I1 hqx
      obtain ⟨its2, rv2, p2⟩ := seqB I1 hqy
      have la := p1.lt
      have lb := p2.lt
      refine zip_begins2 (beginsB k a its.toArray) (beginsB l b its2.toArray) p1 p2 fun h' hz hTI hTO h1 h2 hsz hk => wpAny_pyIter_zip hz ?_
      have I2 : Inv X pins σ H1 { s1 with heap := h' } := I1.kept (t' := s1.toks) hk
      refine ⟨s1.heap.objs.size + 4, [s1.heap.objs.size + 4, s1.heap.objs.size + 2, s1.heap.objs.size + 3, s1.heap.objs.size, s1.heap.objs.size + 1], _, _, H1, rfl, I2,
        turnZ (zip_sep2 (fp1 := [a]) (fp2 := [b]) (by simpa using la) (by simpa using lb)) (Nat.ne_of_lt la) (Nat.ne_of_lt (Nat.lt_succ_of_lt lb)), ⟨hz, hTI, ⟨_, _, hTO⟩, ItB.start h1, ItB.start h2⟩, fun c hcm => ?_, q⟩
      have hc' : c = s1.heap.objs.size + 4 ∨ c = s1.heap.objs.size + 2 ∨ c = s1.heap.objs.size + 3 ∨ c = s1.heap.objs.size ∨ c = s1.heap.objs.size + 1 := by simpa using hcm
      have hle : s1.heap.objs.size ≤ c := by
        rcases hc' with z | z | z | z | z
        · rw [z]; exact Nat.le_add_right _ _
        · rw [z]; exact Nat.le_add_right _ _
        · rw [z]; exact Nat.le_add_right _ _
        · rw [z]; exact Nat.le_refl _
        · rw [z]; exact Nat.le_add_right _ _
      exact I1.fpOk hle (I1.hok.fresh hle)
end Lite

set_option Elab.async false
set_option linter.all false
set_option maxRecDepth 100000
namespace Lite
open PySem L2

/-! ### what is walked -/
/-- the items, and the mutable lists that must stand meanwhile -/
structure Itm where
  items : List D
  gs : List (Nat × List D)
def Gs (μ : Store) (gs : List (Nat × List D)) : Prop := ∀ p ∈ gs, μ[p.1]? = some (.lst p.2)
noncomputable def guard (μ : Store) (gs : List (Nat × List D)) : Bool := @decide (Gs μ gs) (Classical.propDecidable _)
theorem guard_ok {μ : Store} {gs : List (Nat × List D)} (h : guard μ gs = true) : Gs μ gs := by
  unfold guard at h
  exact @of_decide_eq_true _ (Classical.propDecidable _) h
@[simp] theorem guard_nil {μ : Store} : guard μ [] = true := by
  unfold guard
  exact @decide_eq_true _ (Classical.propDecidable _) (fun p hp => absurd hp (by simp))
theorem guard_one {μ : Store} {i : Nat} {ds : List D} (h : μ[i]? = some (.lst ds)) : guard μ [(i, ds)] = true := by
  unfold guard
  refine @decide_eq_true _ (Classical.propDecidable _) (fun p hp => ?_)
  simp at hp
  subst hp
  exact h
/-- a walk gives the items, while the guards stand -/
def WalkD (K : PySem.W.Frag) (J : It) (it : Itm) (H0 : Hp) (α0 : As) : Prop :=
  ∃ (G : Hp → Prop) (Y : Nat → Hp → V → Hp → Prop), Walk J it.items.length G Y ∧
    (∀ H α μ, StoreRel K H α μ → Tr H0 α0 H α → Gs μ it.gs → G H) ∧
    (∀ i H α μ x H', i < it.items.length → StoreRel K H α μ → Tr H0 α0 H α → Gs μ it.gs → Y i H x H' → StoreRel K H' α μ ∧ Ext H α H' α ∧ ∃ d, it.items[i]? = some d ∧ Rep K H' α d x)
abbrev SI := Frame → Store → R Itm
def relW (K : PySem.W.Frag) : RelT Itm It := fun H α it J => WalkD K J it H α
def tEvI (K : PySem.W.Frag) (mg : Str → Option Value) (W : WX) (f : SI) : TI := fun σ H R => ∃ α μ ρ, StoreRel K H α μ ∧ FrameRel K H α σ ρ ∧ Post K mg (relW K) H α R (fun c d H' => W c d σ H') (f ρ μ)
theorem _root_.L2.PI.imp {X : Cx} {tg e : Expr} {t t' : TI} (h : PI X tg e t) (k : ∀ σ H R, t' σ H R → t σ H R) : PI X tg e t' := ⟨fun pins s σ H Q I q => h.run pins s σ H Q I (k σ H Q q)⟩

/-- the place of a sequence, its items (under guards) from now on -/
def SeqD (K : PySem.W.Frag) (k : Bool) (a : Addr) (items : List D) (gs : List (Nat × List D)) (H0 : Hp) (α0 : As) : Prop :=
  ∀ H α μ, StoreRel K H α μ → Tr H0 α0 H α → Gs μ gs → ∃ xs, SqB K H k a xs ∧ RepL K H α items xs
def seqOf (d : D) (μ : Store) : Option Itm := match d with
  | .lst ds => some ⟨ds, []⟩
  | .tup ds => some ⟨ds, []⟩
  | .scr ns => some ⟨ns.map .int, []⟩
  | .ref i => match μ[i]? with
    | some (.lst ds) => some ⟨ds, [(i, ds)]⟩
    | _ => none
  | _ => none
theorem repL_ints {K : PySem.W.Frag} {H : Hp} {α : As} : ∀ ns : List Int, RepL K H α (ns.map D.int) (ns.map V.int)
  | [] => rfl
  | n :: ns => ⟨.int n, _, rfl, rfl, repL_ints ns⟩
theorem seqOf_ok {K : PySem.W.Frag} {H0 : Hp} {α0 : As} {μ0 : Store} {d : D} {v : V} {it : Itm} (S : StoreRel K H0 α0 μ0) (h : Rep K H0 α0 d v) (e : seqOf d μ0 = some it) :
    ∃ k a, v = .ref a ∧ SeqD K k a it.items it.gs H0 α0 := by
  cases d with
  | lst ds =>
    obtain ⟨a, vs, rfl, h1, h2, h3⟩ := h
    cases e
    refine ⟨true, a, rfl, fun H α μ S' x _ => ⟨vs, SqL.of (x.keep _ _ h1 h2).1, RepL.tr x _ _ h3⟩⟩
  | tup ds =>
    obtain ⟨a, vs, rfl, h1, h2⟩ := h
    cases e
    exact ⟨false, a, rfl, fun H α μ S' x _ => ⟨vs, (h1.tr x).sq, RepL.tr x _ _ h2⟩⟩
  | scr ns =>
    obtain ⟨a, rfl, h1⟩ := h
    cases e
    exact ⟨true, a, rfl, fun H α μ S' x _ => ⟨_, (h1.tr x).sq, repL_ints ns⟩⟩
  | ref i =>
    obtain ⟨a, rfl, h1⟩ := h
    simp only [seqOf] at e
    cases q : μ0[i]? with
    | none => rw [q] at e; cases e
    | some ob =>
      cases ob with
      | lst ds =>
        rw [q] at e
        cases e
        refine ⟨true, a, rfl, fun H α μ S' x g => ?_⟩
        have hi : μ[i]? = some (.lst ds) := g (i, ds) (by simp)
        obtain ⟨β, eβ⟩ := x.pre
        have ha : α.ix[i]? = some a := by
          rw [eβ, List.getElem?_append_left (List.getElem?_eq_some_iff.mp h1).1]
          exact h1
        obtain ⟨vs, h2, h3⟩ := S'.ob i a _ ha hi
        exact ⟨vs, SqL.of h2, h3⟩
  | _ => cases e

section
variable {K : PySem.W.Frag} {k l : Bool} {a b : Addr} {items its2 : List D} {gs gs2 : List (Nat × List D)} {H0 : Hp} {α0 : As}
/-- the iterator over a sequence -/
def ItqB (K : PySem.W.Frag) : Bool → Addr → It
  | true, a => Itl K a
  | false, a => Itt K a
theorem walkD_seq (h : SeqD K k a items gs H0 α0) : WalkD K (ItqB K k a) ⟨items, gs⟩ H0 α0 := by
  refine ⟨fun H => ∃ xs, SqB K H k a xs ∧ xs.length = items.length, fun i H x H' => H' = H ∧ ∀ xs, SqB K H k a xs → xs[i]? = some x, ⟨?_, ?_, ?_⟩, ?_, ?_⟩
  · rintro i H hi ⟨xs, q, hl⟩
    have hi' : i < items.length := hi
    cases k
    · exact ⟨xs, xs[i]'(by omega), q, by simp [show i < xs.length by omega]⟩
    · exact ⟨xs, xs[i]'(by omega), q, by simp [show i < xs.length by omega]⟩
  · rintro H ⟨xs, q, hl⟩
    cases k
    · exact ⟨xs, q, Nat.le_of_eq hl⟩
    · exact ⟨xs, q, Nat.le_of_eq hl⟩
  · rintro i H x H' hi _ y
    cases k
    · exact ⟨y.1, y.2⟩
    · exact ⟨y.1, y.2⟩
  · intro H α μ S x g
    obtain ⟨xs, q, r⟩ := h H α μ S x g
    exact ⟨xs, q, RepL.length r⟩
  · rintro i H α μ x H' hi S e g ⟨rfl, y⟩
    obtain ⟨xs, q, r⟩ := h _ α μ S e g
    refine ⟨S, Ext.refl, ?_⟩
    have hd : items[i]? = some (items[i]'hi) := by simp
    obtain ⟨v, hv, rv⟩ := RepL.get r hd
    rw [y xs q] at hv
    cases hv
    exact ⟨_, hd, rv⟩
def enumD (items : List D) : List D := items.zipIdx.map fun p => .tup [.int (p.2 : Nat), p.1]
theorem enumD_get {i : Nat} {d : D} (h : items[i]? = some d) : (enumD items)[i]? = some (.tup [.int (i : Nat), d]) := by
  unfold enumD
  rw [List.getElem?_map, List.getElem?_zipIdx, h]
  simp
theorem enumD_length : (enumD items).length = items.length := by simp [enumD]
/-- a new pair -/
theorem rep_pair {H : Hp} {α : As} {μ : Store} {T : Addr} {x y : V} {d e : D} (S : StoreRel K H α μ) (hT : H T = none) (rx : Rep K H α d x) (ry : Rep K H α e y) :
    StoreRel K (upd H T (.tup [x, y])) α μ ∧ Ext H α (upd H T (.tup [x, y])) α ∧ Rep K (upd H T (.tup [x, y])) α (.tup [d, e]) (.ref T) :=
  ⟨S.new hT, Ext.new hT, Rep.newTup S ⟨x, [y], rfl, rx, y, [], rfl, ry, rfl⟩ hT⟩
theorem walkD_enum (h : SeqD K k a items gs H0 α0) : WalkD K (IteB K k a) ⟨enumD items, gs⟩ H0 α0 := by
  refine ⟨fun H => ∃ xs, SqB K H k a xs ∧ xs.length = items.length, fun i H v H' => ∃ T x, v = .ref T ∧ H T = none ∧ H' = upd H T (.tup [.int (i : Nat), x]) ∧ ∀ xs, SqB K H k a xs → xs[i]? = some x, ⟨?_, ?_, ?_⟩, ?_, ?_⟩
  · rintro i H hi ⟨xs, q, hl⟩
    have hi' : i < items.length := by rw [← enumD_length]; exact hi
    exact ⟨xs, xs[i]'(by omega), q, by simp [show i < xs.length by omega]⟩
  · rintro H ⟨xs, q, hl⟩
    exact ⟨xs, q, by rw [hl]; exact enumD_length.symm⟩
  · rintro i H x H' hi _ y
    exact y
  · intro H α μ S x g
    obtain ⟨xs, q, r⟩ := h H α μ S x g
    exact ⟨xs, q, RepL.length r⟩
  · rintro i H α μ v H' hi S e g ⟨T, x, rfl, hT, rfl, y⟩
    obtain ⟨xs, q, r⟩ := h _ α μ S e g
    have hi' : i < items.length := by rw [← enumD_length]; exact hi
    have hd : items[i]? = some (items[i]'hi') := by simp
    obtain ⟨w, hw, rv⟩ := RepL.get r hd
    rw [y xs q] at hw
    cases hw
    obtain ⟨a1, a2, a3⟩ := rep_pair (d := .int (i : Nat)) S hT rfl rv
    exact ⟨a1, a2, _, enumD_get hd, a3⟩
def zipD (xs ys : List D) : List D := List.zipWith (fun x y => .tup [x, y]) xs ys
theorem zipD_length {xs ys : List D} : (zipD xs ys).length = min xs.length ys.length := by simp [zipD]
theorem zipD_get {xs ys : List D} {i : Nat} {x y : D} (hx : xs[i]? = some x) (hy : ys[i]? = some y) : (zipD xs ys)[i]? = some (.tup [x, y]) := by
  unfold zipD
  rw [List.getElem?_zipWith, hx, hy]
theorem walkD_zip (h : SeqD K k a items gs H0 α0) (h2 : SeqD K l b its2 gs2 H0 α0) : WalkD K (ItzB K k l a b) ⟨zipD items its2, gs ++ gs2⟩ H0 α0 := by
  have gL : ∀ {μ : Store}, Gs μ (gs ++ gs2) → Gs μ gs := fun g p hp => g p (List.mem_append_left _ hp)
  have gR : ∀ {μ : Store}, Gs μ (gs ++ gs2) → Gs μ gs2 := fun g p hp => g p (List.mem_append_right _ hp)
  refine ⟨fun H => ∃ xs ys, SqB K H k a xs ∧ SqB K H l b ys ∧ xs.length = items.length ∧ ys.length = its2.length,
    fun i H v H' => ∃ T x y, v = .ref T ∧ H T = none ∧ H' = upd H T (.tup [x, y]) ∧ (∀ xs, SqB K H k a xs → xs[i]? = some x) ∧ ∀ ys, SqB K H l b ys → ys[i]? = some y, ⟨?_, ?_, ?_⟩, ?_, ?_⟩
  · rintro i H hi ⟨xs, ys, q, q2, hl, hl2⟩
    have hi' : i < min items.length its2.length := by rw [← zipD_length]; exact hi
    exact ⟨xs, ys, xs[i]'(by omega), ys[i]'(by omega), q, q2, by simp [show i < xs.length by omega], by simp [show i < ys.length by omega]⟩
  · rintro H ⟨xs, ys, q, q2, hl, hl2⟩
    exact ⟨xs, ys, q, q2, by rw [hl, hl2]; exact zipD_length⟩
  · rintro i H x H' hi _ y
    exact y
  · intro H α μ S x g
    obtain ⟨xs, q, r⟩ := h H α μ S x (gL g)
    obtain ⟨ys, q2, r2⟩ := h2 H α μ S x (gR g)
    exact ⟨xs, ys, q, q2, RepL.length r, RepL.length r2⟩
  · rintro i H α μ v H' hi S e g ⟨T, x, y, rfl, hT, rfl, y1, y2⟩
    obtain ⟨xs, q, r⟩ := h _ α μ S e (gL g)
    obtain ⟨ys, q2, r2⟩ := h2 _ α μ S e (gR g)
    have hi' : i < min items.length its2.length := by rw [← zipD_length]; exact hi
    have hd : items[i]? = some (items[i]'(by omega)) := by simp
    have hd2 : its2[i]? = some (its2[i]'(by omega)) := by simp
    obtain ⟨w, hw, rv⟩ := RepL.get r hd
    obtain ⟨w2, hw2, rv2⟩ := RepL.get r2 hd2
    rw [y1 xs q] at hw
    rw [y2 ys q2] at hw2
    cases hw; cases hw2
    obtain ⟨a1, a2, a3⟩ := rep_pair S hT rv rv2
    exact ⟨a1, a2, _, zipD_get hd hd2, a3⟩
/-- numbers a, a + c, .. -/
def rangeD (a c : Int) (n : Nat) : List D := (List.range n).map fun i => .int (a + (i : Nat) * c)
theorem rangeD_length {a c : Int} {n : Nat} : (rangeD a c n).length = n := by simp [rangeD]
theorem rangeD_get {a c : Int} {n i : Nat} (h : i < n) : (rangeD a c n)[i]? = some (.int (a + (i : Nat) * c)) := by
  unfold rangeD
  rw [List.getElem?_map, List.getElem?_range h]
  rfl
theorem walkD_range {lo : Int} {n : Nat} : WalkD K (Itr lo n) ⟨rangeD lo 1 n, []⟩ H0 α0 := by
  refine ⟨fun _ => True, YFn fun i => .int (lo + i), ⟨fun i _ hi _ => ?_, fun _ _ => ?_, fun _ _ _ _ _ _ y => y⟩, fun _ _ _ _ _ _ => trivial, ?_⟩
  · exact (by rw [← rangeD_length (a := lo) (c := 1) (n := n)]; exact hi : i < n)
  · exact (by rw [rangeD_length]; exact Nat.le_refl _ : n ≤ (rangeD lo 1 n).length)
  · rintro i H α μ x H' hi S e g ⟨rfl, rfl⟩
    have hi' : i < n := by rw [← rangeD_length (a := lo) (c := 1) (n := n)]; exact hi
    refine ⟨S, Ext.refl, _, rangeD_get hi', ?_⟩
    show V.int _ = V.int _
    rw [Int.mul_one]
theorem walkD_rangeC {lo c : Int} {n : Nat} : WalkD K (Itc lo c n) ⟨rangeD lo c n, []⟩ H0 α0 := by
  refine ⟨fun _ => True, YFn fun i => .int (lo + (i : Nat) * c), ⟨fun i _ hi _ => ?_, fun _ _ => ?_, fun _ _ _ _ _ _ y => y⟩, fun _ _ _ _ _ _ => trivial, ?_⟩
  · exact (by rw [← rangeD_length (a := lo) (c := c) (n := n)]; exact hi : i < n)
  · exact (by rw [rangeD_length]; exact Nat.le_refl _ : n ≤ (rangeD lo c n).length)
  · rintro i H α μ x H' hi S e g ⟨rfl, rfl⟩
    have hi' : i < n := by rw [← rangeD_length (a := lo) (c := c) (n := n)]; exact hi
    exact ⟨S, Ext.refl, _, rangeD_get hi', rfl⟩
def charsD (z : Str) : List D := z.cps.toList.map fun c => .str ⟨#[c]⟩
theorem walkD_str {z : Str} : WalkD K (Its z) ⟨charsD z, []⟩ H0 α0 := by
  have hl : (charsD z).length = z.cps.size := by simp [charsD]
  refine ⟨fun _ => True, fun i H v H' => H' = H ∧ ∃ c, z.cps[i]? = some c ∧ v = .str ⟨#[c]⟩, ?_, fun _ _ _ _ _ _ => trivial, ?_⟩
  · have := walk_str (z := z)
    rw [← hl] at this
    exact this
  · rintro i H α μ x H' hi S e g ⟨rfl, c, hc, rfl⟩
    refine ⟨S, Ext.refl, .str ⟨#[c]⟩, ?_, rfl⟩
    show (charsD z)[i]? = _
    unfold charsD
    rw [List.getElem?_map, Array.getElem?_toList, hc]
    rfl
end

/-! ### iterables by their syntax -/
section
variable {X : Cx} {W : WX} {e e2 e3 tg : Expr} {f g h : SE} {p pos tpos : Pos} {elts : List Expr} {kk : Nat}
/-- a list, a tuple, a text: by what it is -/
theorem pi_any {te : TE} (he : PE X e te) : PI X tg e (fun σ H R => te σ H fun x H1 => (∃ k a xs, x = .ref a ∧ SqB X.K H1 k a xs ∧ R (ItqB X.K k a) H1) ∨ ∃ z, x = .str z ∧ R (Its z) H1) := by
  refine ⟨fun pins s σ H R I hh => ?_⟩
  refine thn (he.run pins s σ H _ I hh) fun v s1 ⟨y, H1, I1, r1, q⟩ => ?_
  rcases q with ⟨k, a, xs, rfl, hq, q⟩ | ⟨x, rfl, q⟩
  · cases r1
    cases k
    · obtain ⟨its, rv, pp, hz⟩ := I1.tuple hq
      refine wpAny_pyIter_tuple (show s1.heap.IsTuple a its.toArray from pp) ⟨s1.heap.objs.size, [s1.heap.objs.size], _, _, H1, rfl, I1.kept (t' := s1.toks) fun b o e => Heap.get?_push_of_some _ e, turn_tuple a _, ⟨_, Heap.get?_push_size _ rfl, rfl, rfl⟩, fun b hb => ?_, q⟩
      have e : b = s1.heap.objs.size := by simpa using hb
      rw [e]
      exact I1.fpOk (Nat.le_refl _) (I1.hok.fresh (Nat.le_refl _))
    · obtain ⟨its, rv, pp, hz⟩ := I1.list hq
      refine wpAny_pyIter_list pp.isList ⟨s1.heap.objs.size, [s1.heap.objs.size], _, _, H1, rfl, I1.kept (t' := s1.toks) fun b o e => Heap.get?_push_of_some _ e, turn_list a _, ⟨_, Heap.get?_push_size _ rfl, rfl, rfl⟩, fun b hb => ?_, q⟩
      have e : b = s1.heap.objs.size := by simpa using hb
      rw [e]
      exact I1.fpOk (Nat.le_refl _) (I1.hok.fresh (Nat.le_refl _))
  · obtain ⟨t, rfl⟩ := r1
    cases ha : x.cps.all (· < 128)
    · exact wpAny_pyIter_wide ha (pi_one (tk := s1.toks) I1 _ (turn_str _ x t "str_iterator" (.inr rfl)) ⟨_, Heap.get?_push_size _ rfl, rfl, rfl⟩ q)
    · exact wpAny_pyIter_ascii ha (pi_one (tk := s1.toks) I1 _ (turn_str _ x t "str_ascii_iterator" (.inl rfl)) ⟨_, Heap.get?_push_size _ rfl, rfl, rfl⟩ q)
def itmOf (d : D) (μ : Store) : R Itm := match d with
  | .str z => .ok ⟨charsD z, []⟩ μ
  | d => match seqOf d μ with
    | some it => .ok it μ
    | none => .no
def siSeq (f : SE) : SI := fun ρ μ => (f ρ μ).bind itmOf
theorem seqD_start {K : PySem.W.Frag} {k : Bool} {a : Addr} {it : Itm} {H : Hp} {α : As} {μ : Store} {d : D} (S : StoreRel K H α μ) (e : seqOf d μ = some it) (h : SeqD K k a it.items it.gs H α) : ∃ xs, SqB K H k a xs := by
  have g : Gs μ it.gs := by
    cases d with
    | ref i =>
      simp only [seqOf] at e
      cases q : μ[i]? with
      | none => rw [q] at e; cases e
      | some ob =>
        cases ob with
        | lst ds =>
          rw [q] at e
          cases e
          intro pp hp
          simp at hp
          subst hp
          exact q
    | lst ds => cases e; exact fun _ hp => absurd hp (by simp)
    | tup ds => cases e; exact fun _ hp => absurd hp (by simp)
    | scr ds => cases e; exact fun _ hp => absurd hp (by simp)
    | _ => cases e
  obtain ⟨xs, q, _⟩ := h H α μ S Ext.refl.toTr g
  exact ⟨xs, q⟩
theorem i_seq (ha : Snd X W e f) : PI X tg e (tEvI X.K X.mg W (siSeq f)) := by
  refine (pi_any ha.pe).imp fun σ H R q => ?_
  obtain ⟨α, μ, ρ, S, FR, q⟩ := q
  refine ⟨α, μ, ρ, S, FR, (Post.bind (rel := Rep X.K) q).imp fun v H1 q1 => ?_⟩
  obtain ⟨α1, μ1, d, S1, x1, r1, q1⟩ := q1
  unfold itmOf at q1
  split at q1
  · rename_i z
    exact .inr ⟨z, r1, q1 _ H1 α1 S1 Ext.refl walkD_str⟩
  · split at q1
    · rename_i it ei
      obtain ⟨k, a, rfl, sd⟩ := seqOf_ok S1 r1 ei
      obtain ⟨xs, hq⟩ := seqD_start S1 ei sd
      exact .inl ⟨k, a, xs, rfl, hq, q1 _ H1 α1 S1 Ext.refl (walkD_seq sd)⟩
    · exact q1.elim
def siEnum (f : SE) : SI := fun ρ μ => (f ρ μ).bind fun d μ1 => match seqOf d μ1 with
  | some it => .ok ⟨enumD it.items, it.gs⟩ μ1
  | none => .no
theorem i_enum (ha : Snd X W e f) (hs : noStar e = true) (hg : Gl X "enumerate") (hm : X.mg "enumerate" = none) : PI X (.Tuple elts kk tpos) (.Call (.Name "enumerate" p) [e] [] pos) (tEvI X.K X.mg W (siEnum f)) := by
  have hp : PA X [e] (tCons (tEv X.K X.mg W f) tNil) := pa_cons ha.pe pa_nil (star_cons hs _ _)
  refine (pi_enumB hg hm hp (by rw [star_cons hs]; rfl)).imp fun σ H R q => ?_
  obtain ⟨α, μ, ρ, S, FR, q⟩ := q
  refine ⟨α, μ, ρ, S, FR, (Post.bind (rel := Rep X.K) q).imp fun v H1 q1 => ?_⟩
  obtain ⟨α1, μ1, d, S1, x1, r1, q1⟩ := q1
  split at q1
  · rename_i it ei
    obtain ⟨k, a, rfl, sd⟩ := seqOf_ok S1 r1 ei
    obtain ⟨xs, hq⟩ := seqD_start S1 ei sd
    exact ⟨k, a, xs, rfl, hq, q1 _ H1 α1 S1 Ext.refl (walkD_enum sd)⟩
  · exact q1.elim
def siZip (f g : SE) : SI := fun ρ μ => (f ρ μ).bind fun d μ1 => (g ρ μ1).bind fun d2 μ2 => match seqOf d μ2, seqOf d2 μ2 with
  | some it, some it2 => .ok ⟨zipD it.items it2.items, it.gs ++ it2.gs⟩ μ2
  | _, _ => .no
theorem i_zip (ha : Snd X W e f) (hb : Snd X W e2 g) (hs : noStar e = true) (hs2 : noStar e2 = true) (hg : Gl X "zip") (hm : X.mg "zip" = none) : PI X (.Tuple elts kk tpos) (.Call (.Name "zip" p) [e, e2] [] pos) (tEvI X.K X.mg W (siZip f g)) := by
  have hp : PA X [e, e2] (tCons (tEv X.K X.mg W f) (tCons (tEv X.K X.mg W g) tNil)) := pa_cons ha.pe (pa_cons hb.pe pa_nil (star_cons hs2 _ _)) (star_cons hs _ _)
  refine (pi_zipB hg hm hp (star_cons hs _ _) (star_none (by simp [hs2]) _ _)).imp fun σ H R q => ?_
  obtain ⟨α, μ, ρ, S, FR, q⟩ := q
  refine ⟨α, μ, ρ, S, FR, (Post.bind (rel := Rep X.K) q).imp fun v H1 q1 => ?_⟩
  obtain ⟨α1, μ1, d, S1, x1, r1, q1⟩ := q1
  refine ⟨α1, μ1, ρ, S1, FR.ext x1, (Post.bind (rel := Rep X.K) q1).imp fun w H2 q2 => ?_⟩
  obtain ⟨α2, μ2, d2, S2, x2, r2, q2⟩ := q2
  split at q2
  · rename_i it it2 ei ei2
    obtain ⟨k, a, rfl, sd⟩ := seqOf_ok S2 (Rep.ext x2 _ _ r1) ei
    obtain ⟨l, b, rfl, sd2⟩ := seqOf_ok S2 r2 ei2
    obtain ⟨xs, hq⟩ := seqD_start S2 ei sd
    obtain ⟨ys, hq2⟩ := seqD_start S2 ei2 sd2
    exact ⟨k, l, a, b, xs, ys, rfl, hq, hq2, q2 _ H2 α2 S2 Ext.refl (walkD_zip sd sd2)⟩
  · exact q2.elim
def lim (i : Int) : Bool := decide (-(2 ^ 62) ≤ i) && decide (i < 2 ^ 62)
theorem lim_ok {i : Int} (h : lim i = true) : -(2 ^ 62) ≤ i ∧ i < 2 ^ 62 := by
  unfold lim at h
  rw [Bool.and_eq_true] at h
  exact ⟨of_decide_eq_true h.1, of_decide_eq_true h.2⟩
def siRange1 (f : SE) : SI := fun ρ μ => (f ρ μ).bind fun d μ1 => match d with
  | .int n => if lim n then .ok ⟨rangeD 0 1 n.toNat, []⟩ μ1 else .no
  | _ => .no
theorem i_range1 (ha : Snd X W e f) (hs : noStar e = true) (hg : Gl X "range") (hm : X.mg "range" = none) : PI X tg (.Call (.Name "range" p) [e] [] pos) (tEvI X.K X.mg W (siRange1 f)) := by
  have hp : PA X [e] (tCons (tEv X.K X.mg W f) tNil) := pa_cons ha.pe pa_nil (star_cons hs _ _)
  refine (pi_range1 hg hm hp (by rw [star_cons hs]; rfl)).imp fun σ H R q => ?_
  obtain ⟨α, μ, ρ, S, FR, q⟩ := q
  refine ⟨α, μ, ρ, S, FR, (Post.bind (rel := Rep X.K) q).imp fun v H1 q1 => ?_⟩
  obtain ⟨α1, μ1, d, S1, x1, r1, q1⟩ := q1
  split at q1
  · rename_i n
    split at q1
    · rename_i hl
      obtain ⟨l1, l2⟩ := lim_ok hl
      have r1' : v = .int n := r1
      subst r1'
      exact ⟨n, rfl, l1, l2, q1 _ H1 α1 S1 Ext.refl walkD_range⟩
    · exact q1.elim
  · exact q1.elim
def siRange2 (f g : SE) : SI := fun ρ μ => (f ρ μ).bind fun d μ1 => (g ρ μ1).bind fun d2 μ2 => match d, d2 with
  | .int i, .int j => if lim i && lim j then .ok ⟨rangeD i 1 (j - i).toNat, []⟩ μ2 else .no
  | _, _ => .no
theorem i_range2 (ha : Snd X W e f) (hb : Snd X W e2 g) (hs : noStar e = true) (hs2 : noStar e2 = true) (hg : Gl X "range") (hm : X.mg "range" = none) : PI X tg (.Call (.Name "range" p) [e, e2] [] pos) (tEvI X.K X.mg W (siRange2 f g)) := by
  have hp : PA X [e, e2] (tCons (tEv X.K X.mg W f) (tCons (tEv X.K X.mg W g) tNil)) := pa_cons ha.pe (pa_cons hb.pe pa_nil (star_cons hs2 _ _)) (star_cons hs _ _)
  refine (pi_range2 hg hm hp (by rw [star_cons hs, star_cons hs2]; rfl) (by rw [star_cons hs2]; rfl)).imp fun σ H R q => ?_
  obtain ⟨α, μ, ρ, S, FR, q⟩ := q
  refine ⟨α, μ, ρ, S, FR, (Post.bind (rel := Rep X.K) q).imp fun v H1 q1 => ?_⟩
  obtain ⟨α1, μ1, d, S1, x1, r1, q1⟩ := q1
  refine ⟨α1, μ1, ρ, S1, FR.ext x1, (Post.bind (rel := Rep X.K) q1).imp fun w H2 q2 => ?_⟩
  obtain ⟨α2, μ2, d2, S2, x2, r2, q2⟩ := q2
  split at q2
  · rename_i i j
    split at q2
    · rename_i hl
      rw [Bool.and_eq_true] at hl
      have r1' : v = .int i := r1
      have r2' : w = .int j := r2
      subst r1'; subst r2'
      exact ⟨i, j, rfl, ⟨(lim_ok hl.1).1, (lim_ok hl.1).2, (lim_ok hl.2).1, (lim_ok hl.2).2⟩, q2 _ H2 α2 S2 Ext.refl walkD_range⟩
    · exact q2.elim
  · exact q2.elim
/-- downwards by ones alone -/
def siRange3 (f g h : SE) : SI := fun ρ μ => (f ρ μ).bind fun d μ1 => (g ρ μ1).bind fun d2 μ2 => (h ρ μ2).bind fun d3 μ3 => match d, d2, d3 with
  | .int i, .int j, .int k => if lim i && lim j && decide (k = -1) then .ok ⟨rangeD i (-1) (i - j).toNat, []⟩ μ3 else .no
  | _, _, _ => .no
theorem i_range3 (ha : Snd X W e f) (hb : Snd X W e2 g) (hc : Snd X W e3 h) (hs : noStar e = true) (hs2 : noStar e2 = true) (hs3 : noStar e3 = true) (hg : Gl X "range") (hm : X.mg "range" = none) :
    PI X tg (.Call (.Name "range" p) [e, e2, e3] [] pos) (tEvI X.K X.mg W (siRange3 f g h)) := by
  have hp : PA X [e, e2, e3] (tCons (tEv X.K X.mg W f) (tCons (tEv X.K X.mg W g) (tCons (tEv X.K X.mg W h) tNil))) := pa_cons ha.pe (pa_cons hb.pe (pa_cons hc.pe pa_nil (star_cons hs3 _ _)) (star_cons hs2 _ _)) (star_cons hs _ _)
  refine (pi_range3 hg hm hp (star_cons hs _ _) (star_none (by simp [hs2, hs3]) _ _)).imp fun σ H R q => ?_
  obtain ⟨α, μ, ρ, S, FR, q⟩ := q
  refine ⟨α, μ, ρ, S, FR, (Post.bind (rel := Rep X.K) q).imp fun v H1 q1 => ?_⟩
  obtain ⟨α1, μ1, d, S1, x1, r1, q1⟩ := q1
  refine ⟨α1, μ1, ρ, S1, FR.ext x1, (Post.bind (rel := Rep X.K) q1).imp fun w H2 q2 => ?_⟩
  obtain ⟨α2, μ2, d2, S2, x2, r2, q2⟩ := q2
  refine ⟨α2, μ2, ρ, S2, (FR.ext x1).ext x2, (Post.bind (rel := Rep X.K) q2).imp fun w3 H3 q3 => ?_⟩
  obtain ⟨α3, μ3, d3, S3, x3, r3, q3⟩ := q3
  split at q3
  · rename_i i j k
    split at q3
    · rename_i hl
      rw [Bool.and_eq_true, Bool.and_eq_true] at hl
      have r1' : v = .int i := r1
      have r2' : w = .int j := r2
      have r3' : w3 = .int k := r3
      have ek : k = -1 := of_decide_eq_true hl.2
      subst r1'; subst r2'; subst r3'; subst ek
      exact ⟨i, j, -1, _, rfl, RgC.neg (lim_ok hl.1.1).1 (lim_ok hl.1.1).2 (lim_ok hl.1.2).1 (lim_ok hl.1.2).2, q3 _ H3 α3 S3 Ext.refl walkD_rangeC⟩
    · exact q3.elim
  · exact q3.elim
end
end Lite

set_option Elab.async false
set_option linter.all false
set_option maxRecDepth 100000
namespace Lite
open PySem L2

section
variable {X : Cx} {W : WX} {e e2 o a : Expr} {f g h : SE} {p pos apos cpos : Pos} {es : List Expr}

/-! ### methods of built-in types -/
theorem few_ok {es : List Expr} {env : Env} {pos : Pos} (h : es.all noStar = true) (hl : es.length < 30) : ((backTo pos (starEach es env)).all (fun x => !x.1) && (backToKw pos (keywordEach [] env)).all (fun x => x.1.isSome)
    && decide (es.length + ([] : List Keyword).length + (if ([] : List Keyword).isEmpty then 0 else 1) < 30)) = true := by
  rw [star_len h env pos]
  show (true && true && decide (es.length + 0 + 0 < 30)) = true
  simp [hl]
abbrev OpM := D → List D → Store → R D
def QuietM (o : OpM) : Prop := ∀ x ds μ z fs μ', o x ds μ ≠ .exc z fs μ'
def rM (K : PySem.W.Frag) (mg : Str → Option Value) (o : OpM) : V → List V → Hp → VK → Prop := fun x vs H Q => ∃ α μ dx ds, StoreRel K H α μ ∧ Rep K H α dx x ∧ RepL K H α ds vs ∧ Post K mg (Rep K) H α Q (fun _ _ _ => False) (o dx ds μ)
def tyChk (T : String) (d : D) (μ : Store) : Bool := match see μ d with
  | .lst _ => T == "list"
  | .dct _ _ => T == "dict"
  | .str _ => T == "str"
  | _ => false
theorem tyChk_ok {K : PySem.W.Frag} {H : Hp} {α : As} {μ : Store} {d : D} {v : V} {T : String} (S : StoreRel K H α μ) (r : Rep K H α d v) (h : tyChk T d μ = true) : tyV K T v H := by
  unfold tyChk at h
  have s1 := see_ok S r
  split at h
  · rename_i ds e
    rw [e] at s1
    obtain ⟨a, vs, rfl, h1, h2⟩ := s1
    exact .inl ⟨eq_of_beq h, vs, SqL.of h1⟩
  · rename_i ks ds e
    rw [e] at s1
    obtain ⟨a, kvs, rfl, h1, h2⟩ := s1
    exact .inr (.inr (.inl ⟨eq_of_beq h, .inl ⟨kvs, h1⟩⟩))
  · rename_i z e
    rw [e] at s1
    have e1 : v = .str z := s1
    subst e1
    exact eq_of_beq h
  · cases h
def sMeth (T : String) (o : OpM) (f : SE) (g : SA) : SE := fun ρ μ => (f ρ μ).bind fun x μ1 => if tyChk T x μ1 then (g ρ μ1).bind fun ds μ2 => o x ds μ2 else .no
theorem s_meth {T id : String} {name : Str} {op : OpM} {g : SA} (pa : PlainAttrs T) (slot : Slot T name id) (hty : typeOf (.builtin id) = pure (.type "method_descriptor")) (hq : QuietM op) (hm : MtR X id (rM X.K X.mg op)) (ho : Snd X W o f)
    (ha : SndA X W (a :: es) g) (hs : (a :: es).all noStar = true) (hn : (a :: es).length < 30) (hb : attributeBase o name X.env (eval o X.env) = eval o X.env) (hl : (apos.endLine == cpos.line) = true) :
    Snd X W (.Call (.Attribute o name apos) (a :: es) [] cpos) (sMeth T op f g) := by
  have hs2 := hs
  rw [List.all_cons, Bool.and_eq_true] at hs2
  refine .plain ((pe_bm pa slot hty hm ho.pe ha hb (few_ok hs hn) hl (star_cons hs2.1 _ _) (star_none hs2.2 _ _)).imp fun σ H Q q => ?_) (by intro _; rfl)
  obtain ⟨α, μ, ρ, S, F, q⟩ := q
  refine ⟨α, μ, ρ, S, F, (Post.bind (rel := Rep X.K) q).imp fun v H1 q1 => ?_⟩
  obtain ⟨α1, μ1, d, S1, x1, r1, q1⟩ := q1
  split at q1
  · rename_i hc
    refine ⟨tyChk_ok S1 r1 hc, α1, μ1, ρ, S1, F.ext x1, (Post.bind (rel := RepL X.K) q1).imp fun vs H2 q2 => ?_⟩
    obtain ⟨α2, μ2, ds, S2, x2, r2, q2⟩ := q2
    refine ⟨α2, μ2, d, ds, S2, Rep.ext x2 _ _ r1, r2, ?_⟩
    cases e : op d ds μ2 with
    | ok z μ3 => rw [e] at q2; exact q2
    | exc z fs μ3 => exact (hq _ _ _ _ _ _ e).elim
    | no => rw [e] at q2; exact q2
  · exact q1.elim
def opAppend : OpM := fun x ys μ => match x, ys with
  | .ref i, [y] => match μ[i]? with
    | some (.lst ds) => if ds.length < sizeLine then .ok .non (μ.set i (.lst (ds ++ [y]))) else .no
    | none => .no
  | _, _ => .no
theorem opAppend_quiet : QuietM opAppend := by
  intro x ds μ z fs μ' h
  unfold opAppend at h
  split at h
  · split at h
    · split at h <;> cases h
    · cases h
  · cases h
theorem opAppend_ok : MtR X "list.append" (rM X.K X.mg opAppend) := by
  intro pins s σ H x vs v us Q I rx rv h
  obtain ⟨α, μ, dx, ds, S, hx, hl, q⟩ := h
  unfold opAppend at q
  split at q
  · rename_i i y
    obtain ⟨w, rfl, ry⟩ := repL1 hl
    obtain ⟨a, rfl, ha⟩ := hx
    split at q
    · rename_i ds' e
      split at q
      · rename_i hn
        obtain ⟨xs, h1, h2⟩ := S.ob i a _ ha e
        refine mt_append pins s σ H _ _ v us Q I rx rv ⟨a, xs, w, rfl, rfl, h1, by rw [RepL.length h2]; exact hn, ?_⟩
        have h3 : RepL X.K H α (ds' ++ [y]) (xs ++ [w]) := RepL.append h2 ⟨w, [], rfl, ry, rfl⟩
        exact q .non _ α (S.write ha h3) (Ext.write S ha) rfl
      · exact q.elim
    · exact q.elim
  · exact q.elim
def opPop : OpM := fun x ys μ => match x, ys with
  | .ref i, [.int j] => if 0 ≤ j ∧ j < 2 ^ 62 then match μ[i]? with
    | some (.lst ds) => match ds[j.toNat]? with
      | some d => .ok d (μ.set i (.lst (ds.eraseIdx j.toNat)))
      | none => .no
    | none => .no
    else .no
  | _, _ => .no
theorem opPop_quiet : QuietM opPop := by
  intro x ds μ z fs μ' h
  unfold opPop at h
  split at h
  · split at h
    · split at h
      · split at h <;> cases h
      · cases h
    · cases h
  · cases h
theorem opPop_ok : MtR X "list.pop" (rM X.K X.mg opPop) := by
  intro pins s σ H x vs v us Q I rx rv h
  obtain ⟨α, μ, dx, ds, S, hx, hl, q⟩ := h
  unfold opPop at q
  split at q
  · rename_i i j
    obtain ⟨w, rfl, ry⟩ := repL1 hl
    have ew : w = .int j := ry
    subst ew
    obtain ⟨a, rfl, ha⟩ := hx
    split at q
    · rename_i hj
      split at q
      · rename_i ds' e
        split at q
        · rename_i d e2
          obtain ⟨xs, h1, h2⟩ := S.ob i a _ ha e
          obtain ⟨y, hy, ryy⟩ := RepL.get h2 e2
          have hlt : j.toNat < xs.length := (List.getElem?_eq_some_iff.mp hy).1
          have hix : seqIndex? j xs.length = some j.toNat := by
            have e3 : ixN xs.length j = some j.toNat := by
              unfold ixN
              rw [if_pos hj.1, if_pos (by omega)]
            exact (ixN_seq e3).1
          refine mt_popAt pins s σ H _ _ v us Q I rx rv ⟨a, xs, j, j.toNat, y, rfl, rfl, h1, by omega, by omega, hix, hy, ?_⟩
          exact q y _ α (S.write ha (RepL.erase _ h2)) (Ext.write S ha) (Rep.ext (Ext.write S ha) _ _ ryy)
        · exact q.elim
      · exact q.elim
    · exact q.elim
  · exact q.elim

/-! ### dicts by int and text keys -/
def keyD : D → Option Key
  | .int i => some (.inl i)
  | .str x => some (.inr x)
  | _ => none
theorem keyD_ok {K : PySem.W.Frag} {H : Hp} {α : As} {d : D} {v : V} {k : Key} (h : Rep K H α d v) (e : keyD d = some k) : v = kV k := by
  cases d with
  | int i => cases e; exact h
  | str i => cases e; exact h
  | _ => cases e
def valD (kvs : List (Key × D)) (k : Key) : Option D := (kvs.find? fun kv => decide (kv.1 = k)).map (·.2)
def putD (kvs : List (Key × D)) (k : Key) (v : D) : List (Key × D) :=
  if (kvs.any fun kv => decide (kv.1 = k)) = true then kvs.map (fun kv => if kv.1 = k then (kv.1, v) else kv) else kvs ++ [(k, v)]
def mergeD (kvs more : List (Key × D)) : List (Key × D) := more.foldl (fun acc kv => putD acc kv.1 kv.2) kvs
/-- item by item: the same keys, rendered values -/
def KVD (K : PySem.W.Frag) (H : Hp) (α : As) : List (Key × D) → List (Key × V) → Prop := Paired fun p q => p.1 = q.1 ∧ Rep K H α p.2 q.2
section
variable {K : PySem.W.Frag} {H : Hp} {α : As}
theorem KVD.val {k : Key} : ∀ {ds : List (Key × D)} {vs : List (Key × V)}, KVD K H α ds vs → match valD ds k with
    | some d => ∃ v, valV vs k = some v ∧ Rep K H α d v
    | none => valV vs k = none
  | [], [], _ => rfl
  | (k1, d1) :: ds, (k2, v2) :: vs, .cons r t => by
    obtain ⟨rk, rv⟩ := r
    have rk' : k1 = k2 := rk
    subst rk'
    by_cases e : k1 = k
    · have h1 : valD ((k1, d1) :: ds) k = some d1 := by simp [valD, List.find?_cons, e]
      rw [h1]
      exact ⟨v2, valV_pos (p := (k1, v2)) e, rv⟩
    · have h1 : valD ((k1, d1) :: ds) k = valD ds k := by simp [valD, List.find?_cons, e]
      rw [h1, valV_neg (p := (k1, v2)) e]
      exact KVD.val t
theorem KVD.any {k : Key} : ∀ {ds : List (Key × D)} {vs : List (Key × V)}, KVD K H α ds vs → (ds.any fun kv => decide (kv.1 = k)) = (vs.any fun kv => decide (kv.1 = k))
  | [], [], _ => rfl
  | (k1, d1) :: ds, (k2, v2) :: vs, .cons r t => by
    have rk' : k1 = k2 := r.1
    subst rk'
    simp only [List.any_cons]
    rw [KVD.any t]
theorem KVD.map {k : Key} {d : D} {v : V} (rv : Rep K H α d v) : ∀ {ds : List (Key × D)} {vs : List (Key × V)}, KVD K H α ds vs → KVD K H α (ds.map fun kv => if kv.1 = k then (kv.1, d) else kv) (vs.map fun kv => if kv.1 = k then (kv.1, v) else kv)
  | [], [], _ => .nil
  | (k1, d1) :: ds, (k2, v2) :: vs, .cons r t => by
    have rk' : k1 = k2 := r.1
    subst rk'
    refine .cons ?_ (KVD.map rv t)
    by_cases e : k1 = k
    · simp only [e, if_true]; exact ⟨trivial, rv⟩
    · simp only [e, if_false]; exact ⟨trivial, r.2⟩
theorem KVD.append : ∀ {ds es : List (Key × D)} {vs us : List (Key × V)}, KVD K H α ds vs → KVD K H α es us → KVD K H α (ds ++ es) (vs ++ us)
  | [], _, [], _, _, g => g
  | _ :: _, _, _ :: _, _, .cons r t, g => .cons r (KVD.append t g)
theorem KVD.put {k : Key} {d : D} {v : V} (rv : Rep K H α d v) {ds : List (Key × D)} {vs : List (Key × V)} (h : KVD K H α ds vs) : KVD K H α (putD ds k d) (putK vs k v) := by
  unfold putD putK
  rw [KVD.any h]
  split
  · exact KVD.map rv h
  · exact KVD.append h (.cons ⟨rfl, rv⟩ .nil)
theorem KVD.merge : ∀ {more : List (Key × D)} {mv : List (Key × V)} {ds : List (Key × D)} {vs : List (Key × V)}, KVD K H α more mv → KVD K H α ds vs → KVD K H α (mergeD ds more) (mergeK vs mv)
  | [], [], _, _, _, g => g
  | (k1, d1) :: more, (k2, v2) :: mv, ds, vs, .cons r t, g => by
    have rk' : k1 = k2 := r.1
    subst rk'
    have t' : KVD K H α more mv := t
    have z : KVD K H α (mergeD (putD ds k1 d1) more) (mergeK (putK vs k1 v2) mv) := KVD.merge t' (KVD.put r.2 g)
    exact z
theorem KVD.toRep : ∀ {ds : List (Key × D)} {vs : List (Key × V)}, KVD K H α ds vs → vs.map (·.1) = ds.map (·.1) ∧ RepL K H α (ds.map (·.2)) (vs.map (·.2))
  | [], [], _ => ⟨rfl, rfl⟩
  | (k1, d1) :: ds, (k2, v2) :: vs, .cons r t => by
    have rk' : k1 = k2 := r.1
    subst rk'
    obtain ⟨h1, h2⟩ := KVD.toRep t
    exact ⟨by simp [h1], _, _, rfl, r.2, h2⟩
theorem KVD.ofRep : ∀ {ks : List Key} {ds : List D} {vs : List (Key × V)}, vs.map (·.1) = ks → RepL K H α ds (vs.map (·.2)) → KVD K H α (ks.zip ds) vs
  | ks, [], [], e, _ => by subst e; exact .nil
  | ks, d :: ds, [], e, h => by
    obtain ⟨v, vr, e2, _⟩ := h
    cases e2
  | ks, [], v :: vs, e, h => by
    have h' : (v :: vs).map (·.2) = [] := h
    cases h'
  | ks, d :: ds, (k2, v2) :: vs, e, h => by
    obtain ⟨v, vr, e2, h1, h2⟩ := h
    simp only [List.map_cons] at e e2
    injection e2 with e3 e4
    subst e
    rw [List.zip_cons_cons]
    refine .cons ⟨rfl, by rw [e3]; exact h1⟩ (KVD.ofRep rfl (by rw [e4]; exact h2))
theorem KVD.tr {H' : Hp} {α' : As} (x : Tr H α H' α') : ∀ {ds : List (Key × D)} {vs : List (Key × V)}, KVD K H α ds vs → KVD K H' α' ds vs
  | [], [], _ => .nil
  | _ :: _, _ :: _, .cons r t => .cons ⟨r.1, Rep.tr x _ _ r.2⟩ (KVD.tr x t)
end
/-- pairs of a key and a value -/
def asPairs : List D → Option (List (Key × D))
  | [] => some []
  | .tup [a, b] :: ds => match keyD a, asPairs ds with
    | some k, some r => some ((k, b) :: r)
    | _, _ => none
  | _ => none
theorem asPairs_ok {K : PySem.W.Frag} {H : Hp} {α : As} : ∀ {ds : List D} {vs : List V} {kvs : List (Key × D)}, RepL K H α ds vs → asPairs ds = some kvs → ∃ (ps : List Addr) (kvv : List (Key × V)), vs = ps.map V.ref ∧ Paired (fun p kv => SqT K H p [kV kv.1, kv.2]) ps kvv ∧ KVD K H α kvs kvv
  | [], vs, kvs, h, e => by
    have h' : vs = [] := h
    subst h'
    cases e
    exact ⟨[], [], rfl, .nil, .nil⟩
  | d :: ds, vs, kvs, h, e => by
    obtain ⟨v, vr, rfl, h1, h2⟩ := h
    cases d with
    | tup xs =>
      match xs, e, h1 with
      | [a, b], e, h1 =>
        simp only [asPairs] at e
        cases e1 : keyD a with
        | none => rw [e1] at e; cases e
        | some k =>
          cases e2 : asPairs ds with
          | none => rw [e1, e2] at e; cases e
          | some r =>
            rw [e1, e2] at e
            cases e
            obtain ⟨pa, ws, rfl, t1, r1⟩ := h1
            obtain ⟨w1, w2, rfl, ra, rb⟩ := repL2 r1
            obtain ⟨ps, kvv, rfl, hp, hk⟩ := asPairs_ok h2 e2
            refine ⟨pa :: ps, (k, w2) :: kvv, rfl, .cons ?_ hp, .cons ⟨rfl, rb⟩ hk⟩
            have := keyD_ok ra e1
            subst this
            exact t1.sq
      | [], e, h1 => cases e
      | [_], e, h1 => cases e
      | _ :: _ :: _ :: _, e, h1 => cases e
    | _ => cases e
def biDict : OpL := biOf fun ds => (asPairs ds).map fun kvs => .dct ((mergeD [] kvs).map (·.1)) ((mergeD [] kvs).map (·.2))
theorem biDict_ok (hc : X.calm = true) : CallR X (.type "dict") (rC X.K X.mg biDict) := by
  intro pins s σ H xs us Q I r h
  obtain ⟨α, μ, ds, S, rl, q⟩ := h
  unfold biDict biOf at q
  split at q
  · rename_i d
    obtain ⟨v, rfl, rv⟩ := repL1 rl
    split at q
    · rename_i z e
      obtain ⟨es, e1, e2⟩ := Option.bind_eq_some_iff.mp e
      obtain ⟨kvs, e3, rfl⟩ := Option.map_eq_some_iff.mp e2
      obtain ⟨a, vs, rfl, h1, h2⟩ := seeLst_ok S rv e1
      obtain ⟨ps, kvv, rfl, hp, hk⟩ := asPairs_ok h2 e3
      refine call_dictP hc pins s σ H _ us Q I r ⟨a, ps, kvv, rfl, SqL.of h1, hp, fun p3 h3 => ?_⟩
      obtain ⟨k1, k2⟩ := KVD.toRep (KVD.merge (ds := []) (vs := []) hk .nil)
      exact q _ _ α (S.new h3) (Ext.new h3) ⟨p3, _, rfl, upd_same, S.notin h3, k1, RepL.ext (Ext.new h3) _ _ k2⟩
    · exact q.elim
  · exact q.elim
/-- d.get(k, x) -/
def opGet (x k y : D) (μ : Store) : R D := match x, keyD k with
  | .dct ks ds, some kk => .ok ((valD (ks.zip ds) kk).getD y) μ
  | _, _ => .no
def sGet (f g h : SE) : SE := fun ρ μ => (f ρ μ).bind fun x μ1 => if tyChk "dict" x μ1 then (g ρ μ1).bind fun k μ2 => (h ρ μ2).bind fun y μ3 => opGet x k y μ3 else .no
theorem s_get (hu : X.A.units + 1 < cLine) (ho : Snd X W o f) (ha : Snd X W a g) (hb : Snd X W e h) (hs : noStar a = true) (hs2 : noStar e = true) (hbase : attributeBase o "get" X.env (eval o X.env) = eval o X.env) (hl : (apos.endLine == cpos.line) = true)
    (ht : backTo cpos (starEach [a, e] X.env) = [(false, eval a X.env), (false, eval e X.env)]) : Snd X W (.Call (.Attribute o "get" apos) [a, e] [] cpos) (sGet f g h) := by
  refine .plain ((pe_dget2 hu ho.pe ha.pe hb.pe ⟨hbase, few_ok (by simp [hs, hs2]) (by simp), hl, ht⟩).imp fun σ H Q q => ?_) (by intro _; rfl)
  obtain ⟨α, μ, ρ, S, F, q⟩ := q
  refine ⟨α, μ, ρ, S, F, (Post.bind (rel := Rep X.K) q).imp fun v H1 q1 => ?_⟩
  obtain ⟨α1, μ1, d, S1, x1, r1, q1⟩ := q1
  split at q1
  · rename_i hc
    have hd : ∃ ks ds, d = .dct ks ds := by
      unfold tyChk at hc
      cases d with
      | dct ks ds => exact ⟨ks, ds, rfl⟩
      | ref i =>
        simp only [see] at hc
        cases q0 : μ1[i]? with
        | none => rw [q0] at hc; cases hc
        | some ob => cases ob with
          | lst _ => rw [q0] at hc; exact absurd hc (by simp)
      | lst _ => exact absurd hc (by simp [see])
      | scr _ => exact absurd hc (by simp [see])
      | str _ => exact absurd hc (by simp [see])
      | _ => cases hc
    obtain ⟨ks, ds, rfl⟩ := hd
    obtain ⟨p1, kvs, rfl, t1, t2, t3, t4⟩ := r1
    refine ⟨p1, rfl, .inl ⟨kvs, .inl t1⟩, α1, μ1, ρ, S1, F.ext x1, (Post.bind (rel := Rep X.K) q1).imp fun w H2 q2 => ?_⟩
    obtain ⟨α2, μ2, dk, S2, x2, r2, q2⟩ := q2
    refine ⟨α2, μ2, ρ, S2, (F.ext x1).ext x2, (Post.bind (rel := Rep X.K) q2).imp fun y H3 q3 => ?_⟩
    obtain ⟨α3, μ3, dy, S3, x3, r3, q3⟩ := q3
    have x23 := x2.trans x3
    unfold opGet at q3
    cases ek : keyD dk with
    | none => rw [ek] at q3; exact q3.elim
    | some kk =>
      rw [ek] at q3
      have ew := keyD_ok r2 ek
      subst ew
      have t1' := (x23.keep _ _ t1 t2).1
      refine ⟨_, DGet.k t1', ?_⟩
      have kd : KVD X.K H3 α3 (ks.zip ds) kvs := KVD.tr x23.toTr (KVD.ofRep t3 t4)
      have hv := KVD.val (k := kk) kd
      cases e5 : valD (ks.zip ds) kk with
      | none =>
        simp only [e5] at hv q3
        rw [hv]
        exact q3 _ H3 α3 S3 Ext.refl r3
      | some d5 =>
        simp only [e5] at hv q3
        obtain ⟨v5, hv5, rv5⟩ := hv
        rw [hv5]
        exact q3 _ H3 α3 S3 Ext.refl rv5
  · exact q1.elim
end
end Lite

set_option Elab.async false
set_option linter.all false
set_option maxRecDepth 100000
namespace Lite
open PySem L2

/-! ### targets -/
abbrev Tg := D → Frame → Store → Option Frame
abbrev Tgs := List D → Frame → Store → Option Frame
/-- the slots but sl are as they were -/
def Off (sl : List Nat) (σ σ' : L2.St) : Prop := σ'.length = σ.length ∧ ∀ i, i ∉ sl → σ'[i]? = σ[i]?
theorem Off.refl {sl : List Nat} {σ : L2.St} : Off sl σ σ := ⟨rfl, fun _ _ => rfl⟩
theorem Off.trans {sl sl' : List Nat} {σ σ' σ'' : L2.St} (a : Off sl σ σ') (b : Off sl' σ' σ'') : Off (sl ++ sl') σ σ'' :=
  ⟨b.1.trans a.1, fun i hi => (b.2 i fun z => hi (List.mem_append_right _ z)).trans (a.2 i fun z => hi (List.mem_append_left _ z))⟩
def tEvG (K : PySem.W.Frag) (sl : List Nat) (f : Tg) : TG := fun v σ H Q => ∃ α μ ρ d ρ', StoreRel K H α μ ∧ FrameRel K H α σ ρ ∧ Rep K H α d v ∧ f d ρ μ = some ρ' ∧ ∀ σ', FrameRel K H α σ' ρ' → Off sl σ σ' → Q σ' H
def tEvGs (K : PySem.W.Frag) (sl : List Nat) (f : Tgs) : TGs := fun vs σ H Q => ∃ α μ ρ ds ρ', StoreRel K H α μ ∧ FrameRel K H α σ ρ ∧ RepL K H α ds vs ∧ f ds ρ μ = some ρ' ∧ ∀ σ', FrameRel K H α σ' ρ' → Off sl σ σ' → Q σ' H
theorem _root_.L2.PG.imp {X : Cx} {e : Expr} {t t' : TG} (h : PG X e t) (k : ∀ v σ H Q, t' v σ H Q → t v σ H Q) : PG X e t' := ⟨fun pins s σ H v u Q I r q => h.run pins s σ H v u Q I r (k v σ H Q q)⟩
theorem _root_.L2.PGs.imp {X : Cx} {e : List Expr} {t t' : TGs} (h : PGs X e t) (k : ∀ v σ H Q, t' v σ H Q → t v σ H Q) : PGs X e t' := ⟨fun pins s σ H v u Q I r q => h.run pins s σ H v u Q I r (k v σ H Q q)⟩
def tgName (i : Nat) : Tg := fun d ρ _ => some (ρ.set i (some d))
def tgNil : Tgs := fun ds ρ _ => match ds with
  | [] => some ρ
  | _ => none
def tgCons (f : Tg) (g : Tgs) : Tgs := fun ds ρ μ => match ds with
  | d :: ds => (f d ρ μ).bind fun ρ1 => g ds ρ1 μ
  | [] => none
def tgTup (n : Nat) (f : Tgs) : Tg := fun d ρ μ => match see μ d with
  | .tup ds => if ds.length = n then f ds ρ μ else none
  | .lst ds => if ds.length = n then f ds ρ μ else none
  | _ => none
theorem aE_cons {e : Expr} (h : noStar e = true) (es : List Expr) (env : Env) : assignEach (e :: es) env = (false, assign e env) :: assignEach es env := by
  cases e <;> first | rfl | cases h
theorem aE_len : ∀ {es : List Expr} (h : es.all noStar = true) (env : Env), (assignEach es env).length = es.length
  | [], _, _ => rfl
  | e :: es, h, env => by
    rw [List.all_cons, Bool.and_eq_true] at h
    rw [aE_cons h.1, List.length_cons, aE_len h.2 env]; rfl
theorem aE_idx : ∀ {es : List Expr} (h : es.all noStar = true) (env : Env), (assignEach es env).findIdx? (·.1) = none
  | [], _, _ => rfl
  | e :: es, h, env => by
    rw [List.all_cons, Bool.and_eq_true] at h
    rw [aE_cons h.1, List.findIdx?_cons]
    simp [aE_idx h.2 env]
section
variable {X : Cx} {e : Expr} {es : List Expr} {pos : Pos}
theorem g_name {i : Nat} {x : Str} (hN : X.N.Nodup) (hi : X.N[i]? = some x) (hx : Loc X.env.scope x) (hf : X.fn x = true ∨ X.env.scope.names.lookup x = some .local) : PG X (.Name x pos) (tEvG X.K [i] (tgName i)) :=
  (pg_name hN hi hx hf).imp fun v σ H Q q => by
    obtain ⟨α, μ, ρ, d, ρ', S, F, r, e, q⟩ := q
    cases e
    refine q _ (F.set i r) ⟨by simp, fun j hj => ?_⟩
    rw [List.getElem?_set_ne]
    intro z
    exact hj (by simp [z])
theorem gs_nil : PGs X [] (tEvGs X.K [] tgNil) := pgs_nil.imp fun v σ H Q q => by
  obtain ⟨α, μ, ρ, ds, ρ', S, F, r, e, q⟩ := q
  cases ds with
  | nil =>
    cases e
    exact ⟨r, q _ F Off.refl⟩
  | cons _ _ => cases e
theorem gs_cons {sl sl2 : List Nat} {f : Tg} {g : Tgs} (h1 : PG X e (tEvG X.K sl f)) (h2 : PGs X es (tEvGs X.K sl2 g)) (hs : noStar e = true) : PGs X (e :: es) (tEvGs X.K (sl ++ sl2) (tgCons f g)) :=
  (pgs_cons h1 h2 (by rw [aE_cons hs]; rfl)).imp fun v σ H Q q => by
    obtain ⟨α, μ, ρ, ds, ρ', S, F, r, e, q⟩ := q
    cases ds with
    | nil => cases e
    | cons d ds =>
      obtain ⟨w, wr, rfl, r1, r2⟩ := r
      unfold tgCons at e
      obtain ⟨ρ1, e1, e2⟩ := Option.bind_eq_some_iff.mp e
      exact ⟨w, wr, rfl, α, μ, ρ, d, ρ1, S, F, r1, e1, fun σ1 F1 o1 => ⟨α, μ, ρ1, ds, ρ', S, F1, r2, e2, fun σ2 F2 o2 => q σ2 F2 (o1.trans o2)⟩⟩
theorem g_tup {sl : List Nat} {f : Tgs} {k : Nat} (hc : X.calm = true) (h : PGs X es (tEvGs X.K sl f)) (hs : es.all noStar = true) : PG X (.Tuple es k pos) (tEvG X.K sl (tgTup es.length f)) := by
  have p1 := pg_tup (k := k) (pos := pos) hc h (aE_len hs _) (aE_idx hs _)
  have p2 := pg_unl (k := k) (pos := pos) hc h (aE_len hs _) (aE_idx hs _)
  refine ⟨fun pins s σ H v u Q I r q => ?_⟩
  obtain ⟨α, μ, ρ, d, ρ', S, F, rd, e, q⟩ := q
  have sd := see_ok S rd
  unfold tgTup at e
  split at e
  · rename_i ds e1
    rw [e1] at sd
    obtain ⟨a, vs, rfl, t1, r1⟩ := sd
    split at e
    · rename_i hl
      exact p1.run pins s σ H _ u Q I r ⟨a, vs, rfl, t1.sq, by rw [RepL.length r1]; exact hl, α, μ, ρ, ds, ρ', S, F, r1, e, q⟩
    · cases e
  · rename_i ds e1
    rw [e1] at sd
    obtain ⟨a, vs, rfl, t1, r1⟩ := sd
    split at e
    · rename_i hl
      exact p2.run pins s σ H _ u Q I r ⟨a, vs, rfl, SqL.of t1, by rw [RepL.length r1]; exact hl, α, μ, ρ, ds, ρ', S, F, r1, e, q⟩
    · cases e
  · cases e
end

/-! ### comprehensions -/
theorem wipe_get (σ : L2.St) : ∀ (vs : List Nat) (i : Nat), (wipe σ vs)[i]? = if i ∈ vs then σ[i]?.map (fun _ => none) else σ[i]?
  | [], i => by simp [wipe]
  | v :: vs, i => by
    unfold wipe
    by_cases e : v = i
    · subst e
      rw [if_pos (by simp)]
      by_cases hl : v < (wipe σ vs).length
      · rw [List.getElem?_set_self hl]
        rw [wipe_length] at hl
        rw [List.getElem?_eq_getElem hl]; rfl
      · rw [List.getElem?_eq_none (by simpa using hl)]
        rw [wipe_length] at hl
        rw [List.getElem?_eq_none (by omega)]; rfl
    · rw [List.getElem?_set_ne e, wipe_get σ vs i]
      have : (i ∈ v :: vs) ↔ i ∈ vs := by
        constructor
        · intro z
          rcases List.mem_cons.mp z with z | z
          · exact absurd z.symm e
          · exact z
        · exact List.mem_cons_of_mem _
      simp only [this]
theorem wipe_off {sl vs : List Nat} {σ σ2 : L2.St} (o : Off sl (wipe σ vs) σ2) (h : ∀ i ∈ sl, i ∈ vs) : wipe σ2 vs = wipe σ vs := by
  apply List.ext_getElem?
  intro i
  rw [wipe_get σ2]
  by_cases hi : i ∈ vs
  · rw [if_pos hi, wipe_get σ, if_pos hi]
    have hl : σ2.length = σ.length := by rw [o.1, wipe_length]
    by_cases hlt : i < σ.length
    · rw [List.getElem?_eq_getElem (by omega), List.getElem?_eq_getElem hlt]; rfl
    · rw [List.getElem?_eq_none (by omega), List.getElem?_eq_none (by omega)]
  · rw [if_neg hi]
    exact o.2 i fun z => hi (h i z)
def R.quiet {α : Type} : R α → R α
  | .exc _ _ _ => .no
  | r => r
noncomputable def lcGo (t : Tg) (cond : ST) (f : SE) (ρ : Frame) (gs : List (Nat × List D)) : List D → List D → Store → R (List D)
  | [], acc, μ => if guard μ gs then .ok acc μ else .no
  | d :: ds, acc, μ => if guard μ gs then match t d ρ μ with
      | none => .no
      | some ρ1 => ((cond ρ1 μ).quiet).bind fun b μ1 => if b = true then ((f ρ1 μ1).quiet).bind fun y μ2 => if acc.length < sizeLine then lcGo t cond f ρ gs ds (acc ++ [y]) μ2 else .no else lcGo t cond f ρ gs ds acc μ1
    else .no
noncomputable def sLC (vs : List Nat) (it : SI) (t : Tg) (cond : ST) (f : SE) : SE := fun ρ μ => (it ρ μ).bind fun itm μ1 => (lcGo t cond f (wipeF ρ vs) itm.gs itm.items [] μ1).bind fun acc μ2 => .ok (.lst acc) μ2
/-- .. the list a mutable one -/
noncomputable def sLCm (vs : List Nat) (it : SI) (t : Tg) (cond : ST) (f : SE) : SE := fun ρ μ => (it ρ μ).bind fun itm μ1 => (lcGo t cond f (wipeF ρ vs) itm.gs itm.items [] μ1).bind fun acc μ2 => .ok (.ref μ2.length) (μ2 ++ [.lst acc])
def stYes : ST := fun _ μ => .ok true μ
abbrev W0 : WX := fun _ _ _ _ => False
theorem Post.quiet {A B : Type} {K : PySem.W.Frag} {mg : Str → Option Value} {rel : RelT A B} {H : Hp} {α : As} {Q : B → Hp → Prop} {E : XK} {r : R A} (h : Post K mg rel H α Q (fun _ _ _ => False) r.quiet) : Post K mg rel H α Q E r := by
  cases r with
  | ok a μ => exact h
  | exc _ _ _ => exact h.elim
  | no => exact h
section
variable {K : PySem.W.Frag} {mg : Str → Option Value} {W : WX} {it : SI} {t : Tg} {cond : ST} {f : SE} {sl vs : List Nat}
/-- the wish at a turn: what is left to be made -/
def LcFin (K : PySem.W.Frag) (H1 : Hp) (α1 : As) (Dd : Addr) (Q : VK) : R (List D) → Prop
  | .ok acc μ => ∀ H α accV, StoreRel K H α μ → Tr H1 α1 H α → α.hid = Dd :: α1.hid → H Dd = some (.lst accV) → RepL K H α acc accV → (∀ b ∈ α1.hid, ∀ o, H1 b = some o → H b = some o) → Q (.ref Dd) H
  | _ => False
theorem lc_ev (hsl : ∀ i ∈ sl, i ∈ vs) (fin : List D → Store → R D)
    (hfin : ∀ (H1 : Hp) (α1 : As) (Dd : Addr) (Q : VK) (E : XK) acc μ, H1 Dd = none → (∃ μ1, StoreRel K H1 α1 μ1) → Post K mg (Rep K) H1 α1 Q E (fin acc μ) → LcFin K H1 α1 Dd Q (.ok acc μ)) :
    ∀ σ H Q, tEv K mg W (fun ρ μ => (it ρ μ).bind fun itm μ1 => (lcGo t cond f (wipeF ρ vs) itm.gs itm.items [] μ1).bind fin) σ H Q → tLc (tEvI K mg W it) (tEvG K sl t) (tEvT K mg W0 cond) (tEv K mg W0 f) vs σ H Q := by
  intro σ H Q q
  obtain ⟨α, μ, ρ, S, F, q⟩ := q
  refine ⟨α, μ, ρ, S, F, (Post.bind (rel := relW K) q).imp fun J H1 q1 => ?_⟩
  obtain ⟨α1, μ1, itm, S1, x1, wd, q1⟩ := q1
  intro Dd hD
  obtain ⟨G, Y, w, hG, hY⟩ := wd
  have F1 : FrameRel K H1 α1 σ ρ := F.ext x1
  -- what is left, from the start
  have start : LcFin K H1 α1 Dd Q (lcGo t cond f (wipeF ρ vs) itm.gs itm.items [] μ1) := by
    cases e : lcGo t cond f (wipeF ρ vs) itm.gs itm.items [] μ1 with
    | ok acc μ2 =>
      rw [e] at q1
      exact hfin H1 α1 Dd Q _ acc μ2 hD ⟨μ1, S1⟩ q1
    | exc z fs μ2 =>
      exfalso
      -- the loop gives no exception
      have noexc : ∀ (ds acc : List D) (μ : Store), lcGo t cond f (wipeF ρ vs) itm.gs ds acc μ ≠ .exc z fs μ2 := by
        intro ds
        induction ds with
        | nil =>
          intro acc μ h
          unfold lcGo at h
          split at h <;> cases h
        | cons d ds ih =>
          intro acc μ h
          unfold lcGo at h
          split at h
          · split at h
            · cases h
            · rename_i ρ1 _
              cases e1 : cond ρ1 μ with
              | ok b μ3 =>
                rw [e1] at h
                simp only [R.quiet, R.bind] at h
                split at h
                · cases e2 : f ρ1 μ3 with
                  | ok y μ4 =>
                    rw [e2] at h
                    simp only [R.quiet, R.bind] at h
                    split at h
                    · exact ih _ _ h
                    · cases h
                  | exc _ _ _ => rw [e2] at h; cases h
                  | no => rw [e2] at h; cases h
                · exact ih _ _ h
              | exc _ _ _ => rw [e1] at h; cases h
              | no => rw [e1] at h; cases h
          · cases h
      exact noexc _ _ _ e
    | no => rw [e] at q1; exact q1.elim
  refine lc_it w (fun i H2 => ∃ α2 μ2 acc accV, StoreRel K H2 α2 μ2 ∧ Tr H1 α1 H2 α2 ∧ α2.hid = Dd :: α1.hid ∧ H2 Dd = some (.lst accV) ∧ RepL K H2 α2 acc accV ∧ (∀ b ∈ α1.hid, ∀ o, H1 b = some o → H2 b = some o) ∧
      LcFin K H1 α1 Dd Q (lcGo t cond f (wipeF ρ vs) itm.gs (itm.items.drop i) acc μ2)) ?_ ?_ ?_ ?_
  · exact ⟨α1.hide Dd, μ1, [], [], S1.hideNew hD, Tr.hideNew hD, rfl, upd_same, rfl, fun b _ o q => by rw [upd_ne (ne_of_none q hD)]; exact q, by simpa using start⟩
  · rintro i H2 hi ⟨α2, μ2, acc, accV, S2, tr2, hh, hDv, rl, hk, lf⟩
    have g : guard μ2 itm.gs = true := by
      cases hg : guard μ2 itm.gs with
      | true => rfl
      | false =>
        exfalso
        cases hd : itm.items.drop i with
        | nil => rw [hd] at lf; unfold lcGo at lf; rw [hg] at lf; exact lf
        | cons d ds => rw [hd] at lf; unfold lcGo at lf; rw [hg] at lf; exact lf
    exact hG H2 α2 μ2 S2 tr2 (guard_ok g)
  · rintro i x H2 H2' hi ⟨α2, μ2, acc, accV, S2, tr2, hh, hDv, rl, hk, lf⟩ y
    have hd : itm.items.drop i = itm.items[i] :: itm.items.drop (i + 1) := List.drop_eq_getElem_cons hi
    rw [hd] at lf
    unfold lcGo at lf
    split at lf
    · rename_i g
      obtain ⟨S3, x3, d, hd3, rd⟩ := hY i H2 α2 μ2 x H2' hi S2 tr2 (guard_ok g) y
      have hdd : itm.items[i] = d := by
        rw [List.getElem?_eq_getElem hi] at hd3
        exact Option.some.inj hd3
      rw [hdd] at lf
      have tr3 := tr2.trans x3.toTr
      have F3 : FrameRel K H2' α2 (wipe σ vs) (wipeF ρ vs) := (F1.tr tr3).wipe vs
      split at lf
      · exact lf.elim
      · rename_i ρ1 et
        refine ⟨α2, μ2, wipeF ρ vs, d, ρ1, S3, F3, rd, et, fun σ2 F4 off => ⟨wipe_off off hsl, α2, μ2, ρ1, S3, F4, ?_⟩⟩
        refine Post.quiet (E := fun _ _ _ => False) ?_
        cases ec : (cond ρ1 μ2).quiet with
        | no => rw [ec] at lf; exact lf.elim
        | exc _ _ _ => rw [ec] at lf; exact lf.elim
        | ok b μ4 =>
          rw [ec] at lf
          simp only [R.bind] at lf
          intro b' H4 α4 S4 x4 eb
          have eb' : b = b' := eb
          subst eb'
          have tr4 := tr3.trans x4.toTr
          have hD4 : H4 Dd = some (.lst accV) := x4.hkeep Dd (by rw [hh]; exact List.mem_cons_self ..) _ (x3.hkeep Dd (by rw [hh]; exact List.mem_cons_self ..) _ hDv)
          have hh4 : α4.hid = Dd :: α1.hid := by rw [x4.hid]; exact hh
          have hk4 : ∀ c ∈ α1.hid, ∀ o, H1 c = some o → H4 c = some o := fun c hc o q => x4.hkeep c (by rw [hh]; exact List.mem_cons_of_mem _ hc) o (x3.hkeep c (by rw [hh]; exact List.mem_cons_of_mem _ hc) o (hk c hc o q))
          have rl4 : RepL K H4 α4 acc accV := RepL.ext (x3.trans x4) _ _ rl
          cases b with
          | false =>
            rw [if_neg (by decide)] at lf
            rw [if_neg (by decide)]
            exact ⟨α4, μ4, acc, accV, S4, tr4, hh4, hD4, rl4, hk4, lf⟩
          | true =>
            rw [if_pos rfl] at lf
            rw [if_pos rfl]
            refine ⟨α4, μ4, ρ1, S4, F4.ext x4, Post.quiet (E := fun _ _ _ => False) ?_⟩
            cases ef : (f ρ1 μ4).quiet with
            | no => rw [ef] at lf; exact lf.elim
            | exc _ _ _ => rw [ef] at lf; exact lf.elim
            | ok yd μ5 =>
              rw [ef] at lf
              simp only [R.bind] at lf
              intro yv H5 α5 S5 x5 ry
              split at lf
              · rename_i hlen
                have hD5 : H5 Dd = some (.lst accV) := x5.hkeep Dd (by rw [hh4]; exact List.mem_cons_self ..) _ hD4
                have hh5 : α5.hid = Dd :: α1.hid := by rw [x5.hid]; exact hh4
                have hin : Dd ∈ α5.hid := by rw [hh5]; exact List.mem_cons_self ..
                have rl5 := RepL.ext x5 _ _ rl4
                have trH : Tr H5 α5 (upd H5 Dd (.lst (accV ++ [yv]))) α5 := Tr.hidden (.inr hin)
                refine ⟨accV, hD5, by rw [RepL.length rl5]; exact hlen, α5, μ5, acc ++ [yd], accV ++ [yv], S5.hidden hin, (tr4.trans x5.toTr).trans trH, hh5, upd_same, RepL.tr trH _ _ (RepL.append rl5 ⟨yv, [], rfl, ry, rfl⟩), fun c hc o q => ?_, lf⟩
                have ne : c ≠ Dd := ne_of_none q hD
                rw [upd_ne ne]
                exact x5.hkeep c (by rw [hh4]; exact List.mem_cons_of_mem _ hc) o (hk4 c hc o q)
              · exact lf.elim
    · exact lf.elim
  · rintro H2 ⟨α2, μ2, acc, accV, S2, tr2, hh, hDv, rl, hk, lf⟩
    rw [List.drop_length] at lf
    unfold lcGo at lf
    split at lf
    · exact lf H2 α2 accV S2 tr2 hh hDv rl hk
    · exact lf.elim
def As.drop1 (α : As) : As := ⟨α.ix, α.hid.tail⟩
theorem fin_lst : ∀ (H1 : Hp) (α1 : As) (Dd : Addr) (Q : VK) (E : XK) (acc : List D) (μ : Store), H1 Dd = none → (∃ μ1, StoreRel K H1 α1 μ1) → Post K mg (Rep K) H1 α1 Q E (.ok (.lst acc) μ) → LcFin K H1 α1 Dd Q (.ok acc μ) := by
  rintro H1 α1 Dd Q E acc μ hD ⟨μ1, S1⟩ q H α accV S tr hh hDv rl hk
  have e1 : α.drop1.ix = α.ix := rfl
  have e2 : α.hid = Dd :: α.drop1.hid := by unfold As.drop1; rw [hh]; rfl
  have sh : Tr H α H α.drop1 := Tr.show e1 e2
  have hid : α.drop1.hid = α1.hid := by unfold As.drop1; rw [hh]; rfl
  have nD : Dd ∉ α.drop1 := by
    rintro (z | z)
    · exact S.apart Dd (by rw [hh]; exact List.mem_cons_self ..) z
    · rw [hid] at z
      obtain ⟨o, ho⟩ := S1.hidThere Dd z
      rw [hD] at ho; cases ho
  exact q _ H α.drop1 (S.show e1 e2) ⟨tr.trans sh, hid, hk⟩ ⟨Dd, accV, rfl, hDv, nD, RepL.tr sh _ _ rl⟩
end
end Lite

set_option Elab.async false
set_option linter.all false
set_option maxRecDepth 100000
namespace Lite
open PySem L2

section
variable {K : PySem.W.Frag} {mg : Str → Option Value}
theorem fin_ref : ∀ (H1 : Hp) (α1 : As) (Dd : Addr) (Q : VK) (E : XK) (acc : List D) (μ : Store), H1 Dd = none → (∃ μ1, StoreRel K H1 α1 μ1) → Post K mg (Rep K) H1 α1 Q E (.ok (.ref μ.length) (μ ++ [.lst acc])) → LcFin K H1 α1 Dd Q (.ok acc μ) := by
  rintro H1 α1 Dd Q E acc μ hD ⟨μ1, S1⟩ q H α accV S tr hh hDv rl hk
  have nix : Dd ∉ α.ix := S.apart Dd (by rw [hh]; exact List.mem_cons_self ..)
  have nhid : Dd ∉ α1.hid := fun z => by
    obtain ⟨o, ho⟩ := S1.hidThere Dd z
    rw [hD] at ho; cases ho
  let α2 : As := ⟨α.ix ++ [Dd], α1.hid⟩
  have sh : Tr H α H α2 := by
    refine ⟨fun b o hb n => ⟨hb, fun z => ?_⟩, [Dd], rfl⟩
    rcases z with z | z
    · rcases List.mem_append.mp z with z | z
      · exact n (.inl z)
      · have e : b = Dd := by simpa using z
        exact n (.inr (by rw [e, hh]; exact List.mem_cons_self ..))
    · exact n (.inr (by rw [hh]; exact List.mem_cons_of_mem _ z))
  have S2 : StoreRel K H α2 (μ ++ [.lst acc]) := by
    refine ⟨by show (α.ix ++ [Dd]).length = _; simp [S.len], ?_, fun a ha z => ?_, fun a ha => S.hidThere a (by rw [hh]; exact List.mem_cons_of_mem _ ha), fun i a ob ha hm => ?_⟩
    · show (α.ix ++ [Dd]).Nodup
      rw [List.nodup_append]
      refine ⟨S.nd, by simp, fun x hx y hy e => ?_⟩
      have ey : y = Dd := by simpa using hy
      rw [e, ey] at hx
      exact nix hx
    · rcases List.mem_append.mp z with z | z
      · exact S.apart a (by rw [hh]; exact List.mem_cons_of_mem _ ha) z
      · have e : a = Dd := by simpa using z
        rw [e] at ha
        exact nhid ha
    · have ha : (α.ix ++ [Dd])[i]? = some a := ha
      by_cases hi : i < α.ix.length
      · rw [List.getElem?_append_left hi] at ha
        rw [List.getElem?_append_left (by rw [← S.len]; exact hi)] at hm
        exact (S.ob i a ob ha hm).tr sh fun u e => e
      · have e1 : i = α.ix.length := by
          have := (List.getElem?_eq_some_iff.mp ha).1
          simp at this; omega
        subst e1
        rw [List.getElem?_append_right (Nat.le_refl _)] at ha
        rw [S.len, List.getElem?_append_right (Nat.le_refl _)] at hm
        simp at ha hm
        subst ha; subst hm
        exact ⟨accV, hDv, RepL.tr sh _ _ rl⟩
  exact q _ H α2 S2 ⟨tr.trans sh, rfl, hk⟩ ⟨Dd, rfl, by show (α.ix ++ [Dd])[μ.length]? = _; rw [← S.len]; simp⟩
end
section
variable {X : Cx} {W : WX} {elt tg iter : Expr} {ifs : List Expr} {scope : Scope} {own : List (Str × Nat)} {pos : Pos} {it : SI} {t : Tg} {cond : ST} {f : SE} {sl : List Nat}
abbrev InBlk (X : Cx) (scope : Scope) (P : Cx → Prop) : Prop := ∀ (s : Shared) (H : Hp) (C : Addr) (cl : List (Str × Addr)) (fp : List Addr), P (X.blk s H scope (compEnvC scope cl C X.env) fp)
theorem s_lc (hc : X.calm = true) (hN : X.N.Nodup) (hi : PI X tg iter (tEvI X.K X.mg W it)) (ok : BlkOk X.N X.env.scope scope own) (hg : InBlk X scope fun Y => PG Y tg (tEvG X.K sl t)) (hsl : ∀ i ∈ sl, i ∈ own.map (·.2))
    (ht : InBlk X scope fun Y => PTs Y ifs (tEvT X.K X.mg W0 cond)) (he : InBlk X scope fun Y => PE Y elt (tEv X.K X.mg W0 f)) (hs : ∀ x, foldedSetIterable iter X.env x = pure x) :
    Snd X W (.ListComp elt [⟨tg, iter, ifs, 0⟩] scope pos) (sLC (own.map (·.2)) it t cond f) :=
  .plain ((pe_lc hc hN hi ok hg ht he hs).imp (lc_ev hsl _ fin_lst)) (by intro _; rfl)
theorem s_lcm (hc : X.calm = true) (hN : X.N.Nodup) (hi : PI X tg iter (tEvI X.K X.mg W it)) (ok : BlkOk X.N X.env.scope scope own) (hg : InBlk X scope fun Y => PG Y tg (tEvG X.K sl t)) (hsl : ∀ i ∈ sl, i ∈ own.map (·.2))
    (ht : InBlk X scope fun Y => PTs Y ifs (tEvT X.K X.mg W0 cond)) (he : InBlk X scope fun Y => PE Y elt (tEv X.K X.mg W0 f)) (hs : ∀ x, foldedSetIterable iter X.env x = pure x) :
    Snd X W (.ListComp elt [⟨tg, iter, ifs, 0⟩] scope pos) (sLCm (own.map (·.2)) it t cond f) :=
  .plain ((pe_lc hc hN hi ok hg ht he hs).imp (lc_ev hsl _ fin_ref)) (by intro _; rfl)
theorem ts_nil : PTs X [] (tEvT X.K X.mg W0 stYes) := ⟨fun pins s σ H Q I q => pts_nil.run pins s σ H Q I (by
  obtain ⟨α, μ, ρ, S, F, q⟩ := q
  exact q true H α S Ext.refl rfl)⟩
theorem ts_one {c : Expr} (h : PT X c (tEvT X.K X.mg W0 cond)) : PTs X [c] (tEvT X.K X.mg W0 cond) := pts_one h
end

/-! ### statements -/
inductive SR where
  | nx (ρ : Frame) (μ : Store)
  | rt (d : D) (μ : Store)
  | bk (ρ : Frame) (μ : Store)
  | ct (ρ : Frame) (μ : Store)
  | exc (x : Str) (fs : List (Str × D)) (ρ : Frame) (μ : Store)
  | no
abbrev SS := Frame → Store → SR
def PostS (K : PySem.W.Frag) (mg : Str → Option Value) (H : Hp) (α : As) (D : Ends) (W : WX) : SR → Prop
  | .nx ρ μ => ∀ σ' H' α', StoreRel K H' α' μ → FrameRel K H' α' σ' ρ → Ext H α H' α' → D.nx σ' H'
  | .rt d μ => ∀ v H' α', StoreRel K H' α' μ → Rep K H' α' d v → Ext H α H' α' → D.rt v H'
  | .bk ρ μ => ∀ σ' H' α', StoreRel K H' α' μ → FrameRel K H' α' σ' ρ → Ext H α H' α' → D.bk σ' H'
  | .ct ρ μ => ∀ σ' H' α', StoreRel K H' α' μ → FrameRel K H' α' σ' ρ → Ext H α H' α' → D.ct σ' H'
  | .exc x fs ρ μ => ∀ C dx σ' H' α', mg x = some C → StoreRel K H' α' μ → FrameRel K H' α' σ' ρ → Ext H α H' α' → ExcD K H' α' dx fs → W C dx σ' H'
  | .no => False
def tEvS (K : PySem.W.Frag) (mg : Str → Option Value) (W : WX) (f : SS) : TS := fun D σ H => ∃ α μ ρ, StoreRel K H α μ ∧ FrameRel K H α σ ρ ∧ PostS K mg H α D W (f ρ μ)
theorem PostS.up {K : PySem.W.Frag} {mg : Str → Option Value} {H H1 : Hp} {α α1 : As} {D : Ends} {W : WX} {r : SR} (x : Ext H α H1 α1) (h : PostS K mg H α D W r) : PostS K mg H1 α1 D W r := by
  cases r with
  | nx ρ μ => exact fun σ' H' α' S F y => h σ' H' α' S F (x.trans y)
  | rt d μ => exact fun v H' α' S F y => h v H' α' S F (x.trans y)
  | bk ρ μ => exact fun σ' H' α' S F y => h σ' H' α' S F (x.trans y)
  | ct ρ μ => exact fun σ' H' α' S F y => h σ' H' α' S F (x.trans y)
  | exc z fs ρ μ => exact fun C dx σ' H' α' m S F y => h C dx σ' H' α' m S F (x.trans y)
  | no => exact h
theorem _root_.L2.PS.imp {X : Cx} {e : Stmt} {t t' : TS} (h : PS X e t) (k : ∀ D σ H, t' D σ H → t D σ H) : PS X e t' := ⟨fun pins s σ H D I q => h.run pins s σ H D I (k D σ H q)⟩
theorem _root_.L2.PSs.imp {X : Cx} {e : List Stmt} {t t' : TS} (h : PSs X e t) (k : ∀ D σ H, t' D σ H → t D σ H) : PSs X e t' := ⟨fun pins s σ H D I q => h.run pins s σ H D I (k D σ H q)⟩
/-- an expression's result, then a statement's -/
def R.thenS {α : Type} (r : R α) (ρ : Frame) (k : α → Store → SR) : SR := match r with
  | .ok a μ => k a μ
  | .exc x fs μ => .exc x fs ρ μ
  | .no => .no
theorem PostS.bind {A B : Type} {K : PySem.W.Frag} {mg : Str → Option Value} {rel : RelT A B} {H : Hp} {α : As} {D : Ends} {W : WX} {σ : L2.St} {ρ : Frame} {r : R A} {k : A → Store → SR} (F : FrameRel K H α σ ρ) (h : PostS K mg H α D W (r.thenS ρ k)) :
    Post K mg rel H α (fun v H1 => ∃ α1 μ1 a, StoreRel K H1 α1 μ1 ∧ Ext H α H1 α1 ∧ rel H1 α1 a v ∧ PostS K mg H1 α1 D W (k a μ1)) (fun c d H' => W c d σ H') r := by
  cases r with
  | ok a μ =>
    intro v H' α' S x q
    exact ⟨α', μ, a, S, x, q, PostS.up x h⟩
  | exc z fs μ => exact fun C dx H' α' m S x q => h C dx σ H' α' m S (F.ext x) x q
  | no => exact h
def ssNil : SS := fun ρ μ => .nx ρ μ
def ssSeq (f g : SS) : SS := fun ρ μ => match f ρ μ with
  | .nx ρ1 μ1 => g ρ1 μ1
  | r => r
def ssPass : SS := fun ρ μ => .nx ρ μ
def ssExpr (f : SE) : SS := fun ρ μ => (f ρ μ).thenS ρ fun _ μ1 => .nx ρ μ1
def ssRet (f : SE) : SS := fun ρ μ => (f ρ μ).thenS ρ fun d μ1 => .rt d μ1
def ssRetN : SS := fun _ μ => .rt .non μ
def ssIf (c : ST) (f g : SS) : SS := fun ρ μ => (c ρ μ).thenS ρ fun b μ1 => if b = true then f ρ μ1 else g ρ μ1
def ssAsg (f : SE) (t : Tg) : SS := fun ρ μ => (f ρ μ).thenS ρ fun d μ1 => match t d ρ μ1 with
  | some ρ1 => .nx ρ1 μ1
  | none => .no
def ssPar (i j : Nat) (g : SA) : SS := fun ρ μ => (g ρ μ).thenS ρ fun ds μ1 => match ds with
  | [d, e] => .nx ((ρ.set i (some d)).set j (some e)) μ1
  | _ => .no
def ssPar3 (i j l : Nat) (g : SA) : SS := fun ρ μ => (g ρ μ).thenS ρ fun ds μ1 => match ds with
  | [d, e, c] => .nx (((ρ.set i (some d)).set j (some e)).set l (some c)) μ1
  | _ => .no
section
variable {X : Cx} {W : WX} {e o i : Expr} {f g h : SE} {F G : SS} {pos : Pos} {st : Stmt} {rest body orelse : List Stmt}
abbrev SndS (X : Cx) (W : WX) (st : Stmt) (f : SS) : Prop := PS X st (tEvS X.K X.mg W f)
abbrev SndB (X : Cx) (W : WX) (st : List Stmt) (f : SS) : Prop := PSs X st (tEvS X.K X.mg W f)
theorem b_nil : SndB X W [] ssNil := pss_nil.imp fun D σ H q => by
  obtain ⟨α, μ, ρ, S, FR, q⟩ := q
  exact q σ H α S FR Ext.refl
theorem b_cons (h1 : SndS X W st F) (h2 : SndB X W rest G) : SndB X W (st :: rest) (ssSeq F G) := (pss_cons h1 h2).imp fun D σ H q => by
  obtain ⟨α, μ, ρ, S, FR, q⟩ := q
  refine ⟨α, μ, ρ, S, FR, ?_⟩
  unfold ssSeq at q
  cases e1 : F ρ μ with
  | nx ρ1 μ1 =>
    rw [e1] at q
    exact fun σ' H' α' S' F' x => ⟨α', μ1, ρ1, S', F', PostS.up x q⟩
  | rt d μ1 => rw [e1] at q; exact q
  | bk ρ1 μ1 => rw [e1] at q; exact q
  | ct ρ1 μ1 => rw [e1] at q; exact q
  | exc z fs ρ1 μ1 => rw [e1] at q; exact q
  | no => rw [e1] at q; exact q
theorem b_one (h1 : SndS X W st F) : SndB X W [st] F := pss_one h1
theorem st_pass : SndS X W (.Pass pos) ssPass := ps_pass.imp fun D σ H q => by
  obtain ⟨α, μ, ρ, S, FR, q⟩ := q
  exact q σ H α S FR Ext.refl
theorem st_expr (he : PE X e (tEv X.K X.mg W f)) (hs : swapsWith e none pos.line X.env = pure false) : SndS X W (.Expr e pos) (ssExpr f) := (ps_expr he hs).imp fun D σ H q => by
  obtain ⟨α, μ, ρ, S, FR, q⟩ := q
  refine ⟨α, μ, ρ, S, FR, (PostS.bind (rel := Rep X.K) FR q).imp fun v H1 q1 => ?_⟩
  obtain ⟨α1, μ1, d, S1, x1, r1, q1⟩ := q1
  exact q1 σ H1 α1 S1 (FR.ext x1) Ext.refl
theorem st_ret (he : PE X e (tEv X.K X.mg W f)) : SndS X W (.Return (some e) pos) (ssRet f) := (ps_ret he).imp fun D σ H q => by
  obtain ⟨α, μ, ρ, S, FR, q⟩ := q
  refine ⟨α, μ, ρ, S, FR, (PostS.bind (rel := Rep X.K) FR q).imp fun v H1 q1 => ?_⟩
  obtain ⟨α1, μ1, d, S1, x1, r1, q1⟩ := q1
  exact q1 v H1 α1 S1 r1 Ext.refl
theorem st_retN : SndS X W (.Return none pos) ssRetN := ps_retN.imp fun D σ H q => by
  obtain ⟨α, μ, ρ, S, FR, q⟩ := q
  exact q _ H α S rfl Ext.refl
theorem st_if {c : ST} (hc : PT X e (tEvT X.K X.mg W c)) (ha : SndB X W body F) (hb : SndB X W orelse G) : SndS X W (.If e body orelse pos) (ssIf c F G) := (ps_if hc ha hb).imp fun D σ H q => by
  obtain ⟨α, μ, ρ, S, FR, q⟩ := q
  refine ⟨α, μ, ρ, S, FR, (PostS.bind (rel := relB) FR q).imp fun b H1 q1 => ?_⟩
  obtain ⟨α1, μ1, b', S1, x1, r1, q1⟩ := q1
  have eb : b' = b := r1
  subst eb
  cases b' with
  | true => exact ⟨α1, μ1, ρ, S1, FR.ext x1, q1⟩
  | false => exact ⟨α1, μ1, ρ, S1, FR.ext x1, q1⟩
theorem asg_ev {sl : List Nat} {t : Tg} : ∀ D σ H, tEvS X.K X.mg W (ssAsg f t) D σ H → tAsg (tEv X.K X.mg W f) (tEvG X.K sl t) D σ H := by
  intro D σ H q
  obtain ⟨α, μ, ρ, S, FR, q⟩ := q
  refine ⟨α, μ, ρ, S, FR, (PostS.bind (rel := Rep X.K) FR q).imp fun v H1 q1 => ?_⟩
  obtain ⟨α1, μ1, d, S1, x1, r1, q1⟩ := q1
  split at q1
  · rename_i ρ1 e1
    exact ⟨α1, μ1, ρ, d, ρ1, S1, FR.ext x1, r1, e1, fun σ' F' _ => q1 σ' H1 α1 S1 F' Ext.refl⟩
  · exact q1.elim
theorem st_set {i : Nat} {x : Str} {pos' : Pos} (hN : X.N.Nodup) (hi : X.N[i]? = some x) (hx : Loc X.env.scope x) (hf : X.fn x = true ∨ X.env.scope.names.lookup x = some .local) (he : PE X e (tEv X.K X.mg W f)) (hs : swapsWith e (some (.Name x pos')) pos.line X.env = pure false) :
    SndS X W (.Assign [.Name x pos'] e pos) (ssAsg f (tgName i)) := by
  refine (ps_set hN hi hx he hs hf).imp fun D σ H q => ?_
  obtain ⟨α, μ, ρ, S, FR, q⟩ := q
  refine ⟨α, μ, ρ, S, FR, (PostS.bind (rel := Rep X.K) FR q).imp fun v H1 q1 => ?_⟩
  obtain ⟨α1, μ1, d, S1, x1, r1, q1⟩ := q1
  exact q1 _ H1 α1 S1 ((FR.ext x1).set i r1) Ext.refl
theorem st_asg {tg : Expr} {sl : List Nat} {t : Tg} (he : PE X e (tEv X.K X.mg W f)) (hg : PG X tg (tEvG X.K sl t)) (hs : swapsWithSole [tg] e pos.line X.env = pure false) (hw : swappedStores [tg] e X.env = pure none) (hn : noStar tg = true) :
    SndS X W (.Assign [tg] e pos) (ssAsg f t) := (ps_asg he hg hs hw (by rw [aE_cons hn]; rfl)).imp asg_ev
theorem st_par {i j : Nat} {x y : Str} {a b : Expr} {g : SA} {px py pt : Pos} {kt k2 pt2} (hc : X.calm = true) (hN : X.N.Nodup) (hi : X.N[i]? = some x) (hj : X.N[j]? = some y) (hij : i ≠ j)
    (hx : X.env.scope.names.lookup x = some .local) (hy : X.env.scope.names.lookup y = some .local) (ha : SndA X W [a, b] g)
    (hw : swappedStores [.Tuple [.Name x px, .Name y py] kt pt] (.Tuple [a, b] k2 pt2) X.env = pure (some [x, y])) : SndS X W (.Assign [.Tuple [.Name x px, .Name y py] kt pt] (.Tuple [a, b] k2 pt2) pos) (ssPar i j g) := by
  refine (ps_par hc hN hi hj hij hx hy ha hw).imp fun D σ H q => ?_
  obtain ⟨α, μ, ρ, S, FR, q⟩ := q
  refine ⟨α, μ, ρ, S, FR, (PostS.bind (rel := RepL X.K) FR q).imp fun vs H1 q1 => ?_⟩
  obtain ⟨α1, μ1, ds, S1, x1, r1, q1⟩ := q1
  split at q1
  · rename_i d e
    obtain ⟨v, w, rfl, rv, rw'⟩ := repL2 r1
    exact ⟨v, w, rfl, q1 _ H1 α1 S1 (((FR.ext x1).set i rv).set j rw') Ext.refl⟩
  · exact q1.elim
theorem repL3 {K : PySem.W.Frag} {H : Hp} {α : As} {d d2 d3 : D} {vs : List V} (r : RepL K H α [d, d2, d3] vs) : ∃ v w u, vs = [v, w, u] ∧ Rep K H α d v ∧ Rep K H α d2 w ∧ Rep K H α d3 u := by
  obtain ⟨v, vr, rfl, h1, h2⟩ := r
  obtain ⟨w, u, rfl, h3, h4⟩ := repL2 h2
  exact ⟨v, w, u, rfl, h1, h3, h4⟩
theorem st_par3 {i j l : Nat} {x y z : Str} {a b c : Expr} {g : SA} {px py pz pt : Pos} {kt k2 pt2} (hc : X.calm = true) (hN : X.N.Nodup) (hi : X.N[i]? = some x) (hj : X.N[j]? = some y) (hl : X.N[l]? = some z) (hij : i ≠ j) (hil : i ≠ l) (hjl : j ≠ l)
    (hx : X.env.scope.names.lookup x = some .local) (hy : X.env.scope.names.lookup y = some .local) (hz : X.env.scope.names.lookup z = some .local) (ha : SndA X W [a, b, c] g)
    (hw : swappedStores [.Tuple [.Name x px, .Name y py, .Name z pz] kt pt] (.Tuple [a, b, c] k2 pt2) X.env = pure (some [x, y, z])) : SndS X W (.Assign [.Tuple [.Name x px, .Name y py, .Name z pz] kt pt] (.Tuple [a, b, c] k2 pt2) pos) (ssPar3 i j l g) := by
  refine (ps_par3 hc hN hi hj hl hij hil hjl hx hy hz ha hw).imp fun D σ H q => ?_
  obtain ⟨α, μ, ρ, S, FR, q⟩ := q
  refine ⟨α, μ, ρ, S, FR, (PostS.bind (rel := RepL X.K) FR q).imp fun vs H1 q1 => ?_⟩
  obtain ⟨α1, μ1, ds, S1, x1, r1, q1⟩ := q1
  split at q1
  · rename_i d e c'
    obtain ⟨v, w, u, rfl, rv, rw', ru⟩ := repL3 r1
    exact ⟨v, w, u, rfl, q1 _ H1 α1 S1 ((((FR.ext x1).set i rv).set j rw').set l ru) Ext.refl⟩
  · exact q1.elim
/-- name = [ .. for .. ] on one line -/
theorem lcset_ev {i : Nat} {tl : TE} (hi : ∀ σ H Q, tEv X.K X.mg W f σ H Q → tl σ H Q) : ∀ D σ H, tEvS X.K X.mg W (ssAsg f (tgName i)) D σ H → tAsg tl (gName i) D σ H := by
  intro D σ H q
  obtain ⟨α, μ, ρ, S, FR, q⟩ := q
  refine hi σ H _ ⟨α, μ, ρ, S, FR, (PostS.bind (rel := Rep X.K) FR q).imp fun v H1 q1 => ?_⟩
  obtain ⟨α1, μ1, d, S1, x1, r1, q1⟩ := q1
  exact q1 _ H1 α1 S1 ((FR.ext x1).set i r1) Ext.refl
/-! x[i] = e, a mutable list -/
def ssStore (f g h : SE) : SS := fun ρ μ => (f ρ μ).thenS ρ fun d μ1 => (g ρ μ1).thenS ρ fun x μ2 => (h ρ μ2).thenS ρ fun j μ3 => match x, j with
  | .ref r, .int k => match μ3[r]? with
    | some (.lst ds) => match ixN ds.length k with
      | some n => .nx ρ (μ3.set r (.lst (ds.set n d)))
      | none => .no
    | none => .no
  | _, _ => .no
theorem st_store {a b : Expr} {ps : Pos} (he : PE X e (tEv X.K X.mg W f)) (ho : PE X a (tEv X.K X.mg W g)) (hi : PE X b (tEv X.K X.mg W h)) (hs : swapsWithSole [.Subscript a b ps] e pos.line X.env = pure false) (hw : swappedStores [.Subscript a b ps] e X.env = pure none)
    (hasg : ∀ v, assign (.Subscript a b ps) X.env v = (do
      let ov ← holding [v] (eval a X.env)
      let iv ← holding [v, ov] (eval b X.env)
      standAt ps
      holding [v, ov, iv] (setItem ov iv v)
      release [v, ov, iv] [])) : SndS X W (.Assign [.Subscript a b ps] e pos) (ssStore f g h) := by
  refine (ps_asg he (pg_sub ho hi set_list hasg) hs hw rfl).imp fun D σ H q => ?_
  obtain ⟨α, μ, ρ, S, FR, q⟩ := q
  refine ⟨α, μ, ρ, S, FR, (PostS.bind (rel := Rep X.K) FR q).imp fun v H1 q1 => ?_⟩
  obtain ⟨α1, μ1, d, S1, x1, r1, q1⟩ := q1
  refine ⟨α1, μ1, ρ, S1, FR.ext x1, ?_⟩
  refine (PostS.bind (rel := Rep X.K) (FR.ext x1) q1).imp fun w H2 q2 => ?_
  obtain ⟨α2, μ2, dx, S2, x2, r2, q2⟩ := q2
  refine ⟨α2, μ2, ρ, S2, (FR.ext x1).ext x2, ?_⟩
  refine (PostS.bind (rel := Rep X.K) ((FR.ext x1).ext x2) q2).imp fun u H3 q3 => ?_
  obtain ⟨α3, μ3, dj, S3, x3, r3, q3⟩ := q3
  split at q3
  · rename_i r k
    split at q3
    · rename_i ds e1
      split at q3
      · rename_i n e2
        obtain ⟨p, rfl, hp⟩ := Rep.ext x3 _ _ r2
        have eu : u = .int k := r3
        subst eu
        obtain ⟨vs, h1, h2⟩ := S3.ob r p _ hp e1
        have rd : Rep X.K H3 α3 d v := Rep.ext (x2.trans x3) _ _ r1
        refine ⟨p, vs, k, n, rfl, rfl, h1, by rw [RepL.length h2]; exact e2, ?_⟩
        have E := Ext.write (o := .lst (vs.set n v)) S3 hp
        exact q3 σ _ α3 (S3.write hp (RepL.set rd n h2)) (((FR.ext x1).ext (x2.trans x3)).ext E) E
      · exact q3.elim
    · exact q3.elim
  · exact q3.elim
end
end Lite

set_option Elab.async false
set_option linter.all false
set_option maxRecDepth 100000
namespace Lite
open PySem L2

/-! ### loops -/
noncomputable def forGo (t : Tg) (b : SS) (gs : List (Nat × List D)) : List D → Frame → Store → SR
  | [], ρ, μ => if guard μ gs then .nx ρ μ else .no
  | d :: ds, ρ, μ => if guard μ gs then match t d ρ μ with
      | none => .no
      | some ρ1 => match b ρ1 μ with
        | .nx ρ2 μ2 => forGo t b gs ds ρ2 μ2
        | .ct ρ2 μ2 => forGo t b gs ds ρ2 μ2
        | .bk ρ2 μ2 => .nx ρ2 μ2
        | r => r
    else .no
noncomputable def ssFor (it : SI) (t : Tg) (b : SS) : SS := fun ρ μ => (it ρ μ).thenS ρ fun itm μ1 => forGo t b itm.gs itm.items ρ μ1
def whileN (c : ST) (b : SS) : Nat → Frame → Store → SR
  | 0, _, _ => .no
  | n + 1, ρ, μ => (c ρ μ).thenS ρ fun k μ1 => if k = true then match b ρ μ1 with
      | .nx ρ2 μ2 => whileN c b n ρ2 μ2
      | .ct ρ2 μ2 => whileN c b n ρ2 μ2
      | .bk ρ2 μ2 => .nx ρ2 μ2
      | r => r
    else .nx ρ μ1
open Classical in
noncomputable def ssWhile (c : ST) (b : SS) : SS := fun ρ μ => if h : ∃ n, whileN c b n ρ μ ≠ .no then whileN c b (Classical.choose h) ρ μ else .no
theorem whileN_mono {c : ST} {b : SS} : ∀ (n m : Nat) (ρ : Frame) (μ : Store), n ≤ m → whileN c b n ρ μ ≠ .no → whileN c b m ρ μ = whileN c b n ρ μ := by
  intro n
  induction n with
  | zero => intro m ρ μ _ h; exact absurd rfl h
  | succ n ih =>
    intro m ρ μ hm h
    obtain ⟨m, rfl⟩ : ∃ k, m = k + 1 := ⟨m - 1, by omega⟩
    unfold whileN at h ⊢
    cases e : c ρ μ with
    | ok k μ1 =>
      rw [e] at h
      simp only [R.thenS] at h ⊢
      cases k with
      | true =>
        simp only [if_true] at h ⊢
        cases e2 : b ρ μ1 with
        | nx ρ2 μ2 => rw [e2] at h; exact ih m ρ2 μ2 (by omega) h
        | ct ρ2 μ2 => rw [e2] at h; exact ih m ρ2 μ2 (by omega) h
        | _ => rfl
      | false => rfl
    | exc _ _ _ => rfl
    | no => rfl
/-- the loop ends so -/
theorem ssWhile_eq {c : ST} {b : SS} {n : Nat} {ρ : Frame} {μ : Store} {r : SR} (h : whileN c b n ρ μ = r) (hr : r ≠ .no) : ssWhile c b ρ μ = r := by
  have hx : ∃ n, whileN c b n ρ μ ≠ .no := ⟨n, by rw [h]; exact hr⟩
  unfold ssWhile
  rw [dif_pos hx]
  have h1 := Classical.choose_spec hx
  have h2 : whileN c b n ρ μ ≠ .no := by rw [h]; exact hr
  rcases Nat.le_total n (Classical.choose hx) with q | q
  · rw [whileN_mono n _ ρ μ q h2, h]
  · rw [← whileN_mono _ n ρ μ q h1, h]
section
variable {X : Cx} {W : WX} {e iter tg : Expr} {F : SS} {pos : Pos} {body : List Stmt} {it : SI} {t : Tg} {sl : List Nat} {c : ST}
theorem st_for (hp : PassesOwn (model X.prog X.w) X.A X.env X.xe) (hc : X.calm = true) (hi : PI X tg iter (tEvI X.K X.mg W it)) (hg : PG X tg (tEvG X.K sl t)) (hb : SndB X W body F) (hs : ∀ x, foldedSetIterable iter X.env x = pure x) :
    SndS X W (.For tg iter body [] pos) (ssFor it t F) := (ps_for hp hc hi hg hb hs).imp fun D σ H q => by
  obtain ⟨α, μ, ρ, S, FR, q⟩ := q
  refine ⟨α, μ, ρ, S, FR, (PostS.bind (rel := relW X.K) FR q).imp fun J H1 q1 => ?_⟩
  obtain ⟨α1, μ1, itm, S1, x1, wd, q1⟩ := q1
  obtain ⟨G, Y, w, hG, hY⟩ := wd
  refine for_it w (fun i σ2 H2 => ∃ α2 μ2 ρ2, StoreRel X.K H2 α2 μ2 ∧ FrameRel X.K H2 α2 σ2 ρ2 ∧ Ext H1 α1 H2 α2 ∧ PostS X.K X.mg H2 α2 D W (forGo t F itm.gs (itm.items.drop i) ρ2 μ2)) ⟨α1, μ1, ρ, S1, FR.ext x1, Ext.refl, by simpa using q1⟩ ?_ ?_ ?_
  · rintro i σ2 H2 hi ⟨α2, μ2, ρ2, S2, F2, x2, q2⟩
    have g : guard μ2 itm.gs = true := by
      cases hg : guard μ2 itm.gs with
      | true => rfl
      | false =>
        exfalso
        cases hd : itm.items.drop i with
        | nil => rw [hd] at q2; unfold forGo at q2; rw [hg] at q2; exact q2
        | cons d ds => rw [hd] at q2; unfold forGo at q2; rw [hg] at q2; exact q2
    exact hG H2 α2 μ2 S2 x2.toTr (guard_ok g)
  · rintro i x σ2 H2 H2' hi ⟨α2, μ2, ρ2, S2, F2, x2, q2⟩ y
    have hd : itm.items.drop i = itm.items[i] :: itm.items.drop (i + 1) := List.drop_eq_getElem_cons hi
    rw [hd] at q2
    unfold forGo at q2
    split at q2
    · rename_i g
      obtain ⟨S3, x3, d, hd3, rd⟩ := hY i H2 α2 μ2 x H2' hi S2 x2.toTr (guard_ok g) y
      have hdd : itm.items[i] = d := by
        rw [List.getElem?_eq_getElem hi] at hd3
        exact Option.some.inj hd3
      rw [hdd] at q2
      split at q2
      · exact q2.elim
      · rename_i ρ3 et
        refine ⟨α2, μ2, ρ2, d, ρ3, S3, F2.ext x3, rd, et, fun σ3 F3 _ => ⟨α2, μ2, ρ3, S3, F3, ?_⟩⟩
        have q3 := PostS.up x3 q2
        have x13 := x2.trans x3
        cases eb : F ρ3 μ2 with
        | nx ρ4 μ4 =>
          rw [eb] at q3
          exact fun σ4 H4 α4 S4 F4 x4 => ⟨α4, μ4, ρ4, S4, F4, x13.trans x4, PostS.up x4 q3⟩
        | ct ρ4 μ4 =>
          rw [eb] at q3
          exact fun σ4 H4 α4 S4 F4 x4 => ⟨α4, μ4, ρ4, S4, F4, x13.trans x4, PostS.up x4 q3⟩
        | bk ρ4 μ4 => rw [eb] at q3; exact q3
        | rt d4 μ4 => rw [eb] at q3; exact q3
        | exc z fs ρ4 μ4 => rw [eb] at q3; exact q3
        | no => rw [eb] at q3; exact q3
    · exact q2.elim
  · rintro σ2 H2 ⟨α2, μ2, ρ2, S2, F2, x2, q2⟩
    rw [List.drop_length] at q2
    unfold forGo at q2
    split at q2
    · exact q2 σ2 H2 α2 S2 F2 Ext.refl
    · exact q2.elim
theorem st_while (hp : PassesOwn (model X.prog X.w) X.A X.env X.xe) (hc : PT X e (tEvT X.K X.mg W c)) (hb : SndB X W body F) : SndS X W (.While e body [] pos) (ssWhile c F) := (ps_while hp hc hb).imp fun D σ H q => by
  obtain ⟨α, μ, ρ, S, FR, q⟩ := q
  unfold ssWhile at q
  split at q
  · rename_i hx
    generalize Classical.choose hx = n at q
    refine ⟨fun m σ H => ∃ α μ ρ, StoreRel X.K H α μ ∧ FrameRel X.K H α σ ρ ∧ PostS X.K X.mg H α D W (whileN c F m ρ μ), ⟨n, α, μ, ρ, S, FR, q⟩, ?_⟩
    rintro m σ H ⟨α, μ, ρ, S, FR, q⟩
    cases m with
    | zero => exact q.elim
    | succ m =>
      unfold whileN at q
      refine ⟨α, μ, ρ, S, FR, (PostS.bind (rel := relB) FR q).imp fun b H1 q1 => ?_⟩
      obtain ⟨α1, μ1, b', S1, x1, r1, q1⟩ := q1
      have eb : b' = b := r1
      subst eb
      cases b' with
      | true =>
        simp only [if_true] at q1 ⊢
        refine ⟨fun σ' H' => ∃ α μ ρ, StoreRel X.K H' α μ ∧ FrameRel X.K H' α σ' ρ ∧ PostS X.K X.mg H' α D W (whileN c F m ρ μ), fun σ' H' h' => ⟨m, Nat.lt_succ_self m, h'⟩, α1, μ1, ρ, S1, FR.ext x1, ?_⟩
        cases e2 : F ρ μ1 with
        | nx ρ4 μ4 =>
          rw [e2] at q1
          exact fun σ4 H4 α4 S4 F4 x4 => ⟨α4, μ4, ρ4, S4, F4, PostS.up x4 q1⟩
        | ct ρ4 μ4 =>
          rw [e2] at q1
          exact fun σ4 H4 α4 S4 F4 x4 => ⟨α4, μ4, ρ4, S4, F4, PostS.up x4 q1⟩
        | bk ρ4 μ4 => rw [e2] at q1; exact q1
        | rt d4 μ4 => rw [e2] at q1; exact q1
        | exc z fs ρ4 μ4 => rw [e2] at q1; exact q1
        | no => rw [e2] at q1; exact q1
      | false =>
        simp only [Bool.false_eq_true, if_false] at q1 ⊢
        exact q1 σ H1 α1 S1 (FR.ext x1) Ext.refl
  · exact q.elim

/-! ### raise, try -/
def veBases : List Value := [.type "ValueError", .type "Exception", .type "BaseException", .type "object"]
/-- an own exception class without own __init__ stands behind the name -/
def ExcAt (X : Cx) (x : Str) : Prop := ∃ C, X.mg x = some (.ref C) ∧ PySem.W.excIn X.K C veBases "ValueError.__new__" = true ∧ PySem.W.keepIn X.K (.ref C) = true ∧ PySem.W.subIn X.K (.ref C) (.type "BaseException") = some true ∧ PySem.W.typeIn X.K (.ref C) = some (.type "type")
def ssRaise (x : Str) : SS := fun ρ μ => .exc x [] ρ μ
theorem st_raise {x m : Str} {j : Nat} {p p2 p3 : Pos} (hc : X.calm = true) (tk : Takes X W) (hx : ExcAt X x) (hg : Gl X x) (hd : (x == ("__debug__" : Str)) = false) :
    SndS X W (.Raise (some (.Call (.Name x p) [.Constant (.str m) j p2] [] p3)) none pos) (ssRaise x) := by
  obtain ⟨C, h1, h2, h3, h4, h5⟩ := hx
  refine (ps_raise hc tk (pmk_own PySem.F.excBase_ValueError h2 h1 h3 (raises_own h4 h5) hg hd)).imp fun D σ H q => ?_
  obtain ⟨α, μ, ρ, S, FR, q⟩ := q
  exact q _ none σ H α h1 S FR Ext.refl (.inl ⟨rfl, rfl⟩)
/-- the answers of 'except y' (isinstance of the caught one) for raised classes, by name -/
def CatchAt (X : Cx) (y : Str) (s : List (Str × Bool)) : Prop := ∃ Cy, X.mg y = some (.ref Cy) ∧ ∀ c b, s.lookup c = some b → ∃ C, X.mg c = some (.ref C) ∧ PySem.W.exmOne X.K (.ref C) (.ref Cy) = some b
def IsiAt (X : Cx) (y : Str) (s : List (Str × Bool)) : Prop := ∃ Cy, X.mg y = some (.ref Cy) ∧ ∀ c b, s.lookup c = some b → ∃ C, X.mg c = some (.ref C) ∧ ExcC X.K C ∧ PySem.W.kitOne X.K (.ref C) (.ref Cy) = some b
/-- try: .. except y as n: return isinstance(n, z) -/
def ssTryIs (i : Nat) (f : SS) (s1 s2 : List (Str × Bool)) : SS := fun ρ μ => match f ρ μ with
  | .exc c fs ρ1 μ1 => if i < ρ1.length then match s1.lookup c, s2.lookup c, fs with
    | some true, some b, [] => .rt (.bl b) μ1
    | some false, _, _ => .exc c fs ρ1 μ1
    | _, _, _ => .no
    else .no
  | r => r
theorem st_tryIs {y n z : Str} {i : Nat} {s1 s2 : List (Str × Bool)} {np p1 p2 p3 p4 p5 pos' : Pos} (hs : X.stack = X.env :: X.outer) (hf : X.env.frame = some X.env.locals) (hN : X.N.Nodup) (hi : X.N[i]? = some n) (hln : X.env.kindOf n = some .local)
    (hdn : (n == ("__debug__" : Str)) = false) (hcdn : (n == ("__classdict__" : Str)) = false) (hy : CatchAt X y s1) (hgy : Gl X y) (hdy : (y == ("__debug__" : Str)) = false) (hz : IsiAt X z s2) (hgz : Gl X z) (hdz : (z == ("__debug__" : Str)) = false)
    (hgi : Gl X "isinstance") (hmi : X.mg "isinstance" = none) (tk : Takes X W)
    (hb : ∀ (W' : WX) (pn : List (Addr × Obj)) (xe : Value → Shared → Prop), Takes (X.tr pn xe) W' → PassesOwn (model X.prog X.w) X.A X.env xe → SndB (X.tr pn xe) W' body F) :
    SndS X W (.Try body [.ExceptHandler (some (.Name y np)) (some n) [.Return (some (.Call (.Name "isinstance" p1) [.Name n p2, .Name z p3] [] p4)) p5] pos'] [] [] pos) (ssTryIs i F s1 s2) := by
  obtain ⟨Cy, hy1, hy2⟩ := hy
  obtain ⟨Cz, hz1, hz2⟩ := hz
  -- the suite's reading
  let ts : Addr → Value → Option Addr → TS := fun a cls d D σ H => ∃ C b, cls = .ref C ∧ d = none ∧ ExcC X.K C ∧ PySem.W.kitOne X.K (.ref C) (.ref Cz) = some b ∧ σ[i]? = some (some (.ref a)) ∧ D.rt (.bl b) H
  refine (ps_try_as (tb := fun W' => tEvS X.K X.mg W' F) (ts := ts) hs hf hN hi hln ⟨hgy, hdy, .inl hy1⟩ tk hb fun a oe cls d pn hzc hvs => ⟨fun pins s σ H D I q => ?_⟩).imp fun D σ H q => ?_
  · obtain ⟨C, b, rfl, rfl, ec, hk, hσ, q⟩ := q
    have hvis : Vis (X.suite a ((a, oe) :: pn)).env.scope n := .inl hln
    have hpa : PA (X.suite a ((a, oe) :: pn)) [.Name n p2, .Name z p3] (tCons (tVar i) (tCons (tC (.ref Cz)) tNil)) := pa_cons (pe_var hi hvis hdn hcdn) (pa_cons (pe_glob hgz hz1 rfl hdz) pa_nil)
    refine (pss_one (ps_ret (pe_callB (call_isE ec hzc hvs) hgi hmi (by decide +kernel) hpa))).run pins s σ H D I ?_
    refine ⟨_, hσ, .ref Cz, .ref Cz, b, rfl, fun u r => r, hk, q⟩
  · obtain ⟨α, μ, ρ, S, FR, q⟩ := q
    refine ⟨α, μ, ρ, S, FR, ?_⟩
    unfold ssTryIs at q
    cases e : F ρ μ with
    | nx ρ1 μ1 => rw [e] at q; exact q
    | rt d μ1 => rw [e] at q; exact q
    | bk ρ1 μ1 => rw [e] at q; exact q
    | ct ρ1 μ1 => rw [e] at q; exact q
    | no => rw [e] at q; exact q.elim
    | exc c fs ρ1 μ1 =>
      rw [e] at q
      simp only at q
      intro Cv dx σ' H' α' m S' F' x' ed
      by_cases hl : i < ρ1.length
      case neg => rw [if_neg hl] at q; exact q.elim
      rw [if_pos hl] at q
      have hlen : i < σ'.length := by
        rw [F'.1]
        exact hl
      split at q
      · rename_i b l1 l2
        obtain ⟨C, hc1, hc2⟩ := hy2 c true l1
        obtain ⟨C', hc3, hc4, hc5⟩ := hz2 c b l2
        rw [m] at hc1 hc3
        cases hc1
        cases hc3
        have ed' : dx = none := by
          rcases ed with ⟨_, h⟩ | ⟨_, _, h, _⟩
          · exact h
          · exact absurd rfl h
        subst ed'
        exact ⟨true, hc2, fun _ a ha => ⟨C, b, rfl, rfl, hc4, hc5, by rw [List.getElem?_set_self hlen], q _ H' α' S' rfl x'⟩, fun z => nomatch z⟩
      · rename_i l1
        obtain ⟨C, hc1, hc2⟩ := hy2 c false l1
        rw [m] at hc1
        cases hc1
        exact ⟨false, hc2, fun z => (nomatch z), fun _ => q _ dx σ' H' α' m S' F' x' ed⟩
      · exact q.elim
end
end Lite

set_option Elab.async false
set_option linter.all false
set_option maxRecDepth 100000
namespace Lite
open PySem L2

/-! ### from syntax to closures -/
structure CE where
  N : List Str
  sc : Scope
  fns : List (Str × Fn)
  con : List (Str × D)
  excs : List Str
  catch_ : List (Str × List (Str × Bool))
  isi : List (Str × List (Str × Bool))
  muts : List Pos
  top : Bool
def bltNames : List Str := ["len", "abs", "min", "int", "sum", "all", "any", "list", "tuple", "dict", "isinstance", "range", "enumerate", "zip", "bool", "str"]
structure Cxt (X : Cx) (W : WX) (c : CE) : Prop where
  scope : X.env.scope = c.sc
  names : X.N = c.N
  nd : c.N.Nodup
  kind : c.sc.kind = .function
  calm : X.calm = true
  tk : Takes X W
  units : X.A.units + 100 < cLine
  fns : ∀ x F, c.fns.lookup x = some F → FnAt X x F
  con : ∀ x d, c.con.lookup x = some d → ∃ u v, X.mg x = some u ∧ RelV v u ∧ ∀ H α, Rep X.K H α d v
  blt : ∀ x ∈ bltNames, X.mg x = none
  fna : c.top = true → ∀ x, X.fn x = true
  exc : ∀ x ∈ c.excs, ExcAt X x
  cat : ∀ x s, c.catch_.lookup x = some s → CatchAt X x s
  isi : ∀ x s, c.isi.lookup x = some s → IsiAt X x s
def CE.blk (c : CE) (scope : Scope) : CE := { c with sc := relS scope c.sc, top := false }

def slotOf (c : CE) (x : Str) : Option Nat := match c.sc.names.lookup x with
  | some .local => c.N.idxOf? x
  | some .cell => c.N.idxOf? x
  | some .free => c.N.idxOf? x
  | _ => none
def slotW (c : CE) (x : Str) : Option Nat := match c.sc.names.lookup x with
  | some .local => c.N.idxOf? x
  | some .cell => if c.top then c.N.idxOf? x else none
  | _ => none
def slotL (c : CE) (x : Str) : Option Nat := match c.sc.names.lookup x with
  | some .local => c.N.idxOf? x
  | _ => none
def isGl (c : CE) (x : Str) : Bool := match c.sc.names.lookup x with
  | some .globalImplicit => !(x == ("__debug__" : Str))
  | _ => false
def okName (x : Str) : Bool := !(x == ("__debug__" : Str)) && !(x == ("__classdict__" : Str))
def mutAt (c : CE) (p : Pos) : Bool := c.muts.any fun q => q.line == p.line && q.col == p.col && q.endCol == p.endCol
theorem idx_get {N : List Str} {x : Str} {i : Nat} (h : N.idxOf? x = some i) : N[i]? = some x := by
  have := List.of_findIdx?_eq_some (p := (· == x)) (xs := N) (i := i) h
  cases e : N[i]? with
  | none => rw [e] at this; simp at this
  | some y =>
    rw [e] at this
    have h2 : y = x := by simpa using this
    rw [h2]
section
variable {X : Cx} {W : WX} {c : CE} {x : Str} {i : Nat}
theorem slotOf_ok (C : Cxt X W c) (h : slotOf c x = some i) : X.N[i]? = some x ∧ Vis X.env.scope x := by
  rw [C.names, C.scope]
  unfold slotOf at h
  split at h
  · rename_i e; exact ⟨idx_get h, .inl e⟩
  · rename_i e; exact ⟨idx_get h, .inr (.inl e)⟩
  · rename_i e; exact ⟨idx_get h, .inr (.inr e)⟩
  · cases h
theorem slotW_ok (C : Cxt X W c) (h : slotW c x = some i) : X.N[i]? = some x ∧ Loc X.env.scope x ∧ (X.fn x = true ∨ X.env.scope.names.lookup x = some .local) := by
  rw [C.names, C.scope]
  unfold slotW at h
  split at h
  · rename_i e; exact ⟨idx_get h, .inl e, .inr e⟩
  · rename_i e
    split at h
    · rename_i ht
      exact ⟨idx_get h, .inr e, .inl (C.fna ht x)⟩
    · cases h
  · cases h
theorem slotL_ok (C : Cxt X W c) (h : slotL c x = some i) : X.N[i]? = some x ∧ X.env.scope.names.lookup x = some .local := by
  rw [C.names, C.scope]
  unfold slotL at h
  split at h
  · rename_i e; exact ⟨idx_get h, e⟩
  · cases h
theorem isGl_ok (C : Cxt X W c) (h : isGl c x = true) : Gl X x ∧ (x == ("__debug__" : Str)) = false := by
  unfold isGl at h
  split at h
  · rename_i e
    refine ⟨?_, by simpa using h⟩
    show X.env.scope.names.lookup x = _
    rw [C.scope]; exact e
  · cases h
theorem okName_ok (h : okName x = true) : (x == ("__debug__" : Str)) = false ∧ (x == ("__classdict__" : Str)) = false := by
  unfold okName at h
  rw [Bool.and_eq_true] at h
  exact ⟨by simpa using h.1, by simpa using h.2⟩
theorem Cxt.hN (C : Cxt X W c) : X.N.Nodup := by rw [C.names]; exact C.nd
theorem Cxt.hkind (C : Cxt X W c) : X.env.scope.kind = .function := by rw [C.scope]; exact C.kind
/-- within a comprehension's block -/
theorem Cxt.blk (C : Cxt X W c) {scope : Scope} (hk : scope.kind = .function) : InBlk X scope fun Y => Cxt Y W0 (c.blk scope) := fun s H Ca cl fp =>
  { scope := by
      show relS scope X.env.scope = relS scope c.sc
      rw [C.scope]
    names := C.names
    nd := C.nd
    kind := hk
    calm := C.calm
    tk := takes0
    units := C.units
    fns := C.fns
    con := C.con
    blt := C.blt
    fna := fun h => nomatch h
    exc := C.exc
    cat := C.cat
    isi := C.isi }
theorem Cxt.tr (C : Cxt X W c) {W' : WX} {pn : List (Addr × Obj)} {xe : Value → Shared → Prop} (tk : Takes (X.tr pn xe) W') : Cxt (X.tr pn xe) W' c :=
  { scope := C.scope, names := C.names, nd := C.nd, kind := C.kind, calm := C.calm, tk := tk, units := C.units, fns := C.fns, con := C.con, blt := C.blt, fna := C.fna, exc := C.exc, cat := C.cat, isi := C.isi }
end

/-! the tables of operators and built-ins -/
def cOp : Operator → Option Op2
  | .Add => some opAdd
  | .Sub => some opSub
  | .Mult => some opMul
  | .FloorDiv => some opDiv
  | .Mod => some opMod
  | .Pow => some opPow
  | _ => none
def cOpM (m : Bool) (op : Operator) : Option Op2 := if m then (match op with
  | .Add => some opAddM
  | _ => none) else cOp op
def cCmp : CmpOp → Option Cmp2
  | .Lt => some cmpLt
  | .LtE => some cmpLe
  | .Gt => some cmpGt
  | .GtE => some cmpGe
  | .Eq => some cmpEq
  | .NotEq => some cmpNe
  | .Is => some cmpIs
  | .IsNot => some cmpIsNot
  | .In => some cmpIn
  | .NotIn => some cmpNotIn
theorem cOp_ok {X : Cx} {op : Operator} {o : Op2} (h : cOp op = some o) : Quiet o ∧ OpR X (binaryOp op) (rD X.K X.mg o) := by
  unfold cOp at h
  split at h <;> first | (cases h; first | exact ⟨opAdd_quiet, opAdd_ok⟩ | exact ⟨intOp_quiet, opSub_ok⟩ | exact ⟨opMul_quiet, opMul_ok⟩ | exact ⟨intOp_quiet, opDiv_ok⟩ | exact ⟨intOp_quiet, opMod_ok⟩ | exact ⟨intOp_quiet, opPow_ok⟩) | cases h
theorem cOpM_ok {X : Cx} {m : Bool} {op : Operator} {o : Op2} (h : cOpM m op = some o) : Quiet o ∧ OpR X (binaryOp op) (rD X.K X.mg o) := by
  unfold cOpM at h
  split at h
  · split at h
    · cases h; exact ⟨opAddM_quiet, opAddM_ok⟩
    · cases h
  · exact cOp_ok h
theorem cCmp_ok {X : Cx} {op : CmpOp} {o : Cmp2} (hu : X.A.units + 100 < cLine) (h : cCmp op = some o) : OpR X (compareOp op) (rD X.K X.mg (cmpR o)) := by
  have h64 : X.A.units + 64 < cLine := by omega
  have h65 : X.A.units + 65 < cLine := by omega
  unfold cCmp at h
  split at h <;> cases h
  · exact cmpLt_ok
  · exact cmpLe_ok
  · exact cmpGt_ok
  · exact cmpGe_ok
  · exact cmpEq_ok h64
  · exact cmpNe_ok h64
  · exact cmpIs_ok
  · exact cmpIsNot_ok
  · exact cmpIn_ok h65
  · exact cmpNotIn_ok h65
/-- built-in functions and classes that are called by values -/
def cBi (x : Str) : Option OpL :=
  if x = "len" then some biLen else if x = "abs" then some biAbs else if x = "min" then some biMin else if x = "int" then some biInt else if x = "sum" then some biSum
  else if x = "all" then some biAll else if x = "any" then some biAny else if x = "list" then some biList else if x = "tuple" then some biTuple else if x = "dict" then some biDict else none
theorem cBi_ok {X : Cx} {W : WX} {x : Str} {o : OpL} {e : Expr} {es : List Expr} {g : SA} {p pos : Pos} (hc : X.calm = true) (hb : ∀ x ∈ bltNames, X.mg x = none) (h : cBi x = some o) (hg : Gl X x) (hd : (x == ("__debug__" : Str)) = false)
    (hs : (e :: es).all noStar = true) (ha : SndA X W (e :: es) g) : Snd X W (.Call (.Name x p) (e :: es) [] pos) (sBi o g) := by
  unfold cBi at h
  split at h
  · rename_i q; subst q; cases h; exact s_bi biLen_quiet biLen_ok hg (hb _ (by decide +kernel)) (by decide +kernel) (by decide +kernel) hd hs ha
  split at h
  · rename_i q; subst q; cases h; exact s_bi biAbs_quiet biAbs_ok hg (hb _ (by decide +kernel)) (by decide +kernel) (by decide +kernel) hd hs ha
  split at h
  · rename_i q; subst q; cases h; exact s_bi biMin_quiet (biMin_ok hc) hg (hb _ (by decide +kernel)) (by decide +kernel) (by decide +kernel) hd hs ha
  split at h
  · rename_i q; subst q; cases h; exact s_ty biInt_quiet biInt_ok hg (hb _ (by decide +kernel)) (by decide +kernel) (by decide +kernel) hd hs ha
  split at h
  · rename_i q; subst q; cases h; exact s_bi biOf_quiet (biSum_ok hc) hg (hb _ (by decide +kernel)) (by decide +kernel) (by decide +kernel) hd hs ha
  split at h
  · rename_i q; subst q; cases h; exact s_bi biOf_quiet (biAll_ok hc) hg (hb _ (by decide +kernel)) (by decide +kernel) (by decide +kernel) hd hs ha
  split at h
  · rename_i q; subst q; cases h; exact s_bi biOf_quiet (biAny_ok hc) hg (hb _ (by decide +kernel)) (by decide +kernel) (by decide +kernel) hd hs ha
  split at h
  · rename_i q; subst q; cases h; exact s_ty biList_quiet biList_ok hg (hb _ (by decide +kernel)) (by decide +kernel) (by decide +kernel) hd hs ha
  split at h
  · rename_i q; subst q; cases h; exact s_ty biTuple_quiet biTuple_ok hg (hb _ (by decide +kernel)) (by decide +kernel) (by decide +kernel) hd hs ha
  split at h
  · rename_i q; subst q; cases h; exact s_ty biOf_quiet (biDict_ok hc) hg (hb _ (by decide +kernel)) (by decide +kernel) (by decide +kernel) hd hs ha
  · cases h
/-- classes for isinstance -/
def cTy (x : Str) : Option String := if x = "int" then some "int" else if x = "bool" then some "bool" else if x = "str" then some "str" else if x = "tuple" then some "tuple" else if x = "list" then some "list" else none
theorem cTy_ok {x : Str} {T : String} (h : cTy x = some T) : T ∈ ["bool", "int", "str", "tuple", "list"] ∧ x ∈ bltNames ∧ bootBuiltins x = some (.type T) ∧ x ≠ "__name__" := by
  unfold cTy at h
  split at h
  · rename_i q; subst q; cases h; exact ⟨by decide, by decide +kernel, by decide +kernel, by decide +kernel⟩
  split at h
  · rename_i q; subst q; cases h; exact ⟨by decide, by decide +kernel, by decide +kernel, by decide +kernel⟩
  split at h
  · rename_i q; subst q; cases h; exact ⟨by decide, by decide +kernel, by decide +kernel, by decide +kernel⟩
  split at h
  · rename_i q; subst q; cases h; exact ⟨by decide, by decide +kernel, by decide +kernel, by decide +kernel⟩
  split at h
  · rename_i q; subst q; cases h; exact ⟨by decide, by decide +kernel, by decide +kernel, by decide +kernel⟩
  · cases h
/-- list(range(n)), a mutable list or not -/
def mkRg (m : Bool) (i : Int) (μ : Store) : R D :=
  if 0 ≤ i ∧ i ≤ 16777216 then (if m then .ok (.ref μ.length) (μ ++ [.lst (rangeD 0 1 i.toNat)]) else .ok (.lst (rangeD 0 1 i.toNat)) μ) else .no
def sListRg (m : Bool) (f : SE) : SE := fun ρ μ => (f ρ μ).bind fun d μ1 => match d with
  | .int i => mkRg m i μ1
  | _ => .no
theorem rangeD_rep {K : PySem.W.Frag} {H : Hp} {α : As} (n : Int) : RepL K H α (rangeD 0 1 n.toNat) (rgV 0 n) := by
  refine RepL.of (by rw [rgV_length, rangeD_length]; omega) fun i d v hd hv => ?_
  have hi : i < n.toNat := by
    have := (List.getElem?_eq_some_iff.mp hd).1
    rwa [rangeD_length] at this
  rw [rangeD_get hi] at hd
  cases hd
  unfold rgV at hv
  rw [List.getElem?_map, List.getElem?_range (by omega)] at hv
  cases hv
  show V.int _ = V.int _
  congr 1
  omega
theorem s_listRg {X : Cx} {W : WX} {e : Expr} {f : SE} {m : Bool} {p p2 pos pos2 : Pos} (hc : X.calm = true) (ha : Snd X W e f) (hs : noStar e = true) (hg : Gl X "list") (hm : X.mg "list" = none) (hg2 : Gl X "range") (hm2 : X.mg "range" = none) :
    Snd X W (.Call (.Name "list" p) [.Call (.Name "range" p2) [e] [] pos2] [] pos) (sListRg m f) := by
  refine .plain ((pe_listRg hc hg hm (prg_1 hg2 hm2 ha.pe (star_cons hs _ _)) rfl).imp fun σ H Q q => ?_) (by intro _; rfl)
  obtain ⟨α, μ, ρ, S, F, q⟩ := q
  refine ⟨α, μ, ρ, S, F, (Post.bind (rel := Rep X.K) q).imp fun v H1 q1 => ?_⟩
  obtain ⟨α1, μ1, d, S1, x1, r1, q1⟩ := q1
  split at q1
  · rename_i i
    have r1' : v = .int i := r1
    refine ⟨i, r1', ?_⟩
    unfold mkRg at q1
    split at q1
    · rename_i hl
      refine ⟨RgOk.of_le (by decide) hl.2 (by decide) hl.1, fun p3 h3 => ?_⟩
      cases m with
      | true => exact q1 _ _ (α1.more [p3]) (S1.newM h3 (rangeD_rep i)) (Ext.newM S1 h3) ⟨p3, rfl, by rw [← S1.len]; simp [As.more]⟩
      | false => exact q1 _ _ α1 (S1.new h3) (Ext.new h3) (Rep.newLst S1 (rangeD_rep i) h3)
    · exact q1.elim
  · exact q1.elim
theorem plain_ix {b : Expr} (h : (match b with | .Slice _ _ _ _ => false | _ => true) = true) : PlainIx b := by
  intro o i
  cases b <;> first | rfl | cases h
theorem not_folded {e : Expr} (h : (match e with | .Set _ _ _ => false | _ => true) = true) (env : Env) : ∀ x, foldedSetIterable e env x = pure x := by
  intro x
  cases e <;> first | rfl | cases h
theorem base_ok {o : Expr} (h : (match o with | .Call _ _ _ _ => false | _ => true) = true) (m : Str) (env : Env) : attributeBase o m env (eval o env) = eval o env := by
  cases o <;> first | rfl | cases h
theorem noComp_none {e : Expr} (h : (match e with | .ListComp _ _ _ _ => false | .SetComp _ _ _ _ => false | .DictComp _ _ _ _ _ => false | _ => true) = true) (t : Option Expr) (l : Nat) (env : Env) : swapsWith e t l env = pure false := by
  cases e <;> first | rfl | cases h
end Lite

set_option Elab.async false
set_option linter.all false
set_option maxRecDepth 100000
set_option maxHeartbeats 4000000
namespace Lite
open PySem L2

def ownOf (N : List Str) (scope : Scope) : List (Str × Nat) := scope.names.filterMap fun y => match y.2 with
  | .local => (N.idxOf? y.1).map fun i => (y.1, i)
  | .cell => (N.idxOf? y.1).map fun i => (y.1, i)
  | _ => none
def isTup : Expr → Bool
  | .Tuple _ _ _ => true
  | _ => false
def isSlice : Expr → Bool
  | .Slice _ _ _ _ => true
  | _ => false
def isSet : Expr → Bool
  | .Set _ _ _ => true
  | _ => false
def isCall : Expr → Bool
  | .Call _ _ _ _ => true
  | _ => false
def isComp : Expr → Bool
  | .ListComp _ _ _ _ => true
  | .SetComp _ _ _ _ => true
  | .DictComp _ _ _ _ _ => true
  | _ => false
def cConst : Const → Option SE
  | .int i => some (sCon (.int i))
  | .bool b => some (sCon (.bl b))
  | .none => some (sCon .non)
  | .str s => some (sCon (.str s))
  | _ => none
def cName (c : CE) (x : Str) : Option SE := match slotOf c x with
  | some i => if okName x then some (sVar i) else none
  | none => if isGl c x then (c.con.lookup x).map sCon else none
/-- the elements of a call's list: a list from range -/
def rangeArg (c : CE) : List Expr → Option Expr
  | [.Call (.Name x _) [e] [] _] => if x = "range" ∧ isGl c x = true then some e else none
  | _ => none
mutual
noncomputable def cE : Nat → CE → Expr → Option SE
  | 0, _, _ => none
  | n + 1, c, e => match e with
    | .Constant k _ _ => cConst k
    | .Name x _ => cName c x
    | .Tuple es _ _ => (cA n c es).map sTup
    | .List es pos => (cA n c es).map fun g => if mutAt c pos then sRef g else sLst g
    | .BinOp a op b pos => (cOpM (mutAt c pos) op).bind fun o => (cE n c a).bind fun f => (cE n c b).map fun g => sBin o f g
    | .UnaryOp .Not a _ => (cE n c a).map sNot
    | .UnaryOp .USub a _ => (cE n c a).map sNeg
    | .BoolOp op es _ => cB n c op es
    | .Compare a [op] [b] _ => if behindInMarks op b then none else (cCmp op).bind fun o => (cE n c a).bind fun f => (cE n c b).map fun g => sBin (cmpR o) f g
    | .Compare a [op, op'] [b, d] _ => if lastMarks [op, op'] [b, d] then none else (cCmp op).bind fun o => (cCmp op').bind fun o' => (cE n c a).bind fun f => (cE n c b).bind fun g => (cE n c d).map fun h => sChain o o' f g h
    | .IfExp t a b _ => (cE n c t).bind fun h => (cE n c a).bind fun f => (cE n c b).map fun g => sIf h f g
    | .Subscript a (.Slice lo hi none _) _ => (cE n c a).bind fun f => (cO n c lo).bind fun l => (cO n c hi).map fun h => sSlice f l h
    | .Subscript a i _ => if isSlice i then none else (cE n c a).bind fun f => (cE n c i).map fun g => sBin opSub1 f g
    | .Call (.Name x _) args [] pos => if isGl c x then cCall n c x args pos else none
    | .Call (.Attribute o m apos) args [] pos => if isCall o then none else if apos.endLine == pos.line then cMeth n c o m args else none
    | .ListComp elt [⟨tg, iter, ifs, isA⟩] scope pos =>
      if isA = 0 ∧ blkC c.N c.sc scope (ownOf c.N scope) = true ∧ isSet iter = false then
        (cI n c (isTup tg) iter).bind fun it => (cT n (c.blk scope) tg).bind fun t => if t.2.all fun i => ((ownOf c.N scope).map (·.2)).contains i then
          (cIfs n (c.blk scope) ifs).bind fun cd => (cE n (c.blk scope) elt).map fun f =>
            if mutAt c pos then sLCm ((ownOf c.N scope).map (·.2)) it t.1 cd f else sLC ((ownOf c.N scope).map (·.2)) it t.1 cd f
          else none
      else none
    | _ => none
noncomputable def cA : Nat → CE → List Expr → Option SA
  | 0, _, _ => none
  | n + 1, c, es => match es with
    | [] => some sNil
    | e :: es => (cE n c e).bind fun f => (cA n c es).map fun g => sCons f g
noncomputable def cB : Nat → CE → BoolOp → List Expr → Option SE
  | 0, _, _, _ => none
  | n + 1, c, op, es => match es with
    | [] => none
    | [a] => cE n c a
    | a :: rest => (cE n c a).bind fun f => (cB n c op rest).map fun g => match op with
      | .And => sAnd f g
      | .Or => sOr f g
noncomputable def cO : Nat → CE → Option Expr → Option SO
  | 0, _, _ => none
  | n + 1, c, o => match o with
    | none => some sPartN
    | some e => (cE n c e).map sPart
noncomputable def cIfs : Nat → CE → List Expr → Option ST
  | 0, _, _ => none
  | n + 1, c, es => match es with
    | [] => some stYes
    | [e] => (cE n c e).map sTruth
    | _ => none
/-- a call of a name of the module or of a built-in -/
noncomputable def cCall : Nat → CE → Str → List Expr → Pos → Option SE
  | 0, _, _, _, _ => none
  | n + 1, c, x, args, pos => match c.fns.lookup x with
    | some F => match args with
      | [] => some (sCall F sNil)
      | args => (cA n c args).map (sCall F)
    | none => if x = "isinstance" then match args with
        | [a, .Name t _] => if isGl c t then (cTy t).bind fun T => (cE n c a).map (sIsi T) else none
        | _ => none
      else match rangeArg c args with
        | some e => if x = "list" then (cE n c e).map (sListRg (mutAt c pos)) else none
        | none => match args with
          | [] => none
          | args => if mutAt c pos then none else (cBi x).bind fun o => (cA n c args).map (sBi o)
noncomputable def cMeth : Nat → CE → Expr → Str → List Expr → Option SE
  | 0, _, _, _, _ => none
  | n + 1, c, o, m, args => match args with
    | [a] => if m = "append" then (cE n c o).bind fun f => (cA n c [a]).map fun g => sMeth "list" opAppend f g
        else if m = "pop" then (cE n c o).bind fun f => (cA n c [a]).map fun g => sMeth "list" opPop f g else none
    | [a, b] => if m = "get" then (cE n c o).bind fun f => (cE n c a).bind fun g => (cE n c b).map fun h => sGet f g h else none
    | _ => none
/-- an iterable; t: whether the target is a tuple -/
noncomputable def cI : Nat → CE → Bool → Expr → Option SI
  | 0, _, _, _ => none
  | n + 1, c, t, e => match e with
    | .Call (.Name x _) args [] _ => if isGl c x = true ∧ c.fns.lookup x = none ∧ x = "range" then match args with
        | [a] => (cE n c a).map siRange1
        | [a, b] => (cE n c a).bind fun f => (cE n c b).map fun g => siRange2 f g
        | [a, b, d] => (cE n c a).bind fun f => (cE n c b).bind fun g => (cE n c d).map fun h => siRange3 f g h
        | _ => none
      else if isGl c x = true ∧ c.fns.lookup x = none ∧ x = "enumerate" then match args with
        | [a] => if t then (cE n c a).map siEnum else none
        | _ => none
      else if isGl c x = true ∧ c.fns.lookup x = none ∧ x = "zip" then match args with
        | [a, b] => if t then (cE n c a).bind fun f => (cE n c b).map fun g => siZip f g else none
        | _ => none
      else (cE n c e).map siSeq
    | e => (cE n c e).map siSeq
noncomputable def cT : Nat → CE → Expr → Option (Tg × List Nat)
  | 0, _, _ => none
  | n + 1, c, e => match e with
    | .Name x _ => (slotW c x).map fun i => (tgName i, [i])
    | .Tuple es _ _ => (cTs n c es).map fun p => (tgTup es.length p.1, p.2)
    | _ => none
noncomputable def cTs : Nat → CE → List Expr → Option (Tgs × List Nat)
  | 0, _, _ => none
  | n + 1, c, es => match es with
    | [] => some (tgNil, [])
    | e :: es => (cT n c e).bind fun p => (cTs n c es).map fun q => (tgCons p.1 q.1, p.2 ++ q.2)
end

theorem cE_noStar {n : Nat} {c : CE} {e : Expr} {f : SE} (h : cE n c e = some f) : noStar e = true := by
  cases n with
  | zero => cases h
  | succ n => cases e <;> first | rfl | cases h
theorem cT_noStar {n : Nat} {c : CE} {e : Expr} {f : Tg × List Nat} (h : cT n c e = some f) : noStar e = true := by
  cases n with
  | zero => cases h
  | succ n => cases e <;> first | rfl | cases h
theorem cA_noStar : ∀ {n : Nat} {c : CE} {es : List Expr} {f : SA}, cA n c es = some f → es.all noStar = true
  | 0, c, es, f, h => by cases h
  | n + 1, c, [], f, h => rfl
  | n + 1, c, e :: es, f, h => by
    unfold cA at h
    obtain ⟨f1, h1, h⟩ := Option.bind_eq_some_iff.mp h
    obtain ⟨g1, h2, h⟩ := Option.map_eq_some_iff.mp h
    rw [List.all_cons, cE_noStar h1, cA_noStar h2]; rfl
theorem cTs_noStar : ∀ {n : Nat} {c : CE} {es : List Expr} {f : Tgs × List Nat}, cTs n c es = some f → es.all noStar = true
  | 0, c, es, f, h => by cases h
  | n + 1, c, [], f, h => rfl
  | n + 1, c, e :: es, f, h => by
    unfold cTs at h
    obtain ⟨f1, h1, h⟩ := Option.bind_eq_some_iff.mp h
    obtain ⟨g1, h2, h⟩ := Option.map_eq_some_iff.mp h
    rw [List.all_cons, cT_noStar h1, cTs_noStar h2]; rfl

/-- what is sound at fuel n -/
structure OkN (n : Nat) : Prop where
  e : ∀ {c : CE} {X : Cx} {W : WX}, Cxt X W c → ∀ {e : Expr} {f : SE}, cE n c e = some f → Snd X W e f
  a : ∀ {c : CE} {X : Cx} {W : WX}, Cxt X W c → ∀ {es : List Expr} {f : SA}, cA n c es = some f → SndA X W es f
  b : ∀ {c : CE} {X : Cx} {W : WX}, Cxt X W c → ∀ {op : BoolOp} {es : List Expr} {f : SE} {pos : Pos}, cB n c op es = some f → PE X (.BoolOp op es pos) (tEv X.K X.mg W f) ∧ PW X (.BoolOp op es pos) (tEvT X.K X.mg W (sTruth f))
  o : ∀ {c : CE} {X : Cx} {W : WX}, Cxt X W c → ∀ {e : Option Expr} {f : SO}, cO n c e = some f → PO X e (tEvO X.K X.mg W f)
  ifs : ∀ {c : CE} {X : Cx}, Cxt X W0 c → ∀ {es : List Expr} {f : ST}, cIfs n c es = some f → PTs X es (tEvT X.K X.mg W0 f)
  call : ∀ {c : CE} {X : Cx} {W : WX}, Cxt X W c → ∀ {x : Str} {args : List Expr} {f : SE} {p pos pos2 : Pos}, isGl c x = true → cCall n c x args pos2 = some f → Snd X W (.Call (.Name x p) args [] pos) f
  meth : ∀ {c : CE} {X : Cx} {W : WX}, Cxt X W c → ∀ {o : Expr} {m : Str} {args : List Expr} {f : SE} {p pos : Pos}, isCall o = false → (p.endLine == pos.line) = true → cMeth n c o m args = some f → Snd X W (.Call (.Attribute o m p) args [] pos) f
  i : ∀ {c : CE} {X : Cx} {W : WX}, Cxt X W c → ∀ {tg e : Expr} {f : SI}, cI n c (isTup tg) e = some f → PI X tg e (tEvI X.K X.mg W f)
  t : ∀ {c : CE} {X : Cx} {W : WX}, Cxt X W c → ∀ {e : Expr} {f : Tg × List Nat}, cT n c e = some f → PG X e (tEvG X.K f.2 f.1)
  ts : ∀ {c : CE} {X : Cx} {W : WX}, Cxt X W c → ∀ {es : List Expr} {f : Tgs × List Nat}, cTs n c es = some f → PGs X es (tEvGs X.K f.2 f.1)

section
variable {n : Nat} (ih : OkN n)
include ih
theorem ok_a {c : CE} {X : Cx} {W : WX} (C : Cxt X W c) {es : List Expr} {f : SA} (h : cA (n + 1) c es = some f) : SndA X W es f := by
  unfold cA at h
  split at h
  · cases h; exact a_nil
  · obtain ⟨f1, h1, h⟩ := Option.bind_eq_some_iff.mp h
    obtain ⟨g1, h2, h⟩ := Option.map_eq_some_iff.mp h
    subst h
    exact a_cons (ih.e C h1).pe (ih.a C h2) (star_cons (cE_noStar h1) _ _)
theorem ok_b {c : CE} {X : Cx} {W : WX} (C : Cxt X W c) {op : BoolOp} {es : List Expr} {f : SE} {pos : Pos} (h : cB (n + 1) c op es = some f) : PE X (.BoolOp op es pos) (tEv X.K X.mg W f) ∧ PW X (.BoolOp op es pos) (tEvT X.K X.mg W (sTruth f)) := by
  unfold cB at h
  split at h
  · cases h
  · exact s_one (ih.e C h)
  · rename_i a rest hne
    obtain ⟨f1, h1, h⟩ := Option.bind_eq_some_iff.mp h
    obtain ⟨g1, h2, h⟩ := Option.map_eq_some_iff.mp h
    subst h
    cases rest with
    | nil => exact absurd rfl hne
    | cons b rest =>
      cases op
      · exact s_and (ih.e C h1) (ih.b C h2)
      · exact s_or (ih.e C h1) (ih.b C h2)
theorem ok_o {c : CE} {X : Cx} {W : WX} (C : Cxt X W c) {e : Option Expr} {f : SO} (h : cO (n + 1) c e = some f) : PO X e (tEvO X.K X.mg W f) := by
  unfold cO at h
  split at h
  · cases h; exact o_none
  · obtain ⟨g1, h2, h⟩ := Option.map_eq_some_iff.mp h
    subst h
    exact o_some (ih.e C h2)
theorem ok_ifs {c : CE} {X : Cx} (C : Cxt X W0 c) {es : List Expr} {f : ST} (h : cIfs (n + 1) c es = some f) : PTs X es (tEvT X.K X.mg W0 f) := by
  unfold cIfs at h
  split at h
  · cases h; exact ts_nil
  · obtain ⟨g1, h2, h⟩ := Option.map_eq_some_iff.mp h
    subst h
    exact ts_one (ih.e C h2).pt
  · cases h
theorem ok_t {c : CE} {X : Cx} {W : WX} (C : Cxt X W c) {e : Expr} {f : Tg × List Nat} (h : cT (n + 1) c e = some f) : PG X e (tEvG X.K f.2 f.1) := by
  unfold cT at h
  split at h
  · obtain ⟨i, h1, h⟩ := Option.map_eq_some_iff.mp h
    subst h
    obtain ⟨h2, h3, h4⟩ := slotW_ok C h1
    exact g_name C.hN h2 h3 h4
  · obtain ⟨p, h1, h⟩ := Option.map_eq_some_iff.mp h
    subst h
    exact g_tup C.calm (ih.ts C h1) (cTs_noStar h1)
  · cases h
theorem ok_ts {c : CE} {X : Cx} {W : WX} (C : Cxt X W c) {es : List Expr} {f : Tgs × List Nat} (h : cTs (n + 1) c es = some f) : PGs X es (tEvGs X.K f.2 f.1) := by
  unfold cTs at h
  split at h
  · cases h; exact gs_nil
  · obtain ⟨p, h1, h⟩ := Option.bind_eq_some_iff.mp h
    obtain ⟨q, h2, h⟩ := Option.map_eq_some_iff.mp h
    subst h
    exact gs_cons (ih.t C h1) (ih.ts C h2) (cT_noStar h1)
theorem ok_i {c : CE} {X : Cx} {W : WX} (C : Cxt X W c) {tg e : Expr} {f : SI} (h : cI (n + 1) c (isTup tg) e = some f) : PI X tg e (tEvI X.K X.mg W f) := by
  have tupOf : isTup tg = true → ∃ es k p, tg = .Tuple es k p := by
    intro q
    cases tg <;> first | exact ⟨_, _, _, rfl⟩ | cases q
  unfold cI at h
  split at h
  · rename_i x p args pos
    split at h
    · rename_i hx
      obtain ⟨hg, _, rfl⟩ := hx
      obtain ⟨hg, _⟩ := isGl_ok C hg
      have hm : X.mg "range" = none := C.blt _ (by decide +kernel)
      split at h
      · obtain ⟨g1, h2, h⟩ := Option.map_eq_some_iff.mp h
        subst h
        exact i_range1 (ih.e C h2) (cE_noStar h2) hg hm
      · obtain ⟨f1, h1, h⟩ := Option.bind_eq_some_iff.mp h
        obtain ⟨g1, h2, h⟩ := Option.map_eq_some_iff.mp h
        subst h
        exact i_range2 (ih.e C h1) (ih.e C h2) (cE_noStar h1) (cE_noStar h2) hg hm
      · obtain ⟨f1, h1, h⟩ := Option.bind_eq_some_iff.mp h
        obtain ⟨g1, h2, h⟩ := Option.bind_eq_some_iff.mp h
        obtain ⟨k1, h3, h⟩ := Option.map_eq_some_iff.mp h
        subst h
        exact i_range3 (ih.e C h1) (ih.e C h2) (ih.e C h3) (cE_noStar h1) (cE_noStar h2) (cE_noStar h3) hg hm
      · cases h
    split at h
    · rename_i hx
      obtain ⟨hg, _, rfl⟩ := hx
      obtain ⟨hg, _⟩ := isGl_ok C hg
      have hm : X.mg "enumerate" = none := C.blt _ (by decide +kernel)
      split at h
      · split at h
        · rename_i ht
          obtain ⟨es, k, pp, rfl⟩ := tupOf ht
          obtain ⟨g1, h2, h⟩ := Option.map_eq_some_iff.mp h
          subst h
          exact i_enum (ih.e C h2) (cE_noStar h2) hg hm
        · cases h
      · cases h
    split at h
    · rename_i hx
      obtain ⟨hg, _, rfl⟩ := hx
      obtain ⟨hg, _⟩ := isGl_ok C hg
      have hm : X.mg "zip" = none := C.blt _ (by decide +kernel)
      split at h
      · split at h
        · rename_i ht
          obtain ⟨es, k, pp, rfl⟩ := tupOf ht
          obtain ⟨f1, h1, h⟩ := Option.bind_eq_some_iff.mp h
          obtain ⟨g1, h2, h⟩ := Option.map_eq_some_iff.mp h
          subst h
          exact i_zip (ih.e C h1) (ih.e C h2) (cE_noStar h1) (cE_noStar h2) hg hm
        · cases h
      · cases h
    · obtain ⟨g1, h2, h⟩ := Option.map_eq_some_iff.mp h
      subst h
      exact i_seq (ih.e C h2)
  · obtain ⟨g1, h2, h⟩ := Option.map_eq_some_iff.mp h
    subst h
    exact i_seq (ih.e C h2)
theorem ok_call {c : CE} {X : Cx} {W : WX} (C : Cxt X W c) {x : Str} {args : List Expr} {f : SE} {p pos pos2 : Pos} (hgl : isGl c x = true) (h : cCall (n + 1) c x args pos2 = some f) : Snd X W (.Call (.Name x p) args [] pos) f := by
  obtain ⟨hg, hd⟩ := isGl_ok C hgl
  unfold cCall at h
  split at h
  · rename_i F hF
    split at h
    · cases h
      exact s_call0 (C.fns x F hF) C.tk hg hd
    · rename_i hne
      obtain ⟨g1, h2, h⟩ := Option.map_eq_some_iff.mp h
      subst h
      cases args with
      | nil => exact absurd rfl hne
      | cons a args => exact s_call (C.fns x F hF) C.tk hg hd (cA_noStar h2) (ih.a C h2)
  · split at h
    · rename_i hx
      subst hx
      split at h
      · rename_i a t pt
        split at h
        · rename_i ht
          obtain ⟨hg2, hd2⟩ := isGl_ok C ht
          obtain ⟨T, h1, h⟩ := Option.bind_eq_some_iff.mp h
          obtain ⟨g1, h2, h⟩ := Option.map_eq_some_iff.mp h
          subst h
          obtain ⟨t1, t2, t3, t4⟩ := cTy_ok h1
          exact s_isi t1 (ih.e C h2) hg (C.blt _ (by decide +kernel)) hg2 (C.blt _ t2) t3 t4 hd2 (cE_noStar h2)
        · cases h
      · cases h
    · split at h
      · rename_i e he
        split at h
        · rename_i hx
          subst hx
          obtain ⟨g1, h2, h⟩ := Option.map_eq_some_iff.mp h
          subst h
          unfold rangeArg at he
          split at he
          · split at he
            · rename_i hq
              obtain ⟨rfl, hq⟩ := hq
              cases he
              obtain ⟨hg2, hd2⟩ := isGl_ok C hq
              exact s_listRg C.calm (ih.e C h2) (cE_noStar h2) hg (C.blt _ (by decide +kernel)) hg2 (C.blt _ (by decide +kernel))
            · cases he
          · cases he
        · cases h
      · split at h
        · cases h
        · rename_i hne
          split at h
          · cases h
          · obtain ⟨o, h1, h⟩ := Option.bind_eq_some_iff.mp h
            obtain ⟨g1, h2, h⟩ := Option.map_eq_some_iff.mp h
            subst h
            cases args with
            | nil => exact absurd rfl hne
            | cons a args => exact cBi_ok C.calm C.blt h1 hg hd (cA_noStar h2) (ih.a C h2)
theorem ok_meth {c : CE} {X : Cx} {W : WX} (C : Cxt X W c) {o : Expr} {m : Str} {args : List Expr} {f : SE} {p pos : Pos} (ho : isCall o = false) (hl : (p.endLine == pos.line) = true) (h : cMeth (n + 1) c o m args = some f) : Snd X W (.Call (.Attribute o m p) args [] pos) f := by
  have hb : ∀ m env, attributeBase o m env (eval o env) = eval o env := fun m env => base_ok (by cases o <;> first | rfl | cases ho) m env
  unfold cMeth at h
  split at h
  · rename_i a
    split at h
    · rename_i hm
      subst hm
      obtain ⟨f1, h1, h⟩ := Option.bind_eq_some_iff.mp h
      obtain ⟨g1, h2, h⟩ := Option.map_eq_some_iff.mp h
      subst h
      exact s_meth PySem.F.plainAttrs_list PySem.F.slot_list_append PySem.F.type_list_append opAppend_quiet opAppend_ok (ih.e C h1) (ih.a C h2) (cA_noStar h2) (by simp) (hb _ _) hl
    · split at h
      · rename_i hm
        subst hm
        obtain ⟨f1, h1, h⟩ := Option.bind_eq_some_iff.mp h
        obtain ⟨g1, h2, h⟩ := Option.map_eq_some_iff.mp h
        subst h
        exact s_meth PySem.F.plainAttrs_list PySem.F.slot_list_pop PySem.F.type_list_pop opPop_quiet opPop_ok (ih.e C h1) (ih.a C h2) (cA_noStar h2) (by simp) (hb _ _) hl
      · cases h
  · rename_i a b
    split at h
    · rename_i hm
      subst hm
      obtain ⟨f1, h1, h⟩ := Option.bind_eq_some_iff.mp h
      obtain ⟨g1, h2, h⟩ := Option.bind_eq_some_iff.mp h
      obtain ⟨k1, h3, h⟩ := Option.map_eq_some_iff.mp h
      subst h
      have hu := C.units
      refine s_get (by omega) (ih.e C h1) (ih.e C h2) (ih.e C h3) (cE_noStar h2) (cE_noStar h3) (hb _ _) hl ?_
      rw [star_cons (cE_noStar h2), star_cons (cE_noStar h3)]
      rfl
    · cases h
  · cases h
theorem ok_e {c : CE} {X : Cx} {W : WX} (C : Cxt X W c) {e : Expr} {f : SE} (h : cE (n + 1) c e = some f) : Snd X W e f := by
  have hu := C.units
  unfold cE at h
  split at h
  · -- a constant
    unfold cConst at h
    split at h
    · cases h; exact s_int
    · cases h; exact s_bl
    · cases h; exact s_non
    · cases h; exact s_str
    · cases h
  · -- a name
    rename_i x pos
    unfold cName at h
    split at h
    · rename_i i hi
      split at h
      · rename_i hk
        cases h
        obtain ⟨h1, h2⟩ := slotOf_ok C hi
        obtain ⟨h3, h4⟩ := okName_ok hk
        exact s_var h1 h2 h3 h4
      · cases h
    · split at h
      · rename_i hg
        obtain ⟨hg, hd⟩ := isGl_ok C hg
        obtain ⟨d, h1, h⟩ := Option.map_eq_some_iff.mp h
        subst h
        obtain ⟨u, v, h2, h3, h4⟩ := C.con x d h1
        exact s_glob hg h2 h3 hd h4
      · cases h
  · obtain ⟨g1, h2, h⟩ := Option.map_eq_some_iff.mp h
    subst h
    exact s_tup (ih.a C h2)
  · obtain ⟨g1, h2, h⟩ := Option.map_eq_some_iff.mp h
    subst h
    split
    · exact s_ref (ih.a C h2)
    · exact s_lst (ih.a C h2)
  · obtain ⟨o, h0, h⟩ := Option.bind_eq_some_iff.mp h
    obtain ⟨f1, h1, h⟩ := Option.bind_eq_some_iff.mp h
    obtain ⟨g1, h2, h⟩ := Option.map_eq_some_iff.mp h
    subst h
    obtain ⟨o1, o2⟩ := cOpM_ok (X := X) h0
    exact s_bin o1 o2 (ih.e C h1).pe (ih.e C h2).pe
  · obtain ⟨g1, h2, h⟩ := Option.map_eq_some_iff.mp h
    subst h
    exact s_not (ih.e C h2)
  · obtain ⟨g1, h2, h⟩ := Option.map_eq_some_iff.mp h
    subst h
    exact s_neg (ih.e C h2)
  · exact .ofW (ih.b C h)
  · split at h
    · cases h
    · rename_i hb
      obtain ⟨o, h0, h⟩ := Option.bind_eq_some_iff.mp h
      obtain ⟨f1, h1, h⟩ := Option.bind_eq_some_iff.mp h
      obtain ⟨g1, h2, h⟩ := Option.map_eq_some_iff.mp h
      subst h
      exact s_cmp (cCmp_ok hu h0) (ih.e C h1).pe (ih.e C h2).pe (by simpa using hb)
  · split at h
    · cases h
    · rename_i hb
      obtain ⟨o, h0, h⟩ := Option.bind_eq_some_iff.mp h
      obtain ⟨o', h0', h⟩ := Option.bind_eq_some_iff.mp h
      obtain ⟨f1, h1, h⟩ := Option.bind_eq_some_iff.mp h
      obtain ⟨g1, h2, h⟩ := Option.bind_eq_some_iff.mp h
      obtain ⟨k1, h3, h⟩ := Option.map_eq_some_iff.mp h
      subst h
      exact s_chain (cCmp_ok hu h0) (cCmp_ok hu h0') (ih.e C h1) (ih.e C h2) (ih.e C h3) (by simpa using hb)
  · obtain ⟨f1, h1, h⟩ := Option.bind_eq_some_iff.mp h
    obtain ⟨g1, h2, h⟩ := Option.bind_eq_some_iff.mp h
    obtain ⟨k1, h3, h⟩ := Option.map_eq_some_iff.mp h
    subst h
    exact s_if (ih.e C h1) (ih.e C h2) (ih.e C h3)
  · obtain ⟨f1, h1, h⟩ := Option.bind_eq_some_iff.mp h
    obtain ⟨g1, h2, h⟩ := Option.bind_eq_some_iff.mp h
    obtain ⟨k1, h3, h⟩ := Option.map_eq_some_iff.mp h
    subst h
    exact s_slice (ih.e C h1) (ih.o C h2) (ih.o C h3)
  · rename_i a i pos hne
    split at h
    · cases h
    · rename_i hs
      obtain ⟨f1, h1, h⟩ := Option.bind_eq_some_iff.mp h
      obtain ⟨g1, h2, h⟩ := Option.map_eq_some_iff.mp h
      subst h
      exact s_sub (ih.e C h1) (ih.e C h2) (plain_ix (by cases i <;> first | rfl | exact absurd rfl hs))
  · split at h
    · rename_i hg
      exact ih.call C hg h
    · cases h
  · split at h
    · cases h
    · rename_i ho
      split at h
      · rename_i hl
        exact ih.meth C (by simpa using ho) hl h
      · cases h
  · rename_i elt tg iter ifs isA scope pos
    split at h
    · rename_i hq
      obtain ⟨hA, hb, hset⟩ := hq
      subst hA
      obtain ⟨it, h1, h⟩ := Option.bind_eq_some_iff.mp h
      obtain ⟨t, h2, h⟩ := Option.bind_eq_some_iff.mp h
      split at h
      · rename_i hsl
        obtain ⟨cd, h3, h⟩ := Option.bind_eq_some_iff.mp h
        obtain ⟨f1, h4, h⟩ := Option.map_eq_some_iff.mp h
        subst h
        have bo : BlkOk X.N X.env.scope scope (ownOf c.N scope) := by rw [C.names, C.scope]; exact blkOk_by hb
        have CB := C.blk bo.kind
        have hsl' : ∀ i ∈ t.2, i ∈ (ownOf c.N scope).map (·.2) := fun i hi => by
          have := List.all_eq_true.mp hsl i hi
          simpa using this
        have hfold := not_folded (e := iter) (by cases iter <;> first | rfl | cases hset) X.env
        split
        · exact s_lcm C.calm C.hN (ih.i C h1) bo (fun s H Ca cl fp => ih.t (CB s H Ca cl fp) h2) hsl' (fun s H Ca cl fp => ih.ifs (CB s H Ca cl fp) h3) (fun s H Ca cl fp => (ih.e (CB s H Ca cl fp) h4).pe) hfold
        · exact s_lc C.calm C.hN (ih.i C h1) bo (fun s H Ca cl fp => ih.t (CB s H Ca cl fp) h2) hsl' (fun s H Ca cl fp => ih.ifs (CB s H Ca cl fp) h3) (fun s H Ca cl fp => (ih.e (CB s H Ca cl fp) h4).pe) hfold
      · cases h
    · cases h
  · cases h
end
theorem okN : ∀ n, OkN n
  | 0 => by constructor <;> intros <;> rename_i h <;> cases h
  | n + 1 => ⟨ok_e (okN n), ok_a (okN n), ok_b (okN n), ok_o (okN n), ok_ifs (okN n), ok_call (okN n), ok_meth (okN n), ok_i (okN n), ok_t (okN n), ok_ts (okN n)⟩
end Lite

set_option Elab.async false
set_option linter.all false
set_option maxRecDepth 100000
set_option maxHeartbeats 4000000
namespace Lite
open PySem L2

/-! ### statements -/
def isStar : Expr → Bool
  | .Starred _ _ => true
  | _ => false
def swapNames (sc : Scope) (line : Nat) (ts : List Expr) : List Str := ts.filterMap fun t => match t with
  | .Name id pos => if sc.names.lookup id == some .local && pos.line == line then some id else none
  | _ => none
/-- how a tuple is stored into a tuple: some none by unpacking; some names in one go; none: not covered -/
def swapP (sc : Scope) (ts vs : List Expr) : Option (Option (List Str)) :=
  if (!(ts.length == 2 || ts.length == 3) || vs.length != ts.length) = true then some none
  else if vs.any isStar = true then some none
  else if ((swapNames sc ((ts.head?.map (·.pos.line)).getD 0) ts).length != ts.length || (swapNames sc ((ts.head?.map (·.pos.line)).getD 0) ts).eraseDups.length != (swapNames sc ((ts.head?.map (·.pos.line)).getD 0) ts).length) = true then some none
  else if vs.all (foldedForSure 8) = true then some none
  else if vs.all (constantsAlone 8) = true then none
  else some (some (swapNames sc ((ts.head?.map (·.pos.line)).getD 0) ts))
theorem swapP_ok {env : Env} {ts vs : List Expr} {kt k2 : Nat} {pt p2 : Pos} {r : Option (List Str)} (hk : env.scope.kind = .function) (h : swapP env.scope ts vs = some r) : swappedStores [.Tuple ts kt pt] (.Tuple vs k2 p2) env = pure r := by
  have hb : env.blockKind = .function := by unfold Env.blockKind; rw [hk]; rfl
  have hbn : (env.blockKind != ScopeKind.function) = false := by rw [hb]; rfl
  have hn : ∀ line, (ts.filterMap fun t => match t with
      | .Name id pos => if env.kindOf id == some .local && pos.line == line then some id else none
      | _ => none) = swapNames env.scope line ts := fun _ => rfl
  have hst : (vs.any fun | .Starred .. => true | _ => false) = vs.any isStar := by
    congr 1
  unfold swapP at h
  unfold swappedStores
  simp only [hbn, Bool.or_false]
  split at h
  · rename_i c
    cases h
    exact if_pos c
  rename_i c1
  rw [if_neg c1]
  split at h
  · rename_i c
    cases h
    show (if (vs.any fun | .Starred .. => true | _ => false) = true then _ else _) = _
    rw [hst]
    exact if_pos c
  rename_i c2
  show (if (vs.any fun | .Starred .. => true | _ => false) = true then _ else _) = _
  rw [hst, if_neg c2]
  split at h
  · rename_i c
    cases h
    exact if_pos c
  rename_i c3
  show (if ((swapNames env.scope ((ts.head?.map (·.pos.line)).getD 0) ts).length != ts.length || (swapNames env.scope ((ts.head?.map (·.pos.line)).getD 0) ts).eraseDups.length != (swapNames env.scope ((ts.head?.map (·.pos.line)).getD 0) ts).length) = true then _ else _) = _
  rw [if_neg c3]
  split at h
  · rename_i c
    cases h
    exact if_pos c
  rename_i c4
  show (if vs.all (foldedForSure 8) = true then _ else _) = _
  rw [if_neg c4]
  split at h
  · cases h
  rename_i c5
  cases h
  show (if vs.all (constantsAlone 8) = true then _ else _) = _
  rw [if_neg c5]
  rfl

noncomputable def cAsg (n : Nat) (c : CE) (tg e : Expr) (pos : Pos) : Option SS := match tg with
  | .Name x px => match e with
    | .ListComp _ _ scope lp => if c.sc.names.lookup x = some .cell then (slotW c x).bind fun i => (cE n c e).map fun f => ssAsg f (tgName i) else if px.line == lp.line && !(scope.names.any fun (n, k) => n == x && (k == .local || k == .cell)) then (slotL c x).bind fun i => (cE n c e).map fun f => ssAsg f (tgName i) else none
    | e => if isComp e then none else (slotW c x).bind fun i => (cE n c e).map fun f => ssAsg f (tgName i)
  | .Tuple ts _ _ => match e with
    | .Tuple vs _ _ => match swapP c.sc ts vs with
      | some none => (cE n c e).bind fun f => (cT n c tg).map fun t => ssAsg f t.1
      | some (some names) => match ts, vs with
        | [.Name x _, .Name y _], [a, b] => if names = [x, y] then (slotL c x).bind fun i => (slotL c y).bind fun j => if i = j then none else (cA n c [a, b]).map fun g => ssPar i j g else none
        | [.Name x _, .Name y _, .Name z _], [a, b, d] => if names = [x, y, z] then (slotL c x).bind fun i => (slotL c y).bind fun j => (slotL c z).bind fun l => if i = j ∨ i = l ∨ j = l then none else (cA n c [a, b, d]).map fun g => ssPar3 i j l g else none
        | _, _ => none
      | none => none
    | e => if isComp e then none else (cE n c e).bind fun f => (cT n c tg).map fun t => ssAsg f t.1
  | .Subscript a i _ => if isSlice i || isComp e then none else (cE n c e).bind fun f => (cE n c a).bind fun g => (cE n c i).map fun h => ssStore f g h
  | _ => none
def tryHead (c : CE) : List ExceptHandler → Option (Nat × List (Str × Bool) × List (Str × Bool))
  | [.ExceptHandler (some (.Name y _)) (some nm) [.Return (some (.Call (.Name is _) [.Name n2 _, .Name z _] [] _)) _] _] =>
    if is = "isinstance" ∧ n2 = nm ∧ isGl c y = true ∧ isGl c z = true ∧ isGl c is = true ∧ okName nm = true then (slotL c nm).bind fun i => (c.catch_.lookup y).bind fun s1 => (c.isi.lookup z).map fun s2 => (i, s1, s2) else none
  | _ => none
mutual
noncomputable def cS : Nat → CE → Stmt → Option SS
  | 0, _, _ => none
  | n + 1, c, st => match st with
    | .Expr e _ => if isComp e then none else (cE n c e).map ssExpr
    | .Return (some e) _ => (cE n c e).map ssRet
    | .Return none _ => some ssRetN
    | .Pass _ => some ssPass
    | .If t a b _ => (cE n c t).bind fun h => (cSs n c a).bind fun f => (cSs n c b).map fun g => ssIf (sTruth h) f g
    | .While t b [] _ => (cE n c t).bind fun h => (cSs n c b).map fun g => ssWhile (sTruth h) g
    | .For tg it b [] _ => if isSet it then none else (cI n c (isTup tg) it).bind fun i => (cT n c tg).bind fun t => (cSs n c b).map fun g => ssFor i t.1 g
    | .Assign [tg] e pos => cAsg n c tg e pos
    | .Raise (some (.Call (.Name x _) [.Constant (.str _) _ _] [] _)) none _ => if isGl c x && c.excs.contains x then some (ssRaise x) else none
    | .Try b hs [] [] _ => (tryHead c hs).bind fun q => (cSs n c b).map fun g => ssTryIs q.1 g q.2.1 q.2.2
    | _ => none
noncomputable def cSs : Nat → CE → List Stmt → Option SS
  | 0, _, _ => none
  | n + 1, c, ss => match ss with
    | [] => some ssNil
    | [s] => cS n c s
    | s :: ss => (cS n c s).bind fun f => (cSs n c ss).map fun g => ssSeq f g
end
/-- the context of statements -/
structure Cxs (X : Cx) (W : WX) (c : CE) : Prop extends Cxt X W c where
  po : PassesOwn (model X.prog X.w) X.A X.env X.xe
  stk : X.stack = X.env :: X.outer
  frm : X.env.frame = some X.env.locals
theorem noSole {e : Expr} (h : ¬ isComp e = true) (t : Expr) (l : Nat) (env : Env) : swapsWithSole [t] e l env = pure false := by
  cases e <;> first | rfl | exact absurd rfl h
theorem notTuple_none {e tg : Expr} (h : (match e with | .Tuple _ _ _ => false | _ => true) = true) (ht : isTup tg = true) (env : Env) : swappedStores [tg] e env = pure none := by
  cases tg <;> first | (cases e <;> first | rfl | cases h) | cases ht
theorem sub_none {a i e : Expr} {p : Pos} (env : Env) : swappedStores [.Subscript a i p] e env = pure none := by
  cases e <;> rfl
theorem ok_asg {n : Nat} {c : CE} {X : Cx} {W : WX} (C : Cxs X W c) {tg e : Expr} {pos : Pos} {f : SS} (h : cAsg n c tg e pos = some f) : SndS X W (.Assign [tg] e pos) f := by
  have ih := okN n
  have D := C.toCxt
  unfold cAsg at h
  split at h
  · -- a name
    rename_i x px
    split at h
    · -- a comprehension
      rename_i elt gens scope lp
      split at h
      · rename_i hcell
        obtain ⟨i, hi, h⟩ := Option.bind_eq_some_iff.mp h
        obtain ⟨g, h1, h⟩ := Option.map_eq_some_iff.mp h
        subst h
        obtain ⟨s1, s2, s3⟩ := slotW_ok D hi
        refine st_set D.hN s1 s2 s3 (ih.e D h1).pe ?_
        have hk : X.env.kindOf x = some .cell := by
          show X.env.scope.names.lookup x = _
          rw [C.scope]; exact hcell
        show (pure (X.env.blockKind == .function && X.env.kindOf x == some .local && px.line == lp.line && !(scope.names.any fun (n, k) => n == x && (k == .local || k == .cell))) : Sem Bool) = pure false
        rw [hk]
        congr 1
        have e : (some NameKind.cell == some NameKind.local) = false := rfl
        rw [e, Bool.and_false, Bool.false_and, Bool.false_and]
      split at h
      · rename_i hl
        obtain ⟨i, hi, h⟩ := Option.bind_eq_some_iff.mp h
        obtain ⟨g, h1, h⟩ := Option.map_eq_some_iff.mp h
        subst h
        obtain ⟨s1, s2⟩ := slotL_ok D hi
        rw [Bool.and_eq_true] at hl
        have hsw : swapsWith (.ListComp elt gens scope lp) (some (.Name x px)) pos.line X.env = pure true := sw_true D.hkind s2 hl.1 (by simpa using hl.2)
        -- the comprehension's parts
        cases n with
        | zero => cases h1
        | succ n =>
          have ih' := okN n
          rcases gens with _ | ⟨⟨tg, iter, ifs, isA⟩, _ | ⟨_, _⟩⟩
          · unfold cE at h1
            cases h1
          · unfold cE at h1
            simp only at h1
            split at h1
            · rename_i hq
              obtain ⟨hA, hb, hset⟩ := hq
              subst hA
              obtain ⟨it, g1, h⟩ := Option.bind_eq_some_iff.mp h1
              obtain ⟨t, h2, h⟩ := Option.bind_eq_some_iff.mp h
              split at h
              · rename_i hsl
                obtain ⟨cd, h3, h⟩ := Option.bind_eq_some_iff.mp h
                obtain ⟨f1, h4, h⟩ := Option.map_eq_some_iff.mp h
                subst h
                have bo : BlkOk X.N X.env.scope scope (ownOf c.N scope) := by rw [C.names, C.scope]; exact blkOk_by hb
                have CB := D.blk bo.kind
                have hsl' : ∀ i ∈ t.2, i ∈ (ownOf c.N scope).map (·.2) := fun i hi => by
                  have := List.all_eq_true.mp hsl i hi
                  simpa using this
                have hfold := not_folded (e := iter) (by cases iter <;> first | rfl | cases hset) X.env
                split
                · exact (ps_setLc C.calm D.hN s1 s2 hsw (ih'.i D g1) bo (fun s H Ca cl fp => ih'.t (CB s H Ca cl fp) h2) (fun s H Ca cl fp => ih'.ifs (CB s H Ca cl fp) h3) (fun s H Ca cl fp => (ih'.e (CB s H Ca cl fp) h4).pe) hfold).imp (lcset_ev (lc_ev hsl' _ fin_ref))
                · exact (ps_setLc C.calm D.hN s1 s2 hsw (ih'.i D g1) bo (fun s H Ca cl fp => ih'.t (CB s H Ca cl fp) h2) (fun s H Ca cl fp => ih'.ifs (CB s H Ca cl fp) h3) (fun s H Ca cl fp => (ih'.e (CB s H Ca cl fp) h4).pe) hfold).imp (lcset_ev (lc_ev hsl' _ fin_lst))
              · cases h
            · cases h1
          · unfold cE at h1
            cases h1
      · cases h
    · split at h
      · cases h
      · rename_i hc
        obtain ⟨i, hi, h⟩ := Option.bind_eq_some_iff.mp h
        obtain ⟨g, h1, h⟩ := Option.map_eq_some_iff.mp h
        subst h
        obtain ⟨s1, s2, s3⟩ := slotW_ok D hi
        exact st_set D.hN s1 s2 s3 (ih.e D h1).pe (noComp_none (by cases e <;> first | rfl | exact absurd rfl hc) _ _ _)
  · -- a tuple
    rename_i ts kt pt
    split at h
    · rename_i vs k2 p2
      split at h
      · rename_i hsw
        obtain ⟨f1, h1, h⟩ := Option.bind_eq_some_iff.mp h
        obtain ⟨t, h2, h⟩ := Option.map_eq_some_iff.mp h
        subst h
        exact st_asg (ih.e D h1).pe (ih.t D h2) rfl (swapP_ok D.hkind (by rw [C.scope]; exact hsw)) rfl
      · rename_i names hsw
        have hsw' := fun k2 p2 kt pt => swapP_ok (k2 := k2) (p2 := p2) (kt := kt) (pt := pt) D.hkind (by rw [C.scope]; exact hsw)
        split at h
        · rename_i x px y py a b
          split at h
          · rename_i hn
            subst hn
            obtain ⟨i, hi, h⟩ := Option.bind_eq_some_iff.mp h
            obtain ⟨j, hj, h⟩ := Option.bind_eq_some_iff.mp h
            split at h
            · cases h
            · rename_i hij
              obtain ⟨g, h1, h⟩ := Option.map_eq_some_iff.mp h
              subst h
              obtain ⟨a1, a2⟩ := slotL_ok D hi
              obtain ⟨b1, b2⟩ := slotL_ok D hj
              exact st_par C.calm D.hN a1 b1 hij a2 b2 (ih.a D h1) (hsw' _ _ _ _)
          · cases h
        · rename_i x px y py z pz a b d
          split at h
          · rename_i hn
            subst hn
            obtain ⟨i, hi, h⟩ := Option.bind_eq_some_iff.mp h
            obtain ⟨j, hj, h⟩ := Option.bind_eq_some_iff.mp h
            obtain ⟨l, hl, h⟩ := Option.bind_eq_some_iff.mp h
            split at h
            · cases h
            · rename_i hij
              obtain ⟨g, h1, h⟩ := Option.map_eq_some_iff.mp h
              subst h
              obtain ⟨a1, a2⟩ := slotL_ok D hi
              obtain ⟨b1, b2⟩ := slotL_ok D hj
              obtain ⟨c1, c2⟩ := slotL_ok D hl
              exact st_par3 C.calm D.hN a1 b1 c1 (fun e => hij (.inl e)) (fun e => hij (.inr (.inl e))) (fun e => hij (.inr (.inr e))) a2 b2 c2 (ih.a D h1) (hsw' _ _ _ _)
          · cases h
        · cases h
      · cases h
    · rename_i hne
      split at h
      · cases h
      · rename_i hc
        obtain ⟨f1, h1, h⟩ := Option.bind_eq_some_iff.mp h
        obtain ⟨t, h2, h⟩ := Option.map_eq_some_iff.mp h
        subst h
        exact st_asg (ih.e D h1).pe (ih.t D h2) (noSole hc _ _ _) (notTuple_none (by cases e <;> first | rfl | exact absurd rfl (hne _ _ _)) rfl _) rfl
  · -- an item of a list
    rename_i a i ps
    split at h
    · cases h
    · rename_i hc
      rw [Bool.or_eq_true, not_or] at hc
      obtain ⟨f1, h1, h⟩ := Option.bind_eq_some_iff.mp h
      obtain ⟨g1, h2, h⟩ := Option.bind_eq_some_iff.mp h
      obtain ⟨k1, h3, h⟩ := Option.map_eq_some_iff.mp h
      subst h
      refine st_store (ih.e D h1).pe (ih.e D h2).pe (ih.e D h3).pe (noSole hc.2 _ _ _) (sub_none _) ?_
      intro v
      cases i <;> first | rfl | exact absurd rfl hc.1
  · cases h
/-- statements and blocks at fuel n -/
structure OkS (n : Nat) : Prop where
  s : ∀ {c : CE} {X : Cx} {W : WX}, Cxs X W c → ∀ {st : Stmt} {f : SS}, cS n c st = some f → SndS X W st f
  b : ∀ {c : CE} {X : Cx} {W : WX}, Cxs X W c → ∀ {st : List Stmt} {f : SS}, cSs n c st = some f → SndB X W st f
theorem Cxs.tr {X : Cx} {W : WX} {c : CE} (C : Cxs X W c) {W' : WX} {pn : List (Addr × Obj)} {xe : Value → Shared → Prop} (tk : Takes (X.tr pn xe) W') (po : PassesOwn (model X.prog X.w) X.A X.env xe) : Cxs (X.tr pn xe) W' c :=
  { C.toCxt.tr tk with po := po, stk := C.stk, frm := C.frm }
theorem ok_s {n : Nat} (ih : OkS n) {c : CE} {X : Cx} {W : WX} (C : Cxs X W c) {st : Stmt} {f : SS} (h : cS (n + 1) c st = some f) : SndS X W st f := by
  have ie := okN n
  have D := C.toCxt
  unfold cS at h
  split at h
  · rename_i e pos
    split at h
    · cases h
    · rename_i hc
      obtain ⟨f1, h1, h⟩ := Option.map_eq_some_iff.mp h
      subst h
      exact st_expr (ie.e D h1).pe (noComp_none (by cases e <;> first | rfl | exact absurd rfl hc) _ _ _)
  · obtain ⟨f1, h1, h⟩ := Option.map_eq_some_iff.mp h
    subst h
    exact st_ret (ie.e D h1).pe
  · cases h; exact st_retN
  · cases h; exact st_pass
  · obtain ⟨f1, h1, h⟩ := Option.bind_eq_some_iff.mp h
    obtain ⟨f2, h2, h⟩ := Option.bind_eq_some_iff.mp h
    obtain ⟨f3, h3, h⟩ := Option.map_eq_some_iff.mp h
    subst h
    exact st_if (ie.e D h1).pt (ih.b C h2) (ih.b C h3)
  · obtain ⟨f1, h1, h⟩ := Option.bind_eq_some_iff.mp h
    obtain ⟨f3, h3, h⟩ := Option.map_eq_some_iff.mp h
    subst h
    exact st_while C.po (ie.e D h1).pt (ih.b C h3)
  · rename_i tg it b pos
    split at h
    · cases h
    · rename_i hset
      obtain ⟨f1, h1, h⟩ := Option.bind_eq_some_iff.mp h
      obtain ⟨f2, h2, h⟩ := Option.bind_eq_some_iff.mp h
      obtain ⟨f3, h3, h⟩ := Option.map_eq_some_iff.mp h
      subst h
      exact st_for C.po C.calm (ie.i D h1) (ie.t D h2) (ih.b C h3) (not_folded (by cases it <;> first | rfl | exact absurd rfl hset) _)
  · exact ok_asg C h
  · split at h
    · rename_i hq
      rw [Bool.and_eq_true] at hq
      cases h
      obtain ⟨hg, hd⟩ := isGl_ok D hq.1
      exact st_raise C.calm C.tk (C.exc _ (by simpa using hq.2)) hg hd
    · cases h
  · rename_i b hs pos
    obtain ⟨q, h1, h⟩ := Option.bind_eq_some_iff.mp h
    obtain ⟨g, h2, h⟩ := Option.map_eq_some_iff.mp h
    subst h
    unfold tryHead at h1
    split at h1
    · rename_i y np nm is p1 n2 p2 z p3 p4 p5 p6
      split at h1
      · rename_i hq
        obtain ⟨rfl, rfl, hy, hz, hi, hk⟩ := hq
        obtain ⟨i, hsl, h1⟩ := Option.bind_eq_some_iff.mp h1
        obtain ⟨s1, hs1, h1⟩ := Option.bind_eq_some_iff.mp h1
        obtain ⟨s2, hs2, h1⟩ := Option.map_eq_some_iff.mp h1
        subst h1
        obtain ⟨a1, a2⟩ := slotL_ok D hsl
        obtain ⟨y1, y2⟩ := isGl_ok D hy
        obtain ⟨z1, z2⟩ := isGl_ok D hz
        obtain ⟨i1, i2⟩ := isGl_ok D hi
        obtain ⟨k1, k2⟩ := okName_ok hk
        exact st_tryIs C.stk C.frm D.hN a1 a2 k1 k2 (C.cat _ _ hs1) y1 y2 (C.isi _ _ hs2) z1 z2 i1 (C.blt _ (by decide +kernel)) C.tk fun W' pn xe tk po => ih.b (C.tr tk po) h2
      · cases h1
    · cases h1
  · cases h
theorem ok_ss {n : Nat} (ih : OkS n) {c : CE} {X : Cx} {W : WX} (C : Cxs X W c) {st : List Stmt} {f : SS} (h : cSs (n + 1) c st = some f) : SndB X W st f := by
  unfold cSs at h
  split at h
  · cases h; exact b_nil
  · exact b_one (ih.s C h)
  · obtain ⟨f1, h1, h⟩ := Option.bind_eq_some_iff.mp h
    obtain ⟨f2, h2, h⟩ := Option.map_eq_some_iff.mp h
    subst h
    exact b_cons (ih.s C h1) (ih.b C h2)
theorem okS : ∀ n, OkS n
  | 0 => by constructor <;> intros <;> rename_i h <;> cases h
  | n + 1 => ⟨ok_s (okS n), ok_ss (okS n)⟩
end Lite

set_option Elab.async false
set_option linter.all false
set_option maxRecDepth 100000
set_option maxHeartbeats 4000000
namespace Lite
open PySem L2

/-! ### defs -/
mutual
/-- only mutable objects of numbers under n -/
def below (n : Nat) : D → Bool
  | .tup ds => belowL n ds
  | .lst ds => belowL n ds
  | .dct _ ds => belowL n ds
  | .ref i => decide (i < n)
  | _ => true
def belowL (n : Nat) : List D → Bool
  | [] => true
  | d :: ds => below n d && belowL n ds
end
mutual
theorem below_of {K : PySem.W.Frag} {H : Hp} {α : As} : ∀ (d : D) (v : V), Rep K H α d v → below α.ix.length d = true
  | .non, _, _ => rfl
  | .bl _, _, _ => rfl
  | .int _, _, _ => rfl
  | .str _, _, _ => rfl
  | .scr _, _, _ => rfl
  | .tup ds, v, h => by
    obtain ⟨a, vs, rfl, _, h2⟩ := h
    exact belowL_of ds vs h2
  | .lst ds, v, h => by
    obtain ⟨a, vs, rfl, _, _, h2⟩ := h
    exact belowL_of ds vs h2
  | .dct ks ds, v, h => by
    obtain ⟨a, kvs, rfl, _, _, _, h2⟩ := h
    exact belowL_of ds _ h2
  | .ref i, v, h => by
    obtain ⟨a, rfl, h1⟩ := h
    unfold below
    exact decide_eq_true (List.getElem?_eq_some_iff.mp h1).1
theorem belowL_of {K : PySem.W.Frag} {H : Hp} {α : As} : ∀ (ds : List D) (vs : List V), RepL K H α ds vs → belowL α.ix.length ds = true
  | [], _, _ => rfl
  | d :: ds, vs, h => by
    obtain ⟨v, vr, rfl, h1, h2⟩ := h
    unfold belowL
    rw [below_of d v h1, belowL_of ds vr h2]; rfl
end
mutual
/-- with fewer mutable addresses -/
theorem Rep.less {K : PySem.W.Frag} {H : Hp} {α α' : As} (hs : ∀ a, a ∈ α → a ∈ α') {β : List Addr} (hp : α'.ix = α.ix ++ β) : ∀ (d : D) (v : V), below α.ix.length d = true → Rep K H α' d v → Rep K H α d v
  | .non, _, _, h => h
  | .bl _, _, _, h => h
  | .int _, _, _, h => h
  | .str _, _, _, h => h
  | .scr ns, v, _, h => by
    obtain ⟨a, rfl, h1⟩ := h
    refine ⟨a, rfl, ?_⟩
    rcases h1 with ⟨h1, n⟩ | h1
    · exact .inl ⟨h1, fun z => n (hs a z)⟩
    · exact .inr h1
  | .tup ds, v, b, h => by
    obtain ⟨a, vs, rfl, h1, h2⟩ := h
    refine ⟨a, vs, rfl, ?_, RepL.less hs hp ds vs b h2⟩
    rcases h1 with ⟨h1, n⟩ | h1
    · exact .inl ⟨h1, fun z => n (hs a z)⟩
    · exact .inr h1
  | .lst ds, v, b, h => by
    obtain ⟨a, vs, rfl, h1, n, h2⟩ := h
    exact ⟨a, vs, rfl, h1, fun z => n (hs a z), RepL.less hs hp ds vs b h2⟩
  | .dct ks ds, v, b, h => by
    obtain ⟨a, kvs, rfl, h1, n, h3, h2⟩ := h
    exact ⟨a, kvs, rfl, h1, fun z => n (hs a z), h3, RepL.less hs hp ds _ b h2⟩
  | .ref i, v, b, h => by
    obtain ⟨a, rfl, h1⟩ := h
    refine ⟨a, rfl, ?_⟩
    unfold below at b
    rw [hp, List.getElem?_append_left (of_decide_eq_true b)] at h1
    exact h1
theorem RepL.less {K : PySem.W.Frag} {H : Hp} {α α' : As} (hs : ∀ a, a ∈ α → a ∈ α') {β : List Addr} (hp : α'.ix = α.ix ++ β) : ∀ (ds : List D) (vs : List V), belowL α.ix.length ds = true → RepL K H α' ds vs → RepL K H α ds vs
  | [], _, _, h => h
  | d :: ds, vs, b, h => by
    obtain ⟨v, vr, rfl, h1, h2⟩ := h
    unfold belowL at b
    rw [Bool.and_eq_true] at b
    exact ⟨v, vr, rfl, Rep.less hs hp d v b.1 h1, RepL.less hs hp ds vr b.2 h2⟩
end
/-- as a value that nobody writes any more -/
def frz : Nat → Nat → Store → D → Option D
  | 0, n, _, d => if below n d then some d else none
  | k + 1, n, μ, d => if below n d then some d else match d with
    | .ref i => match μ[i]? with
      | some (.lst ds) => (ds.mapM (frz k n μ)).map .lst
      | none => none
    | .tup ds => (ds.mapM (frz k n μ)).map .tup
    | .lst ds => (ds.mapM (frz k n μ)).map .lst
    | _ => none
theorem frz_list {K : PySem.W.Frag} {H : Hp} {α α' : As} {F : D → Option D} (hF : ∀ d e v, Rep K H α' d v → F d = some e → Rep K H α e v) : ∀ (ds es : List D) (vs : List V), RepL K H α' ds vs → ds.mapM F = some es → RepL K H α es vs
  | [], es, vs, h, e => by
    simp at e; subst e; exact h
  | d :: ds, es, vs, h, e => by
    obtain ⟨v, vr, rfl, h1, h2⟩ := h
    rw [List.mapM_cons] at e
    obtain ⟨x, e1, e⟩ := Option.bind_eq_some_iff.mp e
    obtain ⟨xs, e2, e⟩ := Option.bind_eq_some_iff.mp e
    cases e
    exact ⟨v, vr, rfl, hF d x v h1 e1, frz_list hF ds xs vr h2 e2⟩
theorem frz_ok {K : PySem.W.Frag} {H : Hp} {α α' : As} {μ : Store} (S : StoreRel K H α' μ) (hh : α'.hid = α.hid) {β : List Addr} (hp : α'.ix = α.ix ++ β) : ∀ (k : Nat) (d e : D) (v : V), Rep K H α' d v → frz k α.ix.length μ d = some e → Rep K H α e v := by
  have hs : ∀ a, a ∈ α → a ∈ α' := by
    rintro a (h | h)
    · exact .inl (by rw [hp]; exact List.mem_append_left _ h)
    · exact .inr (by rw [hh]; exact h)
  intro k
  induction k with
  | zero =>
    intro d e v h q
    unfold frz at q
    split at q
    · rename_i b; cases q; exact Rep.less hs hp d v b h
    · cases q
  | succ k ih =>
    intro d e v h q
    unfold frz at q
    split at q
    · rename_i b; cases q; exact Rep.less hs hp d v b h
    · rename_i nb
      split at q
      · rename_i i
        split at q
        · rename_i ds e1
          obtain ⟨es, e2, q⟩ := Option.map_eq_some_iff.mp q
          subst q
          obtain ⟨a, rfl, h1⟩ := h
          obtain ⟨vs, h2, h3⟩ := S.ob i a _ h1 e1
          refine ⟨a, vs, rfl, h2, ?_, frz_list ih ds es vs h3 e2⟩
          rintro (z | z)
          · obtain ⟨j, hj⟩ := List.getElem?_of_mem z
            have hl := (List.getElem?_eq_some_iff.mp hj).1
            have hj' : α'.ix[j]? = some a := by rw [hp, List.getElem?_append_left hl]; exact hj
            have g1 := List.getElem?_eq_some_iff.mp hj'
            have g2 := List.getElem?_eq_some_iff.mp h1
            have e3 : j = i := (List.getElem_inj S.nd).mp (g1.2.trans g2.2.symm)
            apply nb
            unfold below
            exact decide_eq_true (by omega)
          · exact S.apart a (by rw [hh]; exact z) (List.mem_of_getElem? h1)
        · cases q
      · rename_i ds
        obtain ⟨es, e2, q⟩ := Option.map_eq_some_iff.mp q
        subst q
        obtain ⟨a, vs, rfl, h1, h3⟩ := h
        refine ⟨a, vs, rfl, ?_, frz_list ih ds es vs h3 e2⟩
        rcases h1 with ⟨h1, n⟩ | h1
        · exact .inl ⟨h1, fun z => n (hs a z)⟩
        · exact .inr h1
      · rename_i ds
        obtain ⟨es, e2, q⟩ := Option.map_eq_some_iff.mp q
        subst q
        obtain ⟨a, vs, rfl, h1, n, h3⟩ := h
        exact ⟨a, vs, rfl, h1, fun z => n (hs a z), frz_list ih ds es vs h3 e2⟩
      · cases q
/-- the store ahead of a def is as it was, or written with what was there -/
def KeepOk (μ μ' : Store) : Prop := μ.length ≤ μ'.length ∧ ∀ i, i < μ.length → μ'[i]? = μ[i]? ∨ ∃ ds, μ'[i]? = some (.lst ds) ∧ belowL μ.length ds = true
/-- back to the store ahead -/
theorem StoreRel.back {K : PySem.W.Frag} {H0 H : Hp} {α α' : As} {μ μ' : Store} (S0 : StoreRel K H0 α μ) (x : Ext H0 α H α') (S : StoreRel K H α' μ') (hm : KeepOk μ μ') : StoreRel K H α (μ'.take μ.length) := by
  obtain ⟨β, hp⟩ := x.pre
  have hs : ∀ a, a ∈ α → a ∈ α' := by
    rintro a (h | h)
    · exact .inl (by rw [hp]; exact List.mem_append_left _ h)
    · exact .inr (by rw [x.hid]; exact h)
  refine ⟨by rw [List.length_take, S0.len, Nat.min_eq_left hm.1], S0.nd, S0.apart, fun a ha => ?_, fun i a o ha ho => ?_⟩
  · exact S.hidThere a (by rw [x.hid]; exact ha)
  · have hl := (List.getElem?_eq_some_iff.mp ha).1
    have ha' : α'.ix[i]? = some a := by rw [hp, List.getElem?_append_left hl]; exact ha
    have hlm : i < μ.length := by rw [← S0.len]; exact hl
    have ho' : μ'[i]? = some o := by
      rw [List.getElem?_take, if_pos hlm] at ho
      exact ho
    have q := S.ob i a o ha' ho'
    cases o with
    | lst ds =>
      obtain ⟨vs, h1, h2⟩ := q
      refine ⟨vs, h1, RepL.less hs hp ds vs ?_ h2⟩
      rcases hm.2 i hlm with e | ⟨es, e, hb⟩
      · rw [ho'] at e
        obtain ⟨vs0, _, h4⟩ := S0.ob i a _ ha e.symm
        exact belowL_of ds vs0 h4
      · rw [ho'] at e
        cases e
        rw [S0.len]; exact hb
theorem Ext.back {H0 H : Hp} {α α' : As} (x : Ext H0 α H α') : Ext H0 α H α := by
  obtain ⟨β, hp⟩ := x.pre
  refine ⟨⟨fun b o h n => ⟨(x.keep b o h n).1, n⟩, [], by simp⟩, rfl, x.hkeep⟩
open Classical in
/-- a def's body as a function: its own mutable objects are given up -/
noncomputable def runF (N : List Str) (G : SS) : List D → Store → R D := fun ds μ => match G (ds.map some ++ List.replicate (N.length - ds.length) none) μ with
  | .nx _ μ' => if KeepOk μ μ' then .ok .non (μ'.take μ.length) else .no
  | .rt d μ' => if KeepOk μ μ' then match frz 9 μ.length μ' d with
    | some e => .ok e (μ'.take μ.length)
    | none => .no
    else .no
  | .exc x [] _ μ' => if KeepOk μ μ' then .exc x [] (μ'.take μ.length) else .no
  | _ => .no
/-- .. what it made stays mutable -/
def runM (N : List Str) (G : SS) : List D → Store → R D := fun ds μ => match G (ds.map some ++ List.replicate (N.length - ds.length) none) μ with
  | .nx _ μ' => .ok .non μ'
  | .rt d μ' => .ok d μ'
  | .exc x fs _ μ' => .exc x fs μ'
  | _ => .no
/-- what the texts around a def know -/
structure Stat (K : PySem.W.Frag) (mg : Str → Option Value) (c : CE) : Prop where
  con : ∀ x d, c.con.lookup x = some d → ∃ u v, mg x = some u ∧ RelV v u ∧ ∀ H α, Rep K H α d v
  blt : ∀ x ∈ bltNames, mg x = none
  exc : ∀ X : Cx, X.K = K → X.mg = mg → ∀ x ∈ c.excs, ExcAt X x
  cat : ∀ X : Cx, X.K = K → X.mg = mg → ∀ x s, c.catch_.lookup x = some s → CatchAt X x s
  isi : ∀ X : Cx, X.K = K → X.mg = mg → ∀ x s, c.isi.lookup x = some s → IsiAt X x s
structure Glob (P : Program) (w : World) (K : PySem.W.Frag) (mg : Str → Option Value) (base : Heap) (k : Nat) (c : CE) : Prop extends Stat K mg c where
  fns : ∀ x F, c.fns.lookup x = some F → ∃ f fd j ps, j ≤ k ∧ FnOk P w K mg base (L2.CX P w) j f fd ps (spOf K mg F) ∧ mg x = some (.ref f) ∧ PySem.W.keepIn K (.ref f) = true ∧ Binds K fd ps []
theorem frame_start {K : PySem.W.Frag} {H : Hp} {α : As} {ds : List D} {vs : List V} {N : List Str} (h : RepL K H α ds vs) : FrameRel K H α (L2.start N vs) (ds.map some ++ List.replicate (N.length - ds.length) none) := by
  have hl := h.length
  refine ⟨by unfold L2.start; simp [hl], fun i d hi => ?_⟩
  have hi' : i < ds.length ∧ ds[i]? = some d := by
    by_cases q : i < ds.length
    · refine ⟨q, ?_⟩
      rw [List.getElem?_append_left (by simpa using q), List.getElem?_map] at hi
      obtain ⟨y, e1, e2⟩ := Option.map_eq_some_iff.mp hi
      cases e2; exact e1
    · rw [List.getElem?_append_right (by simpa using q)] at hi
      rw [List.getElem?_replicate] at hi
      split at hi <;> cases hi
  obtain ⟨v, e, r⟩ := h.get hi'.2
  refine ⟨v, ?_, r⟩
  unfold L2.start
  rw [List.getElem?_append_left (by simp [hl]; exact hi'.1), List.getElem?_map, e]; rfl
section
variable {P : Program} {w : World} {K : PySem.W.Frag} {mg : Str → Option Value} {base : Heap} {x qual : Str} {st : Stmt} {f : Addr} {fd : FuncData} {c : CE} {ps : List Str} {k n : Nat} {G : SS}
theorem fn_go (F : FunD K x qual (defArgs st) (defBody st) (defScope st) [] [] f fd) (S : FnScope c.N ps (defScope st)) (hsc : c.sc = defScope st) (htop : c.top = true) (g : Glob P w K mg base k c) (hc : cSs n c (defBody st) = some G) {R : List D → Store → R D}
    (hR : ∀ (vs : List V) (H : Hp) (Q : VK) (E : XK) (α : As) (μ : Store) (ds : List D), StoreRel K H α μ → RepL K H α ds vs → Post K mg (Rep K) H α Q E (R ds μ) → PostS K mg H α { nx := fun _ H' => Q .non H', rt := Q } (fun cls d _ H => E cls d H) (G (ds.map some ++ List.replicate (c.N.length - ds.length) none) μ)) :
    FnOk P w K mg base (L2.CX P w) (k + 1) f fd ps (spOf K mg ⟨ps.length, R⟩) := by
  refine FunD.ok F S ?_ fun cdv A outer s H vs Q E hr hsp => ?_
  · rintro vs H Q E ⟨α, μ, ds, S1, r, hl, _⟩
    rw [r.length]; exact hl
  · obtain ⟨α, μ, ds, S1, r, hl, q⟩ := hsp
    have tk : Takes (cxOf (L2.CX P w) P w K mg base c.N qual (defScope st) f cdv A outer s H E) (fun cls d _ H => E cls d H) := takes_of rfl rfl rfl rfl
    have C : Cxs (cxOf (L2.CX P w) P w K mg base c.N qual (defScope st) f cdv A outer s H E) (fun cls d _ H => E cls d H) c :=
      { scope := hsc.symm, names := rfl, nd := S.nd, kind := by rw [hsc]; exact S.kind, calm := rfl, tk := tk
        units := by have := hr.un; show (A.deeper _).units + 100 < _; omega
        fns := fun y F' hy => by
          obtain ⟨f1, fd1, j, ps1, hj, h1, h2, h3, h4⟩ := g.fns y F' hy
          exact ⟨f1, fd1, j, ps1, h1, hr.mono hj, h2, h3, h4⟩
        con := g.con, blt := g.blt, fna := fun _ _ => rfl, exc := g.exc _ rfl rfl, cat := g.cat _ rfl rfl, isi := g.isi _ rfl rfl
        po := passes_of rfl, stk := rfl, frm := rfl }
    exact ⟨_, (okS n).b C hc, α, μ, _, S1, frame_start r, hR vs H Q E α μ ds S1 r q⟩
theorem fn_frz (F : FunD K x qual (defArgs st) (defBody st) (defScope st) [] [] f fd) (S : FnScope c.N ps (defScope st)) (hsc : c.sc = defScope st) (htop : c.top = true) (g : Glob P w K mg base k c) (hc : cSs n c (defBody st) = some G) :
    FnOk P w K mg base (L2.CX P w) (k + 1) f fd ps (spOf K mg ⟨ps.length, runF c.N G⟩) := by
  refine fn_go F S hsc htop g hc fun vs H Q E α μ ds S1 r q => ?_
  unfold runF at q
  have hlen := S1.len
  split at q
  · rename_i ρ μ' e
    split at q
    · rename_i hm
      rw [e]
      intro σ' H' α' S' F' x'
      exact q _ H' α (S1.back x' S' hm) x'.back rfl
    · exact q.elim
  · rename_i d μ' e
    split at q
    · rename_i hm
      split at q
      · rename_i z hz
        rw [e]
        intro v H' α' S' r' x'
        obtain ⟨β, hp⟩ := x'.pre
        exact q v H' α (S1.back x' S' hm) x'.back (frz_ok S' x'.hid hp 9 d z v r' (by rw [hlen]; exact hz))
      · exact q.elim
    · exact q.elim
  · rename_i y ρ μ' e
    split at q
    · rename_i hm
      rw [e]
      intro C dx σ' H' α' hC S' F' x' hd
      refine q C dx H' α hC (S1.back x' S' hm) x'.back ?_
      rcases hd with hd | ⟨a, vs, h, _⟩
      · exact .inl hd
      · exact absurd rfl h
    · exact q.elim
  · exact q.elim
theorem fn_mut (F : FunD K x qual (defArgs st) (defBody st) (defScope st) [] [] f fd) (S : FnScope c.N ps (defScope st)) (hsc : c.sc = defScope st) (htop : c.top = true) (g : Glob P w K mg base k c) (hc : cSs n c (defBody st) = some G) :
    FnOk P w K mg base (L2.CX P w) (k + 1) f fd ps (spOf K mg ⟨ps.length, runM c.N G⟩) := by
  refine fn_go F S hsc htop g hc fun vs H Q E α μ ds S1 r q => ?_
  unfold runM at q
  split at q
  · rename_i ρ μ' e
    rw [e]
    intro σ' H' α' S' F' x'
    exact q _ H' α' S' x' rfl
  · rename_i d μ' e
    rw [e]
    intro v H' α' S' r' x'
    exact q v H' α' S' x' r'
  · rename_i y fs ρ μ' e
    rw [e]
    intro C dx σ' H' α' hC S' F' x' hd
    exact q C dx H' α' hC S' x' hd
  · exact q.elim
end
/-! ### defs by their names -/
def Has (P : Program) (w : World) (K : PySem.W.Frag) (mg : Str → Option Value) (base : Heap) (k : Nat) (x : Str) (ps : List Str) (F : Fn) : Prop :=
  ∃ f fd, FnOk P w K mg base (L2.CX P w) k f fd ps (spOf K mg F) ∧ mg x = some (.ref f) ∧ PySem.W.keepIn K (.ref f) = true ∧ Binds K fd ps []
theorem Stat.with {K : PySem.W.Frag} {mg : Str → Option Value} {c c' : CE} (s : Stat K mg c) (h1 : c'.con = c.con) (h2 : c'.excs = c.excs) (h3 : c'.catch_ = c.catch_) (h4 : c'.isi = c.isi) : Stat K mg c' :=
  ⟨by rw [h1]; exact s.con, s.blt, by rw [h2]; exact s.exc, by rw [h3]; exact s.cat, by rw [h4]; exact s.isi⟩
def Calls (P : Program) (w : World) (K : PySem.W.Frag) (mg : Str → Option Value) (base : Heap) (k : Nat) : List (Str × Fn) → Prop
  | [] => True
  | p :: r => (∃ j ps, j ≤ k ∧ Has P w K mg base j p.1 ps p.2) ∧ Calls P w K mg base k r
theorem Calls.get {P : Program} {w : World} {K : PySem.W.Frag} {mg : Str → Option Value} {base : Heap} {k : Nat} : ∀ {l : List (Str × Fn)} {x : Str} {F : Fn}, Calls P w K mg base k l → l.lookup x = some F → ∃ j ps, j ≤ k ∧ Has P w K mg base j x ps F
  | [], _, _, _, h => nomatch h
  | p :: r, x, F, c, h => by
    rw [List.lookup_cons] at h
    cases q : (x == p.1) with
    | true =>
      rw [q] at h
      have e : p.2 = F := Option.some.inj h
      rw [← e, eq_of_beq q]
      exact c.1
    | false =>
      rw [q] at h
      exact Calls.get c.2 h
section
variable {P : Program} {w : World} {K : PySem.W.Frag} {mg : Str → Option Value} {base : Heap} {x : Str} {st : Stmt} {c c0 : CE} {ps : List Str} {k n : Nat} {G : SS}
theorem has_go {R : List D → Store → R D} (hF : ∃ fd, FunD K x x (defArgs st) (defBody st) (defScope st) [] [] (He.ga K x) fd) (hm : mg x = some (.ref (He.ga K x)))
    (hb : ∀ (kV doc pm : Value) (an : Option Addr) (cdv ct : Value) (us : List Value), us.length = ps.length → bindArgs (PySem.W.fnOf x x (defArgs st) (defBody st) (defScope st) .none kV doc pm an cdv ct) ⟨us, []⟩ = pure (ps.zip us))
    (h : ∀ fd, FunD K x x (defArgs st) (defBody st) (defScope st) [] [] (He.ga K x) fd → FnOk P w K mg base (L2.CX P w) (k + 1) (He.ga K x) fd ps (spOf K mg ⟨ps.length, R⟩)) : Has P w K mg base (k + 1) x ps ⟨ps.length, R⟩ := by
  obtain ⟨fd, F⟩ := hF
  exact ⟨_, fd, h fd F, hm, F.kp, F.bindsN hb⟩
theorem Stat.glob (s : Stat K mg c0) (h1 : c.con = c0.con) (h2 : c.excs = c0.excs) (h3 : c.catch_ = c0.catch_) (h4 : c.isi = c0.isi) (hc : Calls P w K mg base k c.fns) : Glob P w K mg base k c :=
  { toStat := s.with h1 h2 h3 h4
    fns := fun x F h => by
      obtain ⟨j, ps, hj, f, fd, h1, h2, h3, h4⟩ := hc.get h
      exact ⟨f, fd, j, ps, hj, h1, h2, h3, h4⟩ }
theorem has_frz (s : Stat K mg c0) (hF : ∃ fd, FunD K x x (defArgs st) (defBody st) (defScope st) [] [] (He.ga K x) fd) (hm : mg x = some (.ref (He.ga K x)))
    (hb : ∀ (kV doc pm : Value) (an : Option Addr) (cdv ct : Value) (us : List Value), us.length = ps.length → bindArgs (PySem.W.fnOf x x (defArgs st) (defBody st) (defScope st) .none kV doc pm an cdv ct) ⟨us, []⟩ = pure (ps.zip us))
    (S : FnScope c.N ps (defScope st)) (hsc : c.sc = defScope st) (htop : c.top = true) (h1 : c.con = c0.con) (h2 : c.excs = c0.excs) (h3 : c.catch_ = c0.catch_) (h4 : c.isi = c0.isi) (hc : Calls P w K mg base k c.fns) (hG : cSs n c (defBody st) = some G) :
    Has P w K mg base (k + 1) x ps ⟨ps.length, runF c.N G⟩ :=
  has_go hF hm hb fun fd F => fn_frz F S hsc htop (s.glob h1 h2 h3 h4 hc) hG
theorem has_mut (s : Stat K mg c0) (hF : ∃ fd, FunD K x x (defArgs st) (defBody st) (defScope st) [] [] (He.ga K x) fd) (hm : mg x = some (.ref (He.ga K x)))
    (hb : ∀ (kV doc pm : Value) (an : Option Addr) (cdv ct : Value) (us : List Value), us.length = ps.length → bindArgs (PySem.W.fnOf x x (defArgs st) (defBody st) (defScope st) .none kV doc pm an cdv ct) ⟨us, []⟩ = pure (ps.zip us))
    (S : FnScope c.N ps (defScope st)) (hsc : c.sc = defScope st) (htop : c.top = true) (h1 : c.con = c0.con) (h2 : c.excs = c0.excs) (h3 : c.catch_ = c0.catch_) (h4 : c.isi = c0.isi) (hc : Calls P w K mg base k c.fns) (hG : cSs n c (defBody st) = some G) :
    Has P w K mg base (k + 1) x ps ⟨ps.length, runM c.N G⟩ :=
  has_go hF hm hb fun fd F => fn_mut F S hsc htop (s.glob h1 h2 h3 h4 hc) hG
end
end Lite

set_option Elab.async false
set_option linter.all false
set_option maxRecDepth 100000
set_option maxHeartbeats 0
namespace K14
open PySem L2 Lite
/-! divisor -/
def N_divisor : List Str := ["numbers", "found", "number", "one", "other"]
def P_divisor : List Str := ["numbers"]
noncomputable def Q_divisor_1 : ST := sTruth (sBin (cmpR cmpGt) (sVar 4) (sCon (.int 0)))
noncomputable def B_divisor_2 : SS := ssPar 3 4 (sCons (sVar 4) (sCons (sBin opMod (sVar 3) (sVar 4)) (sNil)))
noncomputable def B_divisor_3 : SS := ssSeq (ssPar 3 4 (sCons (sVar 1) (sCons (sBi biAbs (sCons (sVar 2) (sNil))) (sNil)))) (ssSeq (ssWhile Q_divisor_1 B_divisor_2) (ssAsg (sVar 3) (tgName 1)))
noncomputable def G_divisor : SS := ssSeq (ssAsg (sCon (.int 0)) (tgName 1)) (ssSeq (ssFor (siSeq (sVar 0)) (tgName 2) B_divisor_3) (ssRet (sIf (sBin (cmpR cmpGt) (sVar 1) (sCon (.int 0))) (sVar 1) (sCon (.int 1)))))
noncomputable def F_divisor : Fn := ⟨1, runF N_divisor G_divisor⟩
/-! lowest -/
def N_lowest : List Str := ["top", "below", "part"]
def P_lowest : List Str := ["top", "below"]
noncomputable def G_lowest : SS := ssSeq (ssAsg (sCall F_divisor (sCons (sLst (sCons (sVar 0) (sCons (sVar 1) (sNil)))) (sNil))) (tgName 2)) (ssSeq (ssAsg (sIf (sBin (cmpR cmpGt) (sVar 1) (sCon (.int 0))) (sVar 2) (sNeg (sVar 2))) (tgName 2)) (ssRet (sTup (sCons (sBin opDiv (sVar 0) (sVar 2)) (sCons (sBin opDiv (sVar 1) (sVar 2)) (sNil))))))
noncomputable def F_lowest : Fn := ⟨2, runF N_lowest G_lowest⟩
/-! plus -/
def N_plus : List Str := ["one", "other", "factor"]
def P_plus : List Str := ["one", "other", "factor"]
noncomputable def G_plus : SS := ssRet (sCall F_lowest (sCons (sBin opAdd (sBin opMul (sBin opSub1 (sVar 0) (sCon (.int 0))) (sBin opSub1 (sVar 1) (sCon (.int 1)))) (sBin opMul (sBin opMul (sVar 2) (sBin opSub1 (sVar 1) (sCon (.int 0)))) (sBin opSub1 (sVar 0) (sCon (.int 1))))) (sCons (sBin opMul (sBin opSub1 (sVar 0) (sCon (.int 1))) (sBin opSub1 (sVar 1) (sCon (.int 1)))) (sNil))))
noncomputable def F_plus : Fn := ⟨3, runF N_plus G_plus⟩
/-! is_less -/
def N_is_less : List Str := ["one", "other"]
def P_is_less : List Str := ["one", "other"]
noncomputable def G_is_less : SS := ssRet (sBin (cmpR cmpLt) (sBin opMul (sBin opSub1 (sVar 0) (sCon (.int 0))) (sBin opSub1 (sVar 1) (sCon (.int 1)))) (sBin opMul (sBin opSub1 (sVar 1) (sCon (.int 0))) (sBin opSub1 (sVar 0) (sCon (.int 1)))))
noncomputable def F_is_less : Fn := ⟨2, runF N_is_less G_is_less⟩
/-! neat -/
def N_neat : List Str := ["numbers", "part", ".0", "number"]
def P_neat : List Str := ["numbers"]
noncomputable def E_neat_1 : SE := sBin opDiv (sVar 3) (sVar 1)
noncomputable def G_neat : SS := ssSeq (ssAsg (sCall F_divisor (sCons (sVar 0) (sNil))) (tgName 1)) (ssRet (sLC [2, 3] (siSeq (sVar 0)) (tgName 3) (stYes) (E_neat_1)))
noncomputable def F_neat : Fn := ⟨1, runF N_neat G_neat⟩
/-! table_of -/
def N_table_of : List Str := ["lines", "many", "table", "at", "line", "factors", "bound", "slacks", ".0", "place"]
def P_table_of : List Str := ["lines"]
noncomputable def E_table_of_1 : SE := sIf (sBin (cmpR cmpEq) (sVar 9) (sVar 3)) (sCon (.int 1)) (sCon (.int 0))
noncomputable def B_table_of_2 : SS := ssSeq (ssAsg (sVar 4) (tgTup 2 (tgCons (tgName 5) (tgCons (tgName 6) (tgNil))))) (ssSeq (ssAsg (sLC [8, 9] (siRange1 (sVar 1)) (tgName 9) (stYes) (E_table_of_1)) (tgName 7)) (ssAsg (sBin opAdd (sVar 2) (sLst (sCons (sBin opAdd (sBin opAdd (sVar 5) (sVar 7)) (sLst (sCons (sVar 6) (sNil)))) (sNil)))) (tgName 2)))
noncomputable def G_table_of : SS := ssSeq (ssPar 1 2 (sCons (sBi biLen (sCons (sVar 0) (sNil))) (sCons (sLst (sNil)) (sNil)))) (ssSeq (ssFor (siEnum (sVar 0)) (tgTup 2 (tgCons (tgName 3) (tgCons (tgName 4) (tgNil)))) B_table_of_2) (ssRet (sVar 2)))
noncomputable def F_table_of : Fn := ⟨1, runF N_table_of G_table_of⟩
/-! cleared -/
def N_cleared : List Str := ["line", "pivot", "at", ".0", "one", "other"]
def P_cleared : List Str := ["line", "pivot", "at"]
noncomputable def E_cleared_1 : SE := sBin opSub (sBin opMul (sVar 4) (sBin opSub1 (sVar 1) (sVar 2))) (sBin opMul (sVar 5) (sBin opSub1 (sVar 0) (sVar 2)))
noncomputable def G_cleared : SS := ssSeq (ssIf (sTruth (sBin (cmpR cmpEq) (sBin opSub1 (sVar 0) (sVar 2)) (sCon (.int 0)))) (ssRet (sVar 0)) (ssNil)) (ssRet (sCall F_neat (sCons (sLC [3, 4, 5] (siZip (sVar 0) (sVar 1)) (tgTup 2 (tgCons (tgName 4) (tgCons (tgName 5) (tgNil)))) (stYes) (E_cleared_1)) (sNil))))
noncomputable def F_cleared : Fn := ⟨3, runF N_cleared G_cleared⟩
/-! leaving -/
def N_leaving : List Str := ["table", "basis", "at", "found", "index", "line", "mine", "best"]
def P_leaving : List Str := ["table", "basis", "at"]
noncomputable def B_leaving_1 : SS := ssIf (sTruth (sBin (cmpR cmpGt) (sBin opSub1 (sVar 5) (sVar 2)) (sCon (.int 0)))) (ssIf (sTruth (sBin (cmpR cmpIs) (sVar 3) (sCon .non))) (ssAsg (sVar 4) (tgName 3)) (ssSeq (ssPar 6 7 (sCons (sBin opMul (sBin opSub1 (sVar 5) (sNeg (sCon (.int 1)))) (sBin opSub1 (sBin opSub1 (sVar 0) (sVar 3)) (sVar 2))) (sCons (sBin opMul (sBin opSub1 (sBin opSub1 (sVar 0) (sVar 3)) (sNeg (sCon (.int 1)))) (sBin opSub1 (sVar 5) (sVar 2))) (sNil)))) (ssIf (sTruth (sOr (sBin (cmpR cmpLt) (sVar 6) (sVar 7)) (sAnd (sBin (cmpR cmpEq) (sVar 6) (sVar 7)) (sBin (cmpR cmpLt) (sBin opSub1 (sVar 1) (sVar 4)) (sBin opSub1 (sVar 1) (sVar 3)))))) (ssAsg (sVar 4) (tgName 3)) (ssNil)))) (ssNil)
noncomputable def G_leaving : SS := ssSeq (ssAsg (sCon .non) (tgName 3)) (ssSeq (ssFor (siEnum (sVar 0)) (tgTup 2 (tgCons (tgName 4) (tgCons (tgName 5) (tgNil)))) B_leaving_1) (ssRet (sVar 3)))
noncomputable def F_leaving : Fn := ⟨3, runF N_leaving G_leaving⟩
/-! numbers_of -/
def N_numbers_of : List Str := ["table", "basis", "many", "common", "line", "at", "values", ".0"]
def P_numbers_of : List Str := ["table", "basis", "many"]
noncomputable def B_numbers_of_1 : SS := ssAsg (sBin opMul (sVar 3) (sBin opDiv (sBin opSub1 (sVar 4) (sVar 5)) (sCall F_divisor (sCons (sLst (sCons (sVar 3) (sCons (sBin opSub1 (sVar 4) (sVar 5)) (sNil)))) (sNil))))) (tgName 3)
noncomputable def E_numbers_of_2 : SE := sTup (sCons (sVar 5) (sCons (sBin opMul (sBin opSub1 (sVar 4) (sNeg (sCon (.int 1)))) (sBin opDiv (sVar 3) (sBin opSub1 (sVar 4) (sVar 5)))) (sNil)))
noncomputable def E_numbers_of_3 : SE := sGet (sVar 6) (sVar 5) (sCon (.int 0))
noncomputable def G_numbers_of : SS := ssSeq (ssAsg (sCon (.int 1)) (tgName 3)) (ssSeq (ssFor (siZip (sVar 0) (sVar 1)) (tgTup 2 (tgCons (tgName 4) (tgCons (tgName 5) (tgNil)))) B_numbers_of_1) (ssSeq (ssAsg (sBi biDict (sCons (sLC [7, 4, 5] (siZip (sVar 0) (sVar 1)) (tgTup 2 (tgCons (tgName 4) (tgCons (tgName 5) (tgNil)))) (stYes) (E_numbers_of_2)) (sNil))) (tgName 6)) (ssRet (sTup (sCons (sLC [7, 5] (siRange1 (sVar 2)) (tgName 5) (stYes) (E_numbers_of_3)) (sCons (sVar 3) (sNil)))))))
noncomputable def F_numbers_of : Fn := ⟨3, runF N_numbers_of G_numbers_of⟩
/-! greatest -/
def N_greatest : List Str := ["lines", "goal", "watched", "many", "table", "basis", "some", "index", "pivot", ".0", "at", "place", "line"]
def P_greatest : List Str := ["lines", "goal", "watched"]
noncomputable def E_greatest_1 : SE := sBin opAdd (sVar 3) (sVar 10)
noncomputable def Q_greatest_2 : ST := sTruth (sCon (.bl true))
noncomputable def E_greatest_3 : SE := sVar 10
noncomputable def Q_greatest_4 : ST := sTruth (sBin (cmpR cmpGt) (sBin opSub1 (sVar 1) (sVar 10)) (sCon (.int 0)))
noncomputable def E_greatest_5 : SE := sIf (sBin (cmpR cmpEq) (sVar 11) (sVar 7)) (sVar 8) (sCall F_cleared (sCons (sVar 12) (sCons (sVar 8) (sCons (sBin opSub1 (sVar 6) (sCon (.int 0))) (sNil)))))
noncomputable def B_greatest_6 : SS := ssSeq (ssAsg (sLC [9, 10] (siRange1 (sBin opSub (sBi biLen (sCons (sVar 1) (sNil))) (sCon (.int 1)))) (tgName 10) (Q_greatest_4) (E_greatest_3)) (tgName 6)) (ssSeq (ssIf (sTruth (sOr (sBin (cmpR cmpEq) (sVar 6) (sLst (sNil))) (sAnd (sBin (cmpR cmpIsNot) (sVar 2) (sCon .non)) (sBin (cmpR cmpLt) (sBin opSub1 (sVar 1) (sNeg (sCon (.int 1)))) (sCon (.int 0)))))) (ssRet (sCall F_numbers_of (sCons (sVar 4) (sCons (sVar 5) (sCons (sVar 3) (sNil)))))) (ssNil)) (ssSeq (ssAsg (sCall F_leaving (sCons (sVar 4) (sCons (sVar 5) (sCons (sBin opSub1 (sVar 6) (sCon (.int 0))) (sNil))))) (tgName 7)) (ssSeq (ssAsg (sBin opSub1 (sVar 4) (sVar 7)) (tgName 8)) (ssSeq (ssAsg (sLC [9, 11, 12] (siEnum (sVar 4)) (tgTup 2 (tgCons (tgName 11) (tgCons (tgName 12) (tgNil)))) (stYes) (E_greatest_5)) (tgName 4)) (ssSeq (ssAsg (sCall F_cleared (sCons (sVar 1) (sCons (sVar 8) (sCons (sBin opSub1 (sVar 6) (sCon (.int 0))) (sNil))))) (tgName 1)) (ssAsg (sBin opAdd (sBin opAdd (sSlice (sVar 5) (sPartN) (sPart (sVar 7))) (sLst (sCons (sBin opSub1 (sVar 6) (sCon (.int 0))) (sNil)))) (sSlice (sVar 5) (sPart (sBin opAdd (sVar 7) (sCon (.int 1)))) (sPartN))) (tgName 5)))))))
noncomputable def G_greatest : SS := ssSeq (ssAsg (sTup (sCons (sBi biLen (sCons (sVar 1) (sNil))) (sCons (sCall F_table_of (sCons (sVar 0) (sNil))) (sNil)))) (tgTup 2 (tgCons (tgName 3) (tgCons (tgName 4) (tgNil))))) (ssSeq (ssAsg (sLC [9, 10] (siRange1 (sBi biLen (sCons (sVar 4) (sNil)))) (tgName 10) (stYes) (E_greatest_1)) (tgName 5)) (ssSeq (ssAsg (sBin opAdd (sVar 1) (sBin opMul (sLst (sCons (sCon (.int 0)) (sNil))) (sBin opAdd (sBi biLen (sCons (sVar 4) (sNil))) (sCon (.int 1))))) (tgName 1)) (ssWhile Q_greatest_2 B_greatest_6)))
noncomputable def F_greatest : Fn := ⟨3, runF N_greatest G_greatest⟩
/-! solution -/
def N_solution : List Str := ["rows", "many", "lines", "found", "below", ".0", "line", "strict", "factor", "number"]
def P_solution : List Str := ["rows", "many"]
noncomputable def E_solution_1 : SE := sNeg (sVar 8)
noncomputable def E_solution_2 : SE := sTup (sCons (sBin opAdd (sLC [5, 8] (siSeq (sVar 6)) (tgName 8) (stYes) (E_solution_1)) (sLst (sCons (sIf (sVar 7) (sCon (.int 1)) (sCon (.int 0))) (sNil)))) (sCons (sCon (.int 0)) (sNil)))
noncomputable def E_solution_3 : SE := sCall F_lowest (sCons (sVar 9) (sCons (sBin opSub1 (sVar 3) (sVar 1)) (sNil)))
noncomputable def G_solution : SS := ssSeq (ssAsg (sLC [5, 6, 7] (siSeq (sVar 0)) (tgTup 2 (tgCons (tgName 6) (tgCons (tgName 7) (tgNil)))) (stYes) (E_solution_2)) (tgName 2)) (ssSeq (ssAsg (sBin opAdd (sVar 2) (sLst (sCons (sTup (sCons (sBin opAdd (sBin opMul (sLst (sCons (sCon (.int 0)) (sNil))) (sVar 1)) (sLst (sCons (sNeg (sCon (.int 1))) (sCons (sCon (.int 1)) (sNil))))) (sCons (sCon (.int 0)) (sNil)))) (sCons (sTup (sCons (sBin opAdd (sBin opMul (sLst (sCons (sCon (.int 1)) (sNil))) (sBin opAdd (sVar 1) (sCon (.int 1)))) (sLst (sCons (sCon (.int 0)) (sNil)))) (sCons (sCon (.int 1)) (sNil)))) (sNil))))) (tgName 2)) (ssSeq (ssAsg (sCall F_greatest (sCons (sVar 2) (sCons (sBin opAdd (sBin opMul (sLst (sCons (sCon (.int 0)) (sNil))) (sBin opAdd (sVar 1) (sCon (.int 1)))) (sLst (sCons (sCon (.int 1)) (sNil)))) (sCons (sBin opAdd (sVar 1) (sCon (.int 1))) (sNil))))) (tgTup 2 (tgCons (tgName 3) (tgCons (tgName 4) (tgNil))))) (ssSeq (ssIf (sTruth (sBin (cmpR cmpEq) (sBin opSub1 (sVar 3) (sBin opAdd (sVar 1) (sCon (.int 1)))) (sCon (.int 0)))) (ssRet (sCon .non)) (ssNil)) (ssRet (sLC [5, 9] (siSeq (sSlice (sVar 3) (sPartN) (sPart (sVar 1)))) (tgName 9) (stYes) (E_solution_3))))))
noncomputable def F_solution : Fn := ⟨2, runF N_solution G_solution⟩
/-! can_hold -/
def N_can_hold : List Str := ["rows", "many"]
def P_can_hold : List Str := ["rows", "many"]
noncomputable def G_can_hold : SS := ssRet (sBin (cmpR cmpIsNot) (sCall F_solution (sCons (sVar 0) (sCons (sVar 1) (sNil)))) (sCon .non))
noncomputable def F_can_hold : Fn := ⟨2, runF N_can_hold G_can_hold⟩
/-! is_number -/
def N_is_number : List Str := ["value", "least", "most"]
def P_is_number : List Str := ["value", "least", "most"]
noncomputable def G_is_number : SS := ssRet (sAnd (sIsi "int" (sVar 0)) (sAnd (sNot (sIsi "bool" (sVar 0))) (sChain cmpLe cmpLe (sVar 1) (sVar 0) (sVar 2))))
noncomputable def F_is_number : Fn := ⟨3, runF N_is_number G_is_number⟩
/-! is_among -/
def N_is_among : List Str := ["words", "value"]
def P_is_among : List Str := ["words", "value"]
noncomputable def G_is_among : SS := ssRet (sAnd (sIsi "str" (sVar 1)) (sBin (cmpR cmpIn) (sVar 1) (sVar 0)))
noncomputable def F_is_among : Fn := ⟨2, runF N_is_among G_is_among⟩
/-! is_tuple -/
def N_is_tuple : List Str := ["value", "least", "most"]
def P_is_tuple : List Str := ["value", "least", "most"]
noncomputable def G_is_tuple : SS := ssRet (sAnd (sIsi "tuple" (sVar 0)) (sChain cmpLe cmpLe (sVar 1) (sBi biLen (sCons (sVar 0) (sNil))) (sVar 2)))
noncomputable def F_is_tuple : Fn := ⟨3, runF N_is_tuple G_is_tuple⟩
/-! is_fraction -/
def N_is_fraction : List Str := ["value", ".0", "part"]
def P_is_fraction : List Str := ["value"]
noncomputable def E_is_fraction_1 : SE := sAnd (sIsi "int" (sVar 2)) (sNot (sIsi "bool" (sVar 2)))
noncomputable def G_is_fraction : SS := ssSeq (ssIf (sTruth (sOr (sNot (sCall F_is_tuple (sCons (sVar 0) (sCons (sCon (.int 2)) (sCons (sCon (.int 2)) (sNil)))))) (sNot (sBi biAll (sCons (sLC [1, 2] (siSeq (sVar 0)) (tgName 2) (stYes) (E_is_fraction_1)) (sNil)))))) (ssRet (sCon (.bl false))) (ssNil)) (ssRet (sAnd (sBin (cmpR cmpGt) (sBin opSub1 (sVar 0) (sCon (.int 1))) (sCon (.int 0))) (sBin (cmpR cmpEq) (sCall F_divisor (sCons (sVar 0) (sNil))) (sCon (.int 1)))))
noncomputable def F_is_fraction : Fn := ⟨1, runF N_is_fraction G_is_fraction⟩
/-! is_order -/
def N_is_order : List Str := ["value", "many", ".0", "part", "at"]
def P_is_order : List Str := ["value", "many"]
noncomputable def E_is_order_1 : SE := sCall F_is_number (sCons (sVar 3) (sCons (sCon (.int 0)) (sCons (sBin opSub (sVar 1) (sCon (.int 1))) (sNil))))
noncomputable def E_is_order_2 : SE := sBin (cmpR cmpIn) (sVar 4) (sVar 0)
noncomputable def G_is_order : SS := ssSeq (ssIf (sTruth (sOr (sNot (sCall F_is_tuple (sCons (sVar 0) (sCons (sVar 1) (sCons (sVar 1) (sNil)))))) (sNot (sBi biAll (sCons (sLC [2, 3] (siSeq (sVar 0)) (tgName 3) (stYes) (E_is_order_1)) (sNil)))))) (ssRet (sCon (.bl false))) (ssNil)) (ssRet (sBi biAll (sCons (sLC [2, 4] (siRange1 (sVar 1)) (tgName 4) (stYes) (E_is_order_2)) (sNil))))
noncomputable def F_is_order : Fn := ⟨2, runF N_is_order G_is_order⟩
/-! are_factors -/
def N_are_factors : List Str := ["value", "many", ".0", "part"]
def P_are_factors : List Str := ["value", "many"]
noncomputable def E_are_factors_1 : SE := sCall F_is_number (sCons (sVar 3) (sCons (sNeg (sCon (.int 2))) (sCons (sCon (.int 2)) (sNil))))
noncomputable def G_are_factors : SS := ssRet (sAnd (sCall F_is_tuple (sCons (sVar 0) (sCons (sVar 1) (sCons (sVar 1) (sNil))))) (sAnd (sBi biAll (sCons (sLC [2, 3] (siSeq (sVar 0)) (tgName 3) (stYes) (E_are_factors_1)) (sNil))) (sBin (cmpR cmpNe) (sVar 0) (sBin opMul (sTup (sCons (sCon (.int 0)) (sNil))) (sVar 1)))))
noncomputable def F_are_factors : Fn := ⟨2, runF N_are_factors G_are_factors⟩
/-! is_slider -/
def N_is_slider : List Str := ["value", ".0", "part"]
def P_is_slider : List Str := ["value"]
noncomputable def E_is_slider_1 : SE := sCall F_is_number (sCons (sVar 2) (sCons (sCon (.int 0)) (sCons (sCon (.int 20)) (sNil))))
noncomputable def G_is_slider : SS := ssRet (sAnd (sCall F_is_tuple (sCons (sVar 0) (sCons (sCon (.int 2)) (sCons (sCon (.int 2)) (sNil))))) (sAnd (sBi biAll (sCons (sLC [1, 2] (siSeq (sVar 0)) (tgName 2) (stYes) (E_is_slider_1)) (sNil))) (sBin (cmpR cmpLe) (sBin opSub1 (sVar 0) (sCon (.int 0))) (sBin opSub1 (sVar 0) (sCon (.int 1))))))
noncomputable def F_is_slider : Fn := ⟨1, runF N_is_slider G_is_slider⟩
/-! is_rule -/
def N_is_rule : List Str := ["value", "many"]
def P_is_rule : List Str := ["value", "many"]
noncomputable def G_is_rule : SS := ssSeq (ssIf (sTruth (sOr (sNot (sCall F_is_tuple (sCons (sVar 0) (sCons (sCon (.int 3)) (sCons (sCon (.int 3)) (sNil)))))) (sNot (sCall F_are_factors (sCons (sBin opSub1 (sVar 0) (sCon (.int 0))) (sCons (sVar 1) (sNil))))))) (ssRet (sCon (.bl false))) (ssNil)) (ssRet (sAnd (sCall F_is_among (sCons (sTup (sCons (sCon (.str ("most" : PySem.Str))) (sCons (sCon (.str ("same" : PySem.Str))) (sNil)))) (sCons (sBin opSub1 (sVar 0) (sCon (.int 1))) (sNil)))) (sCall F_is_number (sCons (sBin opSub1 (sVar 0) (sCon (.int 2))) (sCons (sNeg (sCon (.int 40))) (sCons (sCon (.int 40)) (sNil)))))))
noncomputable def F_is_rule : Fn := ⟨2, runF N_is_rule G_is_rule⟩
/-! is_cell -/
def N_is_cell : List Str := ["value", "many", "number", ".0", "handle"]
def P_is_cell : List Str := ["value", "many", "number"]
noncomputable def E_is_cell_1 : SE := sCall F_is_number (sCons (sVar 4) (sCons (sCon (.int 0)) (sCons (sBin opSub (sVar 2) (sCon (.int 1))) (sNil))))
noncomputable def G_is_cell : SS := ssSeq (ssIf (sTruth (sOr (sNot (sCall F_is_tuple (sCons (sVar 0) (sCons (sCon (.int 2)) (sCons (sCon (.int 3)) (sNil)))))) (sNot (sIsi "str" (sBin opSub1 (sVar 0) (sCon (.int 0))))))) (ssRet (sCon (.bl false))) (ssNil)) (ssSeq (ssIf (sTruth (sBin (cmpR cmpEq) (sBin opSub1 (sVar 0) (sCon (.int 0))) (sCon (.str ("sum" : PySem.Str))))) (ssRet (sAnd (sBin (cmpR cmpEq) (sBi biLen (sCons (sVar 0) (sNil))) (sCon (.int 2))) (sCall F_are_factors (sCons (sBin opSub1 (sVar 0) (sCon (.int 1))) (sCons (sVar 1) (sNil)))))) (ssNil)) (ssSeq (ssIf (sTruth (sOr (sBin (cmpR cmpNotIn) (sBin opSub1 (sVar 0) (sCon (.int 0))) (sTup (sCons (sCon (.str ("least" : PySem.Str))) (sCons (sCon (.str ("most" : PySem.Str))) (sNil))))) (sBin (cmpR cmpNe) (sBi biLen (sCons (sVar 0) (sNil))) (sCon (.int 3))))) (ssRet (sCon (.bl false))) (ssNil)) (ssRet (sBi biAll (sCons (sLC [3, 4] (siSeq (sSlice (sVar 0) (sPart (sCon (.int 1))) (sPartN))) (tgName 4) (stYes) (E_is_cell_1)) (sNil))))))
noncomputable def F_is_cell : Fn := ⟨3, runF N_is_cell G_is_cell⟩
/-! is_shaped -/
def N_is_shaped : List Str := ["value", "sliders", "rules", "cells", "keeps", "many", ".0", "one", "rule", "at", "cell"]
def P_is_shaped : List Str := ["value"]
noncomputable def E_is_shaped_1 : SE := sCall F_is_slider (sCons (sVar 7) (sNil))
noncomputable def E_is_shaped_2 : SE := sCall F_is_rule (sCons (sVar 8) (sCons (sVar 5) (sNil)))
noncomputable def E_is_shaped_3 : SE := sCall F_is_cell (sCons (sVar 10) (sCons (sVar 5) (sCons (sBin opAdd (sVar 5) (sVar 9)) (sNil))))
noncomputable def G_is_shaped : SS := ssSeq (ssIf (sTruth (sOr (sNot (sCall F_is_tuple (sCons (sVar 0) (sCons (sCon (.int 4)) (sCons (sCon (.int 4)) (sNil)))))) (sOr (sNot (sCall F_is_tuple (sCons (sBin opSub1 (sVar 0) (sCon (.int 0))) (sCons (sCon (.int 2)) (sCons (sCon (.int 3)) (sNil)))))) (sNot (sBi biAll (sCons (sLC [6, 7] (siSeq (sBin opSub1 (sVar 0) (sCon (.int 0)))) (tgName 7) (stYes) (E_is_shaped_1)) (sNil))))))) (ssRet (sCon (.bl false))) (ssNil)) (ssSeq (ssAsg (sVar 0) (tgTup 4 (tgCons (tgName 1) (tgCons (tgName 2) (tgCons (tgName 3) (tgCons (tgName 4) (tgNil))))))) (ssSeq (ssAsg (sBi biLen (sCons (sVar 1) (sNil))) (tgName 5)) (ssSeq (ssIf (sTruth (sOr (sNot (sCall F_is_tuple (sCons (sVar 2) (sCons (sCon (.int 0)) (sCons (sCon (.int 3)) (sNil)))))) (sNot (sBi biAll (sCons (sLC [6, 8] (siSeq (sVar 2)) (tgName 8) (stYes) (E_is_shaped_2)) (sNil)))))) (ssRet (sCon (.bl false))) (ssNil)) (ssSeq (ssIf (sTruth (sOr (sNot (sCall F_is_tuple (sCons (sVar 3) (sCons (sCon (.int 0)) (sCons (sCon (.int 2)) (sNil)))))) (sNot (sCall F_is_order (sCons (sVar 4) (sCons (sVar 5) (sNil))))))) (ssRet (sCon (.bl false))) (ssNil)) (ssRet (sBi biAll (sCons (sLC [6, 9, 10] (siEnum (sVar 3)) (tgTup 2 (tgCons (tgName 9) (tgCons (tgName 10) (tgNil)))) (stYes) (E_is_shaped_3)) (sNil))))))))
noncomputable def F_is_shaped : Fn := ⟨1, runF N_is_shaped G_is_shaped⟩
/-! rule_rows -/
def N_rule_rows : List Str := ["rule", "first", "many", "factors", "word", "bound", "line", "rows", ".0", "number"]
def P_rule_rows : List Str := ["rule", "first", "many"]
noncomputable def E_rule_rows_1 : SE := sNeg (sVar 9)
noncomputable def G_rule_rows : SS := ssSeq (ssAsg (sVar 0) (tgTup 3 (tgCons (tgName 3) (tgCons (tgName 4) (tgCons (tgName 5) (tgNil)))))) (ssSeq (ssAsg (sBin opAdd (sBin opAdd (sBin opAdd (sBin opMul (sLst (sCons (sCon (.int 0)) (sNil))) (sVar 1)) (sBi biList (sCons (sVar 3) (sNil)))) (sBin opMul (sLst (sCons (sCon (.int 0)) (sNil))) (sBin opSub (sBin opSub (sVar 2) (sVar 1)) (sBi biLen (sCons (sVar 3) (sNil)))))) (sLst (sCons (sNeg (sVar 5)) (sNil)))) (tgName 6)) (ssSeq (ssAsg (sLst (sCons (sTup (sCons (sBi biTuple (sCons (sLC [8, 9] (siSeq (sVar 6)) (tgName 9) (stYes) (E_rule_rows_1)) (sNil))) (sCons (sCon (.bl false)) (sNil)))) (sNil))) (tgName 7)) (ssRet (sIf (sBin (cmpR cmpEq) (sVar 4) (sCon (.str ("same" : PySem.Str)))) (sBin opAdd (sVar 7) (sLst (sCons (sTup (sCons (sBi biTuple (sCons (sVar 6) (sNil))) (sCons (sCon (.bl false)) (sNil)))) (sNil)))) (sVar 7)))))
noncomputable def F_rule_rows : Fn := ⟨3, runF N_rule_rows G_rule_rows⟩
/-! slider_rules -/
def N_slider_rules : List Str := ["panel", "found", "many", "at", "pair", "factors", ".0", "place", "factor"]
def P_slider_rules : List Str := ["panel"]
noncomputable def E_slider_rules_1 : SE := sIf (sBin (cmpR cmpEq) (sVar 7) (sVar 3)) (sCon (.int 1)) (sCon (.int 0))
noncomputable def E_slider_rules_2 : SE := sNeg (sVar 8)
noncomputable def B_slider_rules_3 : SS := ssSeq (ssAsg (sBi biTuple (sCons (sLC [6, 7] (siRange1 (sVar 2)) (tgName 7) (stYes) (E_slider_rules_1)) (sNil))) (tgName 5)) (ssAsg (sBin opAdd (sVar 1) (sLst (sCons (sTup (sCons (sBi biTuple (sCons (sLC [6, 8] (siSeq (sVar 5)) (tgName 8) (stYes) (E_slider_rules_2)) (sNil))) (sCons (sCon (.str ("most" : PySem.Str))) (sCons (sNeg (sBin opSub1 (sVar 4) (sCon (.int 0)))) (sNil))))) (sCons (sTup (sCons (sVar 5) (sCons (sCon (.str ("most" : PySem.Str))) (sCons (sBin opSub1 (sVar 4) (sCon (.int 1))) (sNil))))) (sNil))))) (tgName 1))
noncomputable def G_slider_rules : SS := ssSeq (ssPar 1 2 (sCons (sLst (sNil)) (sCons (sBi biLen (sCons (sBin opSub1 (sVar 0) (sCon (.int 0))) (sNil))) (sNil)))) (ssSeq (ssFor (siEnum (sBin opSub1 (sVar 0) (sCon (.int 0)))) (tgTup 2 (tgCons (tgName 3) (tgCons (tgName 4) (tgNil)))) B_slider_rules_3) (ssRet (sVar 1)))
noncomputable def F_slider_rules : Fn := ⟨1, runF N_slider_rules G_slider_rules⟩
/-! all_rules -/
def N_all_rules : List Str := ["panel"]
def P_all_rules : List Str := ["panel"]
noncomputable def G_all_rules : SS := ssRet (sBin opAdd (sCall F_slider_rules (sCons (sVar 0) (sNil))) (sBi biList (sCons (sBin opSub1 (sVar 0) (sCon (.int 1))) (sNil))))
noncomputable def F_all_rules : Fn := ⟨1, runF N_all_rules G_all_rules⟩
/-! panel_rows -/
def N_panel_rows : List Str := ["panel", "first", "many", "found", "rule"]
def P_panel_rows : List Str := ["panel", "first", "many"]
noncomputable def B_panel_rows_1 : SS := ssAsg (sBin opAdd (sVar 3) (sCall F_rule_rows (sCons (sVar 4) (sCons (sVar 1) (sCons (sVar 2) (sNil)))))) (tgName 3)
noncomputable def G_panel_rows : SS := ssSeq (ssAsg (sLst (sNil)) (tgName 3)) (ssSeq (ssFor (siSeq (sCall F_all_rules (sCons (sVar 0) (sNil)))) (tgName 4) B_panel_rows_1) (ssRet (sVar 3)))
noncomputable def F_panel_rows : Fn := ⟨3, runF N_panel_rows G_panel_rows⟩
/-! is_good -/
def N_is_good : List Str := ["value"]
def P_is_good : List Str := ["value"]
noncomputable def G_is_good : SS := ssRet (sAnd (sCall F_is_shaped (sCons (sVar 0) (sNil))) (sCall F_can_hold (sCons (sCall F_panel_rows (sCons (sVar 0) (sCons (sCon (.int 0)) (sCons (sBi biLen (sCons (sBin opSub1 (sVar 0) (sCon (.int 0))) (sNil))) (sNil))))) (sCons (sBi biLen (sCons (sBin opSub1 (sVar 0) (sCon (.int 0))) (sNil))) (sNil)))))
noncomputable def F_is_good : Fn := ⟨1, runF N_is_good G_is_good⟩
/-! sum_of -/
def N_sum_of : List Str := ["factors", "positions", "found", "factor", "position"]
def P_sum_of : List Str := ["factors", "positions"]
noncomputable def B_sum_of_1 : SS := ssAsg (sCall F_plus (sCons (sVar 2) (sCons (sVar 4) (sCons (sVar 3) (sNil))))) (tgName 2)
noncomputable def G_sum_of : SS := ssSeq (ssAsg (sTup (sCons (sCon (.int 0)) (sCons (sCon (.int 1)) (sNil)))) (tgName 2)) (ssSeq (ssFor (siZip (sVar 0) (sVar 1)) (tgTup 2 (tgCons (tgName 3) (tgCons (tgName 4) (tgNil)))) B_sum_of_1) (ssRet (sVar 2)))
noncomputable def F_sum_of : Fn := ⟨2, runF N_sum_of G_sum_of⟩
/-! keeps_rule -/
def N_keeps_rule : List Str := ["rule", "positions", "factors", "word", "bound", "found"]
def P_keeps_rule : List Str := ["rule", "positions"]
noncomputable def G_keeps_rule : SS := ssSeq (ssAsg (sVar 0) (tgTup 3 (tgCons (tgName 2) (tgCons (tgName 3) (tgCons (tgName 4) (tgNil)))))) (ssSeq (ssAsg (sCall F_sum_of (sCons (sVar 2) (sCons (sVar 1) (sNil)))) (tgName 5)) (ssRet (sOr (sBin (cmpR cmpEq) (sVar 5) (sTup (sCons (sVar 4) (sCons (sCon (.int 1)) (sNil))))) (sAnd (sBin (cmpR cmpEq) (sVar 3) (sCon (.str ("most" : PySem.Str)))) (sCall F_is_less (sCons (sVar 5) (sCons (sTup (sCons (sVar 4) (sCons (sCon (.int 1)) (sNil)))) (sNil))))))))
noncomputable def F_keeps_rule : Fn := ⟨2, runF N_keeps_rule G_keeps_rule⟩
/-! are_good_positions -/
def N_are_good_positions : List Str := ["panel", "value", ".0", "part", "rule"]
def P_are_good_positions : List Str := ["panel", "value"]
noncomputable def E_are_good_positions_1 : SE := sCall F_is_fraction (sCons (sVar 3) (sNil))
noncomputable def E_are_good_positions_2 : SE := sCall F_keeps_rule (sCons (sVar 4) (sCons (sVar 1) (sNil)))
noncomputable def G_are_good_positions : SS := ssSeq (ssIf (sTruth (sOr (sNot (sCall F_is_tuple (sCons (sVar 1) (sCons (sBi biLen (sCons (sBin opSub1 (sVar 0) (sCon (.int 0))) (sNil))) (sCons (sBi biLen (sCons (sBin opSub1 (sVar 0) (sCon (.int 0))) (sNil))) (sNil)))))) (sNot (sBi biAll (sCons (sLC [2, 3] (siSeq (sVar 1)) (tgName 3) (stYes) (E_are_good_positions_1)) (sNil)))))) (ssRet (sCon (.bl false))) (ssNil)) (ssRet (sBi biAll (sCons (sLC [2, 4] (siSeq (sCall F_all_rules (sCons (sVar 0) (sNil)))) (tgName 4) (stYes) (E_are_good_positions_2)) (sNil))))
noncomputable def F_are_good_positions : Fn := ⟨2, runF N_are_good_positions G_are_good_positions⟩
/-! need_panel -/
def N_need_panel : List Str := ["value"]
def P_need_panel : List Str := ["value"]
noncomputable def G_need_panel : SS := ssIf (sTruth (sNot (sCall F_is_good (sCons (sVar 0) (sNil))))) (ssRaise ("InvalidPanel" : PySem.Str)) (ssNil)
noncomputable def F_need_panel : Fn := ⟨1, runF N_need_panel G_need_panel⟩
/-! need_panels -/
def N_need_panels : List Str := ["one", "other"]
def P_need_panels : List Str := ["one", "other"]
noncomputable def G_need_panels : SS := ssSeq (ssExpr (sCall F_need_panel (sCons (sVar 0) (sNil)))) (ssSeq (ssExpr (sCall F_need_panel (sCons (sVar 1) (sNil)))) (ssIf (sTruth (sBin (cmpR cmpNe) (sBi biLen (sCons (sBin opSub1 (sVar 0) (sCon (.int 0))) (sNil))) (sBi biLen (sCons (sBin opSub1 (sVar 1) (sCon (.int 0))) (sNil))))) (ssRaise ("Unlike" : PySem.Str)) (ssNil)))
noncomputable def F_need_panels : Fn := ⟨2, runF N_need_panels G_need_panels⟩
/-! is_positions -/
def N_is_positions : List Str := ["panel", "value"]
def P_is_positions : List Str := ["panel", "value"]
noncomputable def G_is_positions : SS := ssSeq (ssExpr (sCall F_need_panel (sCons (sVar 0) (sNil)))) (ssRet (sCall F_are_good_positions (sCons (sVar 0) (sCons (sVar 1) (sNil)))))
noncomputable def F_is_positions : Fn := ⟨2, runF N_is_positions G_is_positions⟩
/-! fits -/
def N_fits : List Str := ["rows", "many", ".0", "line", "strict"]
def P_fits : List Str := ["rows", "many"]
noncomputable def E_fits_1 : SE := sOr (sBin (cmpR cmpGt) (sBin opSub1 (sVar 3) (sCon (.int 0))) (sCon (.int 0))) (sAnd (sBin (cmpR cmpEq) (sBin opSub1 (sVar 3) (sCon (.int 0))) (sCon (.int 0))) (sNot (sVar 4)))
noncomputable def G_fits : SS := ssSeq (ssIf (sTruth (sBin (cmpR cmpGt) (sVar 1) (sCon (.int 0)))) (ssRet (sCall F_can_hold (sCons (sVar 0) (sCons (sVar 1) (sNil))))) (ssNil)) (ssRet (sBi biAll (sCons (sLC [2, 3, 4] (siSeq (sVar 0)) (tgTup 2 (tgCons (tgName 3) (tgCons (tgName 4) (tgNil)))) (stYes) (E_fits_1)) (sNil))))
noncomputable def F_fits : Fn := ⟨2, runF N_fits G_fits⟩
/-! witness -/
def N_witness : List Str := ["rows", "many"]
def P_witness : List Str := ["rows", "many"]
noncomputable def G_witness : SS := ssRet (sBi biTuple (sCons (sCall F_solution (sCons (sVar 0) (sCons (sVar 1) (sNil)))) (sNil)))
noncomputable def F_witness : Fn := ⟨2, runF N_witness G_witness⟩
/-! broken_rows -/
def N_broken_rows : List Str := ["rows", "rule", "many", "line", "strict", "more", ".0", "number"]
def P_broken_rows : List Str := ["rows", "rule", "many"]
noncomputable def E_broken_rows_1 : SE := sNeg (sVar 7)
noncomputable def B_broken_rows_2 : SS := ssSeq (ssAsg (sBin opAdd (sVar 0) (sLst (sCons (sTup (sCons (sBi biTuple (sCons (sLC [6, 7] (siSeq (sVar 3)) (tgName 7) (stYes) (E_broken_rows_1)) (sNil))) (sCons (sCon (.bl true)) (sNil)))) (sNil)))) (tgName 5)) (ssIf (sTruth (sCall F_fits (sCons (sVar 5) (sCons (sVar 2) (sNil))))) (ssRet (sVar 5)) (ssNil))
noncomputable def G_broken_rows : SS := ssSeq (ssFor (siSeq (sCall F_rule_rows (sCons (sVar 1) (sCons (sCon (.int 0)) (sCons (sVar 2) (sNil)))))) (tgTup 2 (tgCons (tgName 3) (tgCons (tgName 4) (tgNil)))) B_broken_rows_2) (ssRet (sCon .non))
noncomputable def F_broken_rows : Fn := ⟨3, runF N_broken_rows G_broken_rows⟩
/-! outside_rows -/
def N_outside_rows : List Str := ["one", "other", "many", "rows", "rule", "found"]
def P_outside_rows : List Str := ["one", "other"]
noncomputable def B_outside_rows_1 : SS := ssSeq (ssAsg (sCall F_broken_rows (sCons (sVar 3) (sCons (sVar 4) (sCons (sVar 2) (sNil))))) (tgName 5)) (ssIf (sTruth (sBin (cmpR cmpIsNot) (sVar 5) (sCon .non))) (ssRet (sVar 5)) (ssNil))
noncomputable def G_outside_rows : SS := ssSeq (ssAsg (sBi biLen (sCons (sBin opSub1 (sVar 0) (sCon (.int 0))) (sNil))) (tgName 2)) (ssSeq (ssAsg (sCall F_panel_rows (sCons (sVar 0) (sCons (sCon (.int 0)) (sCons (sVar 2) (sNil))))) (tgName 3)) (ssSeq (ssFor (siSeq (sCall F_all_rules (sCons (sVar 1) (sNil)))) (tgName 4) B_outside_rows_1) (ssRet (sCon .non))))
noncomputable def F_outside_rows : Fn := ⟨2, runF N_outside_rows G_outside_rows⟩
/-! is_within -/
def N_is_within : List Str := ["one", "other"]
def P_is_within : List Str := ["one", "other"]
noncomputable def G_is_within : SS := ssRet (sBin (cmpR cmpIs) (sCall F_outside_rows (sCons (sVar 0) (sCons (sVar 1) (sNil)))) (sCon .non))
noncomputable def F_is_within : Fn := ⟨2, runF N_is_within G_is_within⟩
/-! within -/
def N_within : List Str := ["one", "other"]
def P_within : List Str := ["one", "other"]
noncomputable def G_within : SS := ssSeq (ssExpr (sCall F_need_panels (sCons (sVar 0) (sCons (sVar 1) (sNil))))) (ssRet (sCall F_is_within (sCons (sVar 0) (sCons (sVar 1) (sNil)))))
noncomputable def F_within : Fn := ⟨2, runF N_within G_within⟩
/-! outside -/
def N_outside : List Str := ["one", "other", "rows"]
def P_outside : List Str := ["one", "other"]
noncomputable def G_outside : SS := ssSeq (ssExpr (sCall F_need_panels (sCons (sVar 0) (sCons (sVar 1) (sNil))))) (ssSeq (ssAsg (sCall F_outside_rows (sCons (sVar 0) (sCons (sVar 1) (sNil)))) (tgName 2)) (ssRet (sIf (sBin (cmpR cmpIs) (sVar 2) (sCon .non)) (sCon .non) (sCall F_witness (sCons (sVar 2) (sCons (sBi biLen (sCons (sBin opSub1 (sVar 0) (sCon (.int 0))) (sNil))) (sNil)))))))
noncomputable def F_outside : Fn := ⟨2, runF N_outside G_outside⟩
/-! _law_source -/
def N__law_source : List Str := ["_law_script", "_law_k", "_law_cell"]
def P__law_source : List Str := ["_law_script", "_law_k"]
noncomputable def G__law_source : SS := ssSeq (ssAsg (sCon (.int 0)) (tgName 2)) (ssSeq (ssIf (sTruth (sBin (cmpR cmpLt) (sVar 1) (sBi biLen (sCons (sVar 0) (sNil))))) (ssAsg (sBi biAbs (sCons (sBi biInt (sCons (sBin opSub1 (sVar 0) (sVar 1)) (sNil))) (sNil))) (tgName 2)) (ssNil)) (ssSeq (ssIf (sTruth (sBin (cmpR cmpLt) (sVar 2) (sBin opPow (sCon (.int 10)) (sCon (.int 18))))) (ssRet (sRef (sCons (sCon (.int 0)) (sCons (sBin opAdd (sCon (.int 1)) (sBin opMod (sBi biInt (sCons (sBin opAdd (sBin opMul (sVar 2) (sCon (.int 7919))) (sBin opMul (sCon (.int 104729)) (sVar 1))) (sNil))) (sCon (.int 2147483646)))) (sNil))))) (ssNil)) (ssRet (sRef (sCons (sVar 2) (sCons (sBin opAdd (sCon (.int 1)) (sBin opMod (sBi biInt (sCons (sBin opAdd (sVar 2) (sVar 1)) (sNil))) (sCon (.int 2147483646)))) (sNil)))))))
noncomputable def F__law_source : Fn := ⟨2, runM N__law_source G__law_source⟩
/-! _law_draw -/
def N__law_draw : List Str := ["_law_source_here", "_law_many", "_law_found"]
def P__law_draw : List Str := ["_law_source_here", "_law_many"]
noncomputable def G__law_draw : SS := ssSeq (ssIf (sTruth (sBin (cmpR cmpGt) (sBin opSub1 (sVar 0) (sCon (.int 0))) (sCon (.int 0)))) (ssSeq (ssAsg (sBin opMod (sBi biInt (sCons (sBin opSub1 (sVar 0) (sCon (.int 0))) (sNil))) (sVar 1)) (tgName 2)) (ssSeq (ssStore (sBin opDiv (sBin opSub1 (sVar 0) (sCon (.int 0))) (sVar 1)) (sVar 0) (sCon (.int 0))) (ssRet (sVar 2)))) (ssNil)) (ssSeq (ssStore (sBin opMod (sBi biInt (sCons (sBin opMul (sBin opSub1 (sVar 0) (sCon (.int 1))) (sCon (.int 48271))) (sNil))) (sCon (.int 2147483647))) (sVar 0) (sCon (.int 1))) (ssRet (sBin opMod (sBi biInt (sCons (sBin opDiv (sBin opMod (sBi biInt (sCons (sBin opMul (sBin opSub1 (sVar 0) (sCon (.int 1))) (sBin opSub1 (sVar 0) (sCon (.int 1)))) (sNil))) (sCon (.int 2147483629))) (sCon (.int 64))) (sNil))) (sVar 1))))
noncomputable def F__law_draw : Fn := ⟨2, runF N__law_draw G__law_draw⟩
/-! _law_of -/
def N__law_of : List Str := ["_law_source_here", "_law_items"]
def P__law_of : List Str := ["_law_source_here", "_law_items"]
noncomputable def G__law_of : SS := ssRet (sBin opSub1 (sVar 1) (sCall F__law_draw (sCons (sVar 0) (sCons (sBi biLen (sCons (sVar 1) (sNil))) (sNil)))))
noncomputable def F__law_of : Fn := ⟨2, runF N__law_of G__law_of⟩
/-! _law_factors -/
def N__law_factors : List Str := ["_law_source_here", "_law_many", "_law_found", ".0", "_law_turn"]
def P__law_factors : List Str := ["_law_source_here", "_law_many"]
noncomputable def E__law_factors_1 : SE := sCall F__law_of (sCons (sVar 0) (sCons (sLst (sCons (sCon (.int 0)) (sCons (sCon (.int 1)) (sCons (sCon (.int 1)) (sCons (sNeg (sCon (.int 1))) (sCons (sNeg (sCon (.int 1))) (sCons (sCon (.int 2)) (sNil)))))))) (sNil)))
noncomputable def G__law_factors : SS := ssSeq (ssAsg (sLC [3, 4] (siRange1 (sVar 1)) (tgName 4) (stYes) (E__law_factors_1)) (tgName 2)) (ssRet (sIf (sBin (cmpR cmpNe) (sVar 2) (sBin opMul (sLst (sCons (sCon (.int 0)) (sNil))) (sVar 1))) (sBi biTuple (sCons (sVar 2) (sNil))) (sBin opMul (sTup (sCons (sCon (.int 1)) (sNil))) (sVar 1))))
noncomputable def F__law_factors : Fn := ⟨2, runF N__law_factors G__law_factors⟩
/-! _law_panel -/
def N__law_panel : List Str := ["_law_source_here", "_law_many", "_law_most", "_law_turn", "_law_sliders", "_law_spot", "_law_held", "_law_shows", "_law_factors_here", "_law_word", "_law_bound", "_law_one", "_law_other", "_law_cell", "_law_stays", ".0", "_law_low", "_law_high", "_law_factor", "_law_place"]
def P__law_panel : List Str := ["_law_source_here", "_law_many", "_law_most"]
noncomputable def E__law_panel_1 : SE := sCall F__law_of (sCons (sVar 0) (sCons (sLst (sCons (sTup (sCons (sCon (.int 0)) (sCons (sCon (.int 10)) (sNil)))) (sCons (sTup (sCons (sCon (.int 0)) (sCons (sCon (.int 6)) (sNil)))) (sCons (sTup (sCons (sCon (.int 2)) (sCons (sCon (.int 9)) (sNil)))) (sCons (sTup (sCons (sCon (.int 0)) (sCons (sCon (.int 20)) (sNil)))) (sNil)))))) (sNil)))
noncomputable def E__law_panel_2 : SE := sBin opAdd (sVar 16) (sCall F__law_draw (sCons (sVar 0) (sCons (sBin opAdd (sBin opSub (sVar 17) (sVar 16)) (sCon (.int 1))) (sNil))))
noncomputable def E__law_panel_3 : SE := sBin opMul (sVar 18) (sVar 19)
noncomputable def B__law_panel_4 : SS := ssSeq (ssPar 8 9 (sCons (sCall F__law_factors (sCons (sVar 0) (sCons (sVar 1) (sNil)))) (sCons (sCall F__law_of (sCons (sVar 0) (sCons (sLst (sCons (sCon (.str ("most" : PySem.Str))) (sCons (sCon (.str ("most" : PySem.Str))) (sCons (sCon (.str ("same" : PySem.Str))) (sNil))))) (sNil)))) (sNil)))) (ssSeq (ssAsg (sBi biSum (sCons (sLC [15, 18, 19] (siZip (sVar 8) (sVar 5)) (tgTup 2 (tgCons (tgName 18) (tgCons (tgName 19) (tgNil)))) (stYes) (E__law_panel_3)) (sNil))) (tgName 10)) (ssSeq (ssAsg (sIf (sBin (cmpR cmpEq) (sVar 9) (sCon (.str ("same" : PySem.Str)))) (sVar 10) (sBin opAdd (sVar 10) (sCall F__law_draw (sCons (sVar 0) (sCons (sCon (.int 4)) (sNil)))))) (tgName 10)) (ssAsg (sBin opAdd (sVar 6) (sIf (sChain cmpLt cmpLt (sNeg (sCon (.int 41))) (sVar 10) (sCon (.int 41))) (sTup (sCons (sTup (sCons (sVar 8) (sCons (sVar 9) (sCons (sVar 10) (sNil))))) (sNil))) (sTup (sNil)))) (tgName 6))))
noncomputable def B__law_panel_5 : SS := ssSeq (ssPar 11 12 (sCons (sCall F__law_draw (sCons (sVar 0) (sCons (sBin opAdd (sVar 1) (sVar 3)) (sNil)))) (sCons (sCall F__law_draw (sCons (sVar 0) (sCons (sBin opAdd (sVar 1) (sVar 3)) (sNil)))) (sNil)))) (ssSeq (ssAsg (sTup (sCons (sCall F__law_of (sCons (sVar 0) (sCons (sLst (sCons (sCon (.str ("least" : PySem.Str))) (sCons (sCon (.str ("most" : PySem.Str))) (sNil)))) (sNil)))) (sCons (sVar 11) (sCons (sVar 12) (sNil))))) (tgName 13)) (ssAsg (sBin opAdd (sVar 7) (sTup (sCons (sCall F__law_of (sCons (sVar 0) (sCons (sLst (sCons (sTup (sCons (sCon (.str ("sum" : PySem.Str))) (sCons (sCall F__law_factors (sCons (sVar 0) (sCons (sVar 1) (sNil)))) (sNil)))) (sCons (sVar 13) (sNil)))) (sNil)))) (sNil)))) (tgName 7)))
noncomputable def B__law_panel_6 : SS := ssAsg (sBin opAddM (sLst (sCons (sMeth "list" opPop (sVar 14) (sCons (sCall F__law_draw (sCons (sVar 0) (sCons (sVar 1) (sNil)))) (sNil))) (sNil))) (sVar 14)) (tgName 14)
noncomputable def G__law_panel : SS := ssSeq (ssAsg (sBi biTuple (sCons (sLC [15, 3] (siRange1 (sVar 1)) (tgName 3) (stYes) (E__law_panel_1)) (sNil))) (tgName 4)) (ssSeq (ssAsg (sLC [15, 16, 17] (siSeq (sVar 4)) (tgTup 2 (tgCons (tgName 16) (tgCons (tgName 17) (tgNil)))) (stYes) (E__law_panel_2)) (tgName 5)) (ssSeq (ssAsg (sTup (sCons (sTup (sNil)) (sCons (sTup (sNil)) (sNil)))) (tgTup 2 (tgCons (tgName 6) (tgCons (tgName 7) (tgNil))))) (ssSeq (ssFor (siRange1 (sCall F__law_draw (sCons (sVar 0) (sCons (sBin opAdd (sVar 2) (sCon (.int 1))) (sNil))))) (tgName 3) B__law_panel_4) (ssSeq (ssFor (siRange1 (sCall F__law_draw (sCons (sVar 0) (sCons (sCon (.int 3)) (sNil))))) (tgName 3) B__law_panel_5) (ssSeq (ssAsg (sListRg true (sVar 1)) (tgName 14)) (ssSeq (ssFor (siRange1 (sVar 1)) (tgName 3) B__law_panel_6) (ssRet (sTup (sCons (sVar 4) (sCons (sVar 6) (sCons (sVar 7) (sCons (sBi biTuple (sCons (sVar 14) (sNil))) (sNil)))))))))))))
noncomputable def F__law_panel : Fn := ⟨3, runF N__law_panel G__law_panel⟩
/-! _law_unit -/
def N__law_unit : List Str := ["_law_many", "_law_at", ".0", "_law_place"]
def P__law_unit : List Str := ["_law_many", "_law_at"]
noncomputable def E__law_unit_1 : SE := sIf (sBin (cmpR cmpEq) (sVar 3) (sVar 1)) (sCon (.int 1)) (sCon (.int 0))
noncomputable def G__law_unit : SS := ssRet (sLC [2, 3] (siRange1 (sVar 0)) (tgName 3) (stYes) (E__law_unit_1))
noncomputable def F__law_unit : Fn := ⟨2, runF N__law_unit G__law_unit⟩
/-! _law_sums -/
def N__law_sums : List Str := ["_law_panel_here", "_law_many", "_law_found", ".0", "_law_slider", "_law_cell"]
def P__law_sums : List Str := ["_law_panel_here"]
noncomputable def E__law_sums_1 : SE := sBi biTuple (sCons (sCall F__law_unit (sCons (sVar 1) (sCons (sVar 4) (sNil)))) (sNil))
noncomputable def E__law_sums_2 : SE := sIf (sBin (cmpR cmpEq) (sBin opSub1 (sVar 5) (sCon (.int 0))) (sCon (.str ("sum" : PySem.Str)))) (sBin opSub1 (sVar 5) (sCon (.int 1))) (sCon .non)
noncomputable def G__law_sums : SS := ssSeq (ssAsg (sBi biLen (sCons (sBin opSub1 (sVar 0) (sCon (.int 0))) (sNil))) (tgName 1)) (ssSeq (ssAsg (sLC [3, 4] (siRange1 (sVar 1)) (tgName 4) (stYes) (E__law_sums_1)) (tgName 2)) (ssRet (sBin opAdd (sVar 2) (sLC [3, 5] (siSeq (sBin opSub1 (sVar 0) (sCon (.int 2)))) (tgName 5) (stYes) (E__law_sums_2)))))
noncomputable def F__law_sums : Fn := ⟨1, runF N__law_sums G__law_sums⟩
/-! _law_tight -/
def N__law_tight : List Str := ["_law_factors_here", "_law_number", "_law_line", ".0", "_law_factor"]
def P__law_tight : List Str := ["_law_factors_here", "_law_number"]
noncomputable def E__law_tight_1 : SE := sBin opMul (sBin opSub1 (sVar 1) (sCon (.int 1))) (sVar 4)
noncomputable def E__law_tight_2 : SE := sNeg (sVar 4)
noncomputable def G__law_tight : SS := ssSeq (ssAsg (sLC [3, 4] (siSeq (sVar 0)) (tgName 4) (stYes) (E__law_tight_1)) (tgName 2)) (ssRet (sLst (sCons (sTup (sCons (sVar 2) (sCons (sBin opSub1 (sVar 1) (sCon (.int 0))) (sNil)))) (sCons (sTup (sCons (sLC [3, 4] (siSeq (sVar 2)) (tgName 4) (stYes) (E__law_tight_2)) (sCons (sNeg (sBin opSub1 (sVar 1) (sCon (.int 0)))) (sNil)))) (sNil)))))
noncomputable def F__law_tight : Fn := ⟨2, runF N__law_tight G__law_tight⟩
/-! _law_rows -/
def N__law_rows : List Str := ["_law_panel_here", "_law_found", "_law_sums_here", "_law_slider", "_law_pair", "_law_own", "_law_factors_here", "_law_word", "_law_bound", ".0", "_law_factor"]
def P__law_rows : List Str := ["_law_panel_here"]
noncomputable def E__law_rows_1 : SE := sNeg (sVar 10)
noncomputable def B__law_rows_2 : SS := ssSeq (ssAsg (sBi biList (sCons (sBin opSub1 (sVar 2) (sVar 3)) (sNil))) (tgName 5)) (ssAsg (sBin opAdd (sVar 1) (sLst (sCons (sTup (sCons (sVar 5) (sCons (sBin opSub1 (sVar 4) (sCon (.int 1))) (sNil)))) (sCons (sTup (sCons (sLC [9, 10] (siSeq (sVar 5)) (tgName 10) (stYes) (E__law_rows_1)) (sCons (sNeg (sBin opSub1 (sVar 4) (sCon (.int 0)))) (sNil)))) (sNil))))) (tgName 1))
noncomputable def B__law_rows_3 : SS := ssAsg (sBin opAdd (sVar 1) (sSlice (sCall F__law_tight (sCons (sVar 6) (sCons (sTup (sCons (sVar 8) (sCons (sCon (.int 1)) (sNil)))) (sNil)))) (sPartN) (sPart (sBin opAdd (sCon (.int 1)) (sBi biInt (sCons (sBin (cmpR cmpEq) (sVar 7) (sCon (.str ("same" : PySem.Str)))) (sNil))))))) (tgName 1)
noncomputable def G__law_rows : SS := ssSeq (ssPar 1 2 (sCons (sLst (sNil)) (sCons (sCall F__law_sums (sCons (sVar 0) (sNil))) (sNil)))) (ssSeq (ssFor (siEnum (sBin opSub1 (sVar 0) (sCon (.int 0)))) (tgTup 2 (tgCons (tgName 3) (tgCons (tgName 4) (tgNil)))) B__law_rows_2) (ssSeq (ssFor (siSeq (sBin opSub1 (sVar 0) (sCon (.int 1)))) (tgTup 3 (tgCons (tgName 6) (tgCons (tgName 7) (tgCons (tgName 8) (tgNil))))) B__law_rows_3) (ssRet (sVar 1))))
noncomputable def F__law_rows : Fn := ⟨1, runF N__law_rows G__law_rows⟩
/-! _law_two -/
def N__law_two : List Str := ["_law_one", "_law_other", "_law_below", "_law_left", "_law_right"]
def P__law_two : List Str := ["_law_one", "_law_other"]
noncomputable def G__law_two : SS := ssSeq (ssAsg (sBin opSub (sBin opMul (sBin opSub1 (sBin opSub1 (sVar 0) (sCon (.int 0))) (sCon (.int 0))) (sBin opSub1 (sBin opSub1 (sVar 1) (sCon (.int 0))) (sCon (.int 1)))) (sBin opMul (sBin opSub1 (sBin opSub1 (sVar 0) (sCon (.int 0))) (sCon (.int 1))) (sBin opSub1 (sBin opSub1 (sVar 1) (sCon (.int 0))) (sCon (.int 0))))) (tgName 2)) (ssSeq (ssAsg (sBin opSub (sBin opMul (sBin opSub1 (sVar 0) (sCon (.int 1))) (sBin opSub1 (sBin opSub1 (sVar 1) (sCon (.int 0))) (sCon (.int 1)))) (sBin opMul (sBin opSub1 (sBin opSub1 (sVar 0) (sCon (.int 0))) (sCon (.int 1))) (sBin opSub1 (sVar 1) (sCon (.int 1))))) (tgName 3)) (ssSeq (ssAsg (sBin opSub (sBin opMul (sBin opSub1 (sBin opSub1 (sVar 0) (sCon (.int 0))) (sCon (.int 0))) (sBin opSub1 (sVar 1) (sCon (.int 1)))) (sBin opMul (sBin opSub1 (sVar 0) (sCon (.int 1))) (sBin opSub1 (sBin opSub1 (sVar 1) (sCon (.int 0))) (sCon (.int 0))))) (tgName 4)) (ssSeq (ssIf (sTruth (sBin (cmpR cmpEq) (sVar 2) (sCon (.int 0)))) (ssRet (sCon .non)) (ssNil)) (ssRet (sIf (sBin (cmpR cmpGt) (sVar 2) (sCon (.int 0))) (sTup (sCons (sLst (sCons (sVar 3) (sCons (sVar 4) (sNil)))) (sCons (sVar 2) (sNil)))) (sTup (sCons (sLst (sCons (sNeg (sVar 3)) (sCons (sNeg (sVar 4)) (sNil)))) (sCons (sNeg (sVar 2)) (sNil)))))))))
noncomputable def F__law_two : Fn := ⟨2, runF N__law_two G__law_two⟩
/-! _law_three -/
def N__law_three : List Str := ["_law_one", "_law_other", "_law_last", "_law_some", "_law_at", "_law_first", "_law_second", "_law_third", "_law_own", "_law_flat", "_law_line", "_law_number", "_law_rest", "_law_point", "_law_left", "_law_right", "_law_below", "_law_top", "_law_sign", "_law_size", ".0"]
def P__law_three : List Str := ["_law_one", "_law_other", "_law_last"]
noncomputable def E__law_three_1 : SE := sBin opSub (sBin opMul (sVar 8) (sBin opSub1 (sVar 10) (sVar 4))) (sBin opMul (sBin opSub1 (sVar 10) (sCon (.int 2))) (sBin opSub1 (sBin opSub1 (sVar 5) (sCon (.int 0))) (sVar 4)))
noncomputable def B__law_three_2 : SS := ssSeq (ssAsg (sLC [20, 4] (siSeq (sTup (sCons (sCon (.int 0)) (sCons (sCon (.int 1)) (sNil))))) (tgName 4) (stYes) (E__law_three_1)) (tgName 12)) (ssExpr (sMeth "list" opAppend (sVar 9) (sCons (sTup (sCons (sVar 12) (sCons (sBin opSub (sBin opMul (sVar 8) (sVar 11)) (sBin opMul (sBin opSub1 (sVar 10) (sCon (.int 2))) (sBin opSub1 (sVar 5) (sCon (.int 1))))) (sNil)))) (sNil))))
noncomputable def B__law_three_3 : SS := ssSeq (ssAsg (sTup (sCons (sBin opSub1 (sVar 3) (sVar 4)) (sCons (sBin opSub1 (sVar 3) (sBin opSub (sVar 4) (sCon (.int 1)))) (sCons (sBin opSub1 (sVar 3) (sBin opSub (sVar 4) (sCon (.int 2)))) (sNil))))) (tgTup 3 (tgCons (tgName 5) (tgCons (tgName 6) (tgCons (tgName 7) (tgNil)))))) (ssSeq (ssAsg (sBin opSub1 (sBin opSub1 (sVar 5) (sCon (.int 0))) (sCon (.int 2))) (tgName 8)) (ssIf (sTruth (sBin (cmpR cmpNe) (sVar 8) (sCon (.int 0)))) (ssSeq (ssAsg (sRef (sNil)) (tgName 9)) (ssSeq (ssFor (siSeq (sTup (sCons (sVar 6) (sCons (sVar 7) (sNil))))) (tgTup 2 (tgCons (tgName 10) (tgCons (tgName 11) (tgNil)))) B__law_three_2) (ssSeq (ssAsg (sCall F__law_two (sCons (sBin opSub1 (sVar 9) (sCon (.int 0))) (sCons (sBin opSub1 (sVar 9) (sCon (.int 1))) (sNil)))) (tgName 13)) (ssSeq (ssIf (sTruth (sBin (cmpR cmpIs) (sVar 13) (sCon .non))) (ssRet (sCon .non)) (ssNil)) (ssSeq (ssAsg (sVar 13) (tgTup 2 (tgCons (tgTup 2 (tgCons (tgName 14) (tgCons (tgName 15) (tgNil)))) (tgCons (tgName 16) (tgNil))))) (ssSeq (ssAsg (sBin opSub (sBin opSub (sBin opMul (sBin opSub1 (sVar 5) (sCon (.int 1))) (sVar 16)) (sBin opMul (sBin opSub1 (sBin opSub1 (sVar 5) (sCon (.int 0))) (sCon (.int 0))) (sVar 14))) (sBin opMul (sBin opSub1 (sBin opSub1 (sVar 5) (sCon (.int 0))) (sCon (.int 1))) (sVar 15))) (tgName 17)) (ssSeq (ssAsg (sIf (sBin (cmpR cmpGt) (sVar 8) (sCon (.int 0))) (sCon (.int 1)) (sNeg (sCon (.int 1)))) (tgName 18)) (ssSeq (ssAsg (sBi biAbs (sCons (sVar 8) (sNil))) (tgName 19)) (ssRet (sTup (sCons (sLst (sCons (sBin opMul (sVar 19) (sVar 14)) (sCons (sBin opMul (sVar 19) (sVar 15)) (sCons (sBin opMul (sVar 18) (sVar 17)) (sNil))))) (sCons (sBin opMul (sVar 19) (sVar 16)) (sNil))))))))))))) (ssNil)))
noncomputable def G__law_three : SS := ssSeq (ssAsg (sLst (sCons (sVar 0) (sCons (sVar 1) (sCons (sVar 2) (sNil))))) (tgName 3)) (ssSeq (ssFor (siRange1 (sCon (.int 3))) (tgName 4) B__law_three_3) (ssRet (sCon .non)))
noncomputable def F__law_three : Fn := ⟨3, runF N__law_three G__law_three⟩
/-! _law_is_in -/
def N__law_is_in : List Str := ["_law_rows_here", "_law_point", "_law_line", "_law_number", "_law_total", ".0", "_law_factor", "_law_top"]
def P__law_is_in : List Str := ["_law_rows_here", "_law_point"]
noncomputable def E__law_is_in_1 : SE := sBin opMul (sVar 6) (sVar 7)
noncomputable def B__law_is_in_2 : SS := ssSeq (ssAsg (sBi biSum (sCons (sLC [5, 6, 7] (siZip (sVar 2) (sBin opSub1 (sVar 1) (sCon (.int 0)))) (tgTup 2 (tgCons (tgName 6) (tgCons (tgName 7) (tgNil)))) (stYes) (E__law_is_in_1)) (sNil))) (tgName 4)) (ssIf (sTruth (sBin (cmpR cmpGt) (sVar 4) (sBin opMul (sVar 3) (sBin opSub1 (sVar 1) (sCon (.int 1)))))) (ssRet (sCon (.bl false))) (ssNil))
noncomputable def G__law_is_in : SS := ssSeq (ssFor (siSeq (sVar 0)) (tgTup 2 (tgCons (tgName 2) (tgCons (tgName 3) (tgNil)))) B__law_is_in_2) (ssRet (sCon (.bl true)))
noncomputable def F__law_is_in : Fn := ⟨2, runF N__law_is_in G__law_is_in⟩
/-! _law_corners -/
def N__law_corners : List Str := ["_law_rows_here", "_law_many", "_law_points", "_law_found", "_law_size", "_law_first", "_law_second", "_law_third", "_law_point"]
def P__law_corners : List Str := ["_law_rows_here", "_law_many"]
noncomputable def B__law_corners_1 : SS := ssExpr (sMeth "list" opAppend (sVar 2) (sCons (sCall F__law_three (sCons (sBin opSub1 (sVar 0) (sVar 5)) (sCons (sBin opSub1 (sVar 0) (sVar 6)) (sCons (sBin opSub1 (sVar 0) (sVar 7)) (sNil))))) (sNil)))
noncomputable def B__law_corners_2 : SS := ssIf (sTruth (sBin (cmpR cmpEq) (sVar 1) (sCon (.int 2)))) (ssExpr (sMeth "list" opAppend (sVar 2) (sCons (sCall F__law_two (sCons (sBin opSub1 (sVar 0) (sVar 5)) (sCons (sBin opSub1 (sVar 0) (sVar 6)) (sNil)))) (sNil)))) (ssFor (siRange1 (sVar 6)) (tgName 7) B__law_corners_1)
noncomputable def B__law_corners_3 : SS := ssFor (siRange1 (sVar 5)) (tgName 6) B__law_corners_2
noncomputable def B__law_corners_4 : SS := ssIf (sTruth (sAnd (sBin (cmpR cmpIsNot) (sVar 8) (sCon .non)) (sCall F__law_is_in (sCons (sVar 0) (sCons (sVar 8) (sNil)))))) (ssExpr (sMeth "list" opAppend (sVar 3) (sCons (sVar 8) (sNil)))) (ssNil)
noncomputable def G__law_corners : SS := ssSeq (ssPar3 2 3 4 (sCons (sRef (sNil)) (sCons (sRef (sNil)) (sCons (sBi biLen (sCons (sVar 0) (sNil))) (sNil))))) (ssSeq (ssFor (siRange1 (sVar 4)) (tgName 5) B__law_corners_3) (ssSeq (ssFor (siSeq (sVar 2)) (tgName 8) B__law_corners_4) (ssRet (sVar 3))))
noncomputable def F__law_corners : Fn := ⟨2, runF N__law_corners G__law_corners⟩
/-! _law_is_within -/
def N__law_is_within : List Str := ["_law_one", "_law_other", "_law_rows_here", "_law_point"]
def P__law_is_within : List Str := ["_law_one", "_law_other"]
noncomputable def B__law_is_within_1 : SS := ssIf (sTruth (sNot (sCall F__law_is_in (sCons (sVar 2) (sCons (sVar 3) (sNil)))))) (ssRet (sCon (.bl false))) (ssNil)
noncomputable def G__law_is_within : SS := ssSeq (ssAsg (sCall F__law_rows (sCons (sVar 1) (sNil))) (tgName 2)) (ssSeq (ssFor (siSeq (sCall F__law_corners (sCons (sCall F__law_rows (sCons (sVar 0) (sNil))) (sCons (sBi biLen (sCons (sBin opSub1 (sVar 0) (sCon (.int 0))) (sNil))) (sNil))))) (tgName 3) B__law_is_within_1) (ssRet (sCon (.bl true))))
noncomputable def F__law_is_within : Fn := ⟨2, runF N__law_is_within G__law_is_within⟩
/-! _law_unlike -/
def N__law_unlike : List Str := ["_law_one", "_law_other", "e"]
def P__law_unlike : List Str := ["_law_one", "_law_other"]
noncomputable def G__law_unlike : SS := ssTryIs 2 (ssSeq (ssExpr (sCall F_within (sCons (sVar 0) (sCons (sVar 1) (sNil))))) (ssRet (sCon (.bl false)))) [(("Unlike" : PySem.Str), true)] [(("Unlike" : PySem.Str), true)]
noncomputable def F__law_unlike : Fn := ⟨2, runF N__law_unlike G__law_unlike⟩
/-! law -/
def N_law : List Str := ["_law_script", "_law_k", "_law_source_here", "_law_many", "_law_one", "_law_other", "_law_mine", "_law_yours", "_law_due", "_law_found", "_law_free", "_law_pair"]
def P_law : List Str := ["_law_script"]
noncomputable def B_law_1 : SS := ssSeq (ssPar 8 9 (sCons (sCall F__law_is_within (sCons (sVar 6) (sCons (sVar 7) (sNil)))) (sCons (sCall F_outside (sCons (sVar 6) (sCons (sVar 7) (sNil)))) (sNil)))) (ssSeq (ssIf (sTruth (sOr (sBin (cmpR cmpNe) (sCall F_within (sCons (sVar 6) (sCons (sVar 7) (sNil)))) (sVar 8)) (sBin (cmpR cmpNe) (sBin (cmpR cmpIs) (sVar 9) (sCon .non)) (sVar 8)))) (ssRet (sCon (.bl false))) (ssNil)) (ssSeq (ssIf (sTruth (sAnd (sBin (cmpR cmpIsNot) (sVar 9) (sCon .non)) (sNot (sCall F_is_positions (sCons (sVar 6) (sCons (sVar 9) (sNil))))))) (ssRet (sCon (.bl false))) (ssNil)) (ssIf (sTruth (sAnd (sBin (cmpR cmpIsNot) (sVar 9) (sCon .non)) (sCall F_is_positions (sCons (sVar 7) (sCons (sVar 9) (sNil)))))) (ssRet (sCon (.bl false))) (ssNil))))
noncomputable def B_law_2 : SS := ssSeq (ssAsg (sCall F__law_source (sCons (sVar 0) (sCons (sVar 1) (sNil)))) (tgName 2)) (ssSeq (ssAsg (sCall F__law_of (sCons (sVar 2) (sCons (sLst (sCons (sCon (.int 2)) (sCons (sCon (.int 2)) (sCons (sCon (.int 3)) (sNil))))) (sNil)))) (tgName 3)) (ssSeq (ssAsg (sCall F__law_panel (sCons (sVar 2) (sCons (sVar 3) (sCons (sCon (.int 2)) (sNil))))) (tgName 4)) (ssSeq (ssAsg (sCall F__law_panel (sCons (sVar 2) (sCons (sVar 3) (sCons (sCon (.int 2)) (sNil))))) (tgName 5)) (ssSeq (ssIf (sTruth (sBin (cmpR cmpEq) (sCall F__law_draw (sCons (sVar 2) (sCons (sCon (.int 2)) (sNil)))) (sCon (.int 0)))) (ssAsg (sBin opAdd (sTup (sCons (sBin opSub1 (sVar 4) (sCon (.int 0))) (sCons (sSlice (sBin opSub1 (sVar 4) (sCon (.int 1))) (sPartN) (sPart (sBin opSub (sBi biLen (sCons (sBin opSub1 (sVar 4) (sCon (.int 1))) (sNil))) (sCall F__law_draw (sCons (sVar 2) (sCons (sCon (.int 2)) (sNil))))))) (sNil)))) (sSlice (sVar 4) (sPart (sCon (.int 2))) (sPartN))) (tgName 5)) (ssNil)) (ssSeq (ssFor (siSeq (sLst (sCons (sTup (sCons (sVar 4) (sCons (sVar 5) (sNil)))) (sCons (sTup (sCons (sVar 5) (sCons (sVar 4) (sNil)))) (sCons (sTup (sCons (sVar 4) (sCons (sVar 4) (sNil)))) (sNil)))))) (tgTup 2 (tgCons (tgName 6) (tgCons (tgName 7) (tgNil)))) B_law_1) (ssIf (sTruth (sNot (sCall F__law_unlike (sCons (sVar 4) (sCons (sCall F__law_panel (sCons (sVar 2) (sCons (sBin opSub (sCon (.int 5)) (sVar 3)) (sCons (sCon (.int 1)) (sNil))))) (sNil)))))) (ssRet (sCon (.bl false))) (ssNil)))))))
noncomputable def G_law : SS := ssSeq (ssFor (siRange1 (sBin opAdd (sCon (.int 1)) (sBi biMin (sCons (sBi biLen (sCons (sVar 0) (sNil))) (sCons (sCon (.int 8)) (sNil)))))) (tgName 1) B_law_2) (ssSeq (ssAsg (sTup (sCons (sTup (sCons (sTup (sCons (sCon (.int 0)) (sCons (sCon (.int 10)) (sNil)))) (sCons (sTup (sCons (sCon (.int 0)) (sCons (sCon (.int 10)) (sNil)))) (sNil)))) (sCons (sTup (sNil)) (sCons (sTup (sNil)) (sCons (sTup (sCons (sCon (.int 0)) (sCons (sCon (.int 1)) (sNil)))) (sNil)))))) (tgName 10)) (ssSeq (ssAsg (sBin opAdd (sBin opAdd (sSlice (sVar 10) (sPartN) (sPart (sCon (.int 1)))) (sTup (sCons (sTup (sCons (sTup (sCons (sTup (sCons (sCon (.int 1)) (sCons (sNeg (sCon (.int 1))) (sNil)))) (sCons (sCon (.str ("most" : PySem.Str))) (sCons (sNeg (sCon (.int 2))) (sNil))))) (sNil))) (sNil)))) (sSlice (sVar 10) (sPart (sCon (.int 2))) (sPartN))) (tgName 11)) (ssRet (sAnd (sCall F_within (sCons (sVar 11) (sCons (sVar 10) (sNil)))) (sAnd (sNot (sCall F_within (sCons (sVar 10) (sCons (sVar 11) (sNil))))) (sBin (cmpR cmpIs) (sCall F_outside (sCons (sVar 11) (sCons (sVar 10) (sNil)))) (sCon .non)))))))
noncomputable def F_law : Fn := ⟨1, runF N_law G_law⟩
end K14

set_option Elab.async false
set_option linter.all false
set_option maxRecDepth 100000
set_option maxHeartbeats 0
namespace K14
open PySem L2 Lite
def top (i : Nat) : Stmt := PySem.Challenge.pw_draggedsums_k14_panels_within_others.main.body.getD i (.Pass ⟨0, 0, 0, 0⟩)
def c0 : CE := { N := [], sc := defScope (top 0), fns := [], con := [(("MOST_RULES" : PySem.Str), .int 3), (("MOST_CELLS" : PySem.Str), .int 2)], excs := [("InvalidPanel" : PySem.Str), ("Unlike" : PySem.Str)], catch_ := [(("Unlike" : PySem.Str), [(("Unlike" : PySem.Str), true)])], isi := [(("DragError" : PySem.Str), [(("Unlike" : PySem.Str), true)])], muts := [], top := true }
/-! divisor -/
noncomputable def C_divisor : CE := { c0 with N := N_divisor, sc := defScope (top 5), fns := [], muts := [] }
theorem S_divisor : FnScope N_divisor P_divisor (defScope (top 5)) := ⟨by rfl, by rfl, by rfl, by decide +kernel, by rfl, by decide +kernel, by decide +kernel⟩
theorem H_divisor : cSs 60 C_divisor (defBody (top 5)) = some G_divisor := by kernel_rfl
/-! lowest -/
noncomputable def C_lowest : CE := { c0 with N := N_lowest, sc := defScope (top 6), fns := [(("divisor" : PySem.Str), F_divisor)], muts := [] }
theorem S_lowest : FnScope N_lowest P_lowest (defScope (top 6)) := ⟨by rfl, by rfl, by rfl, by decide +kernel, by rfl, by decide +kernel, by decide +kernel⟩
theorem H_lowest : cSs 60 C_lowest (defBody (top 6)) = some G_lowest := by kernel_rfl
/-! plus -/
noncomputable def C_plus : CE := { c0 with N := N_plus, sc := defScope (top 7), fns := [(("lowest" : PySem.Str), F_lowest)], muts := [] }
theorem S_plus : FnScope N_plus P_plus (defScope (top 7)) := ⟨by rfl, by rfl, by rfl, by decide +kernel, by rfl, by decide +kernel, by decide +kernel⟩
theorem H_plus : cSs 60 C_plus (defBody (top 7)) = some G_plus := by kernel_rfl
/-! is_less -/
noncomputable def C_is_less : CE := { c0 with N := N_is_less, sc := defScope (top 8), fns := [], muts := [] }
theorem S_is_less : FnScope N_is_less P_is_less (defScope (top 8)) := ⟨by rfl, by rfl, by rfl, by decide +kernel, by rfl, by decide +kernel, by decide +kernel⟩
theorem H_is_less : cSs 60 C_is_less (defBody (top 8)) = some G_is_less := by kernel_rfl
/-! neat -/
noncomputable def C_neat : CE := { c0 with N := N_neat, sc := defScope (top 10), fns := [(("divisor" : PySem.Str), F_divisor)], muts := [] }
theorem S_neat : FnScope N_neat P_neat (defScope (top 10)) := ⟨by rfl, by rfl, by rfl, by decide +kernel, by rfl, by decide +kernel, by decide +kernel⟩
theorem H_neat : cSs 60 C_neat (defBody (top 10)) = some G_neat := by kernel_rfl
/-! table_of -/
noncomputable def C_table_of : CE := { c0 with N := N_table_of, sc := defScope (top 11), fns := [], muts := [] }
theorem S_table_of : FnScope N_table_of P_table_of (defScope (top 11)) := ⟨by rfl, by rfl, by rfl, by decide +kernel, by rfl, by decide +kernel, by decide +kernel⟩
theorem H_table_of : cSs 60 C_table_of (defBody (top 11)) = some G_table_of := by kernel_rfl
/-! cleared -/
noncomputable def C_cleared : CE := { c0 with N := N_cleared, sc := defScope (top 12), fns := [(("neat" : PySem.Str), F_neat)], muts := [] }
theorem S_cleared : FnScope N_cleared P_cleared (defScope (top 12)) := ⟨by rfl, by rfl, by rfl, by decide +kernel, by rfl, by decide +kernel, by decide +kernel⟩
theorem H_cleared : cSs 60 C_cleared (defBody (top 12)) = some G_cleared := by kernel_rfl
/-! leaving -/
noncomputable def C_leaving : CE := { c0 with N := N_leaving, sc := defScope (top 13), fns := [], muts := [] }
theorem S_leaving : FnScope N_leaving P_leaving (defScope (top 13)) := ⟨by rfl, by rfl, by rfl, by decide +kernel, by rfl, by decide +kernel, by decide +kernel⟩
theorem H_leaving : cSs 60 C_leaving (defBody (top 13)) = some G_leaving := by kernel_rfl
/-! numbers_of -/
noncomputable def C_numbers_of : CE := { c0 with N := N_numbers_of, sc := defScope (top 14), fns := [(("divisor" : PySem.Str), F_divisor)], muts := [] }
theorem S_numbers_of : FnScope N_numbers_of P_numbers_of (defScope (top 14)) := ⟨by rfl, by rfl, by rfl, by decide +kernel, by rfl, by decide +kernel, by decide +kernel⟩
theorem H_numbers_of : cSs 60 C_numbers_of (defBody (top 14)) = some G_numbers_of := by kernel_rfl
/-! greatest -/
noncomputable def C_greatest : CE := { c0 with N := N_greatest, sc := defScope (top 15), fns := [(("table_of" : PySem.Str), F_table_of), (("numbers_of" : PySem.Str), F_numbers_of), (("leaving" : PySem.Str), F_leaving), (("cleared" : PySem.Str), F_cleared)], muts := [] }
theorem S_greatest : FnScope N_greatest P_greatest (defScope (top 15)) := ⟨by rfl, by rfl, by rfl, by decide +kernel, by rfl, by decide +kernel, by decide +kernel⟩
theorem H_greatest : cSs 60 C_greatest (defBody (top 15)) = some G_greatest := by kernel_rfl
/-! solution -/
noncomputable def C_solution : CE := { c0 with N := N_solution, sc := defScope (top 16), fns := [(("greatest" : PySem.Str), F_greatest), (("lowest" : PySem.Str), F_lowest)], muts := [] }
theorem S_solution : FnScope N_solution P_solution (defScope (top 16)) := ⟨by rfl, by rfl, by rfl, by decide +kernel, by rfl, by decide +kernel, by decide +kernel⟩
theorem H_solution : cSs 60 C_solution (defBody (top 16)) = some G_solution := by kernel_rfl
/-! can_hold -/
noncomputable def C_can_hold : CE := { c0 with N := N_can_hold, sc := defScope (top 17), fns := [(("solution" : PySem.Str), F_solution)], muts := [] }
theorem S_can_hold : FnScope N_can_hold P_can_hold (defScope (top 17)) := ⟨by rfl, by rfl, by rfl, by decide +kernel, by rfl, by decide +kernel, by decide +kernel⟩
theorem H_can_hold : cSs 60 C_can_hold (defBody (top 17)) = some G_can_hold := by kernel_rfl
/-! is_number -/
noncomputable def C_is_number : CE := { c0 with N := N_is_number, sc := defScope (top 21), fns := [], muts := [] }
theorem S_is_number : FnScope N_is_number P_is_number (defScope (top 21)) := ⟨by rfl, by rfl, by rfl, by decide +kernel, by rfl, by decide +kernel, by decide +kernel⟩
theorem H_is_number : cSs 60 C_is_number (defBody (top 21)) = some G_is_number := by kernel_rfl
/-! is_among -/
noncomputable def C_is_among : CE := { c0 with N := N_is_among, sc := defScope (top 22), fns := [], muts := [] }
theorem S_is_among : FnScope N_is_among P_is_among (defScope (top 22)) := ⟨by rfl, by rfl, by rfl, by decide +kernel, by rfl, by decide +kernel, by decide +kernel⟩
theorem H_is_among : cSs 60 C_is_among (defBody (top 22)) = some G_is_among := by kernel_rfl
/-! is_tuple -/
noncomputable def C_is_tuple : CE := { c0 with N := N_is_tuple, sc := defScope (top 23), fns := [], muts := [] }
theorem S_is_tuple : FnScope N_is_tuple P_is_tuple (defScope (top 23)) := ⟨by rfl, by rfl, by rfl, by decide +kernel, by rfl, by decide +kernel, by decide +kernel⟩
theorem H_is_tuple : cSs 60 C_is_tuple (defBody (top 23)) = some G_is_tuple := by kernel_rfl
/-! is_fraction -/
noncomputable def C_is_fraction : CE := { c0 with N := N_is_fraction, sc := defScope (top 24), fns := [(("is_tuple" : PySem.Str), F_is_tuple), (("divisor" : PySem.Str), F_divisor)], muts := [] }
theorem S_is_fraction : FnScope N_is_fraction P_is_fraction (defScope (top 24)) := ⟨by rfl, by rfl, by rfl, by decide +kernel, by rfl, by decide +kernel, by decide +kernel⟩
theorem H_is_fraction : cSs 60 C_is_fraction (defBody (top 24)) = some G_is_fraction := by kernel_rfl
/-! is_order -/
noncomputable def C_is_order : CE := { c0 with N := N_is_order, sc := defScope (top 25), fns := [(("is_tuple" : PySem.Str), F_is_tuple), (("is_number" : PySem.Str), F_is_number)], muts := [] }
theorem S_is_order : FnScope N_is_order P_is_order (defScope (top 25)) := ⟨by rfl, by rfl, by rfl, by decide +kernel, by rfl, by decide +kernel, by decide +kernel⟩
theorem H_is_order : cSs 60 C_is_order (defBody (top 25)) = some G_is_order := by kernel_rfl
/-! are_factors -/
noncomputable def C_are_factors : CE := { c0 with N := N_are_factors, sc := defScope (top 26), fns := [(("is_tuple" : PySem.Str), F_is_tuple), (("is_number" : PySem.Str), F_is_number)], muts := [] }
theorem S_are_factors : FnScope N_are_factors P_are_factors (defScope (top 26)) := ⟨by rfl, by rfl, by rfl, by decide +kernel, by rfl, by decide +kernel, by decide +kernel⟩
theorem H_are_factors : cSs 60 C_are_factors (defBody (top 26)) = some G_are_factors := by kernel_rfl
/-! is_slider -/
noncomputable def C_is_slider : CE := { c0 with N := N_is_slider, sc := defScope (top 27), fns := [(("is_tuple" : PySem.Str), F_is_tuple), (("is_number" : PySem.Str), F_is_number)], muts := [] }
theorem S_is_slider : FnScope N_is_slider P_is_slider (defScope (top 27)) := ⟨by rfl, by rfl, by rfl, by decide +kernel, by rfl, by decide +kernel, by decide +kernel⟩
theorem H_is_slider : cSs 60 C_is_slider (defBody (top 27)) = some G_is_slider := by kernel_rfl
/-! is_rule -/
noncomputable def C_is_rule : CE := { c0 with N := N_is_rule, sc := defScope (top 28), fns := [(("is_tuple" : PySem.Str), F_is_tuple), (("are_factors" : PySem.Str), F_are_factors), (("is_among" : PySem.Str), F_is_among), (("is_number" : PySem.Str), F_is_number)], muts := [] }
theorem S_is_rule : FnScope N_is_rule P_is_rule (defScope (top 28)) := ⟨by rfl, by rfl, by rfl, by decide +kernel, by rfl, by decide +kernel, by decide +kernel⟩
theorem H_is_rule : cSs 60 C_is_rule (defBody (top 28)) = some G_is_rule := by kernel_rfl
/-! is_cell -/
noncomputable def C_is_cell : CE := { c0 with N := N_is_cell, sc := defScope (top 29), fns := [(("is_tuple" : PySem.Str), F_is_tuple), (("are_factors" : PySem.Str), F_are_factors), (("is_number" : PySem.Str), F_is_number)], muts := [] }
theorem S_is_cell : FnScope N_is_cell P_is_cell (defScope (top 29)) := ⟨by rfl, by rfl, by rfl, by decide +kernel, by rfl, by decide +kernel, by decide +kernel⟩
theorem H_is_cell : cSs 60 C_is_cell (defBody (top 29)) = some G_is_cell := by kernel_rfl
/-! is_shaped -/
noncomputable def C_is_shaped : CE := { c0 with N := N_is_shaped, sc := defScope (top 30), fns := [(("is_tuple" : PySem.Str), F_is_tuple), (("is_slider" : PySem.Str), F_is_slider), (("is_rule" : PySem.Str), F_is_rule), (("is_order" : PySem.Str), F_is_order), (("is_cell" : PySem.Str), F_is_cell)], muts := [] }
theorem S_is_shaped : FnScope N_is_shaped P_is_shaped (defScope (top 30)) := ⟨by rfl, by rfl, by rfl, by decide +kernel, by rfl, by decide +kernel, by decide +kernel⟩
theorem H_is_shaped : cSs 60 C_is_shaped (defBody (top 30)) = some G_is_shaped := by kernel_rfl
/-! rule_rows -/
noncomputable def C_rule_rows : CE := { c0 with N := N_rule_rows, sc := defScope (top 31), fns := [], muts := [] }
theorem S_rule_rows : FnScope N_rule_rows P_rule_rows (defScope (top 31)) := ⟨by rfl, by rfl, by rfl, by decide +kernel, by rfl, by decide +kernel, by decide +kernel⟩
theorem H_rule_rows : cSs 60 C_rule_rows (defBody (top 31)) = some G_rule_rows := by kernel_rfl
/-! slider_rules -/
noncomputable def C_slider_rules : CE := { c0 with N := N_slider_rules, sc := defScope (top 32), fns := [], muts := [] }
theorem S_slider_rules : FnScope N_slider_rules P_slider_rules (defScope (top 32)) := ⟨by rfl, by rfl, by rfl, by decide +kernel, by rfl, by decide +kernel, by decide +kernel⟩
theorem H_slider_rules : cSs 60 C_slider_rules (defBody (top 32)) = some G_slider_rules := by kernel_rfl
/-! all_rules -/
noncomputable def C_all_rules : CE := { c0 with N := N_all_rules, sc := defScope (top 33), fns := [(("slider_rules" : PySem.Str), F_slider_rules)], muts := [] }
theorem S_all_rules : FnScope N_all_rules P_all_rules (defScope (top 33)) := ⟨by rfl, by rfl, by rfl, by decide +kernel, by rfl, by decide +kernel, by decide +kernel⟩
theorem H_all_rules : cSs 60 C_all_rules (defBody (top 33)) = some G_all_rules := by kernel_rfl
/-! panel_rows -/
noncomputable def C_panel_rows : CE := { c0 with N := N_panel_rows, sc := defScope (top 34), fns := [(("all_rules" : PySem.Str), F_all_rules), (("rule_rows" : PySem.Str), F_rule_rows)], muts := [] }
theorem S_panel_rows : FnScope N_panel_rows P_panel_rows (defScope (top 34)) := ⟨by rfl, by rfl, by rfl, by decide +kernel, by rfl, by decide +kernel, by decide +kernel⟩
theorem H_panel_rows : cSs 60 C_panel_rows (defBody (top 34)) = some G_panel_rows := by kernel_rfl
/-! is_good -/
noncomputable def C_is_good : CE := { c0 with N := N_is_good, sc := defScope (top 35), fns := [(("is_shaped" : PySem.Str), F_is_shaped), (("can_hold" : PySem.Str), F_can_hold), (("panel_rows" : PySem.Str), F_panel_rows)], muts := [] }
theorem S_is_good : FnScope N_is_good P_is_good (defScope (top 35)) := ⟨by rfl, by rfl, by rfl, by decide +kernel, by rfl, by decide +kernel, by decide +kernel⟩
theorem H_is_good : cSs 60 C_is_good (defBody (top 35)) = some G_is_good := by kernel_rfl
/-! sum_of -/
noncomputable def C_sum_of : CE := { c0 with N := N_sum_of, sc := defScope (top 36), fns := [(("plus" : PySem.Str), F_plus)], muts := [] }
theorem S_sum_of : FnScope N_sum_of P_sum_of (defScope (top 36)) := ⟨by rfl, by rfl, by rfl, by decide +kernel, by rfl, by decide +kernel, by decide +kernel⟩
theorem H_sum_of : cSs 60 C_sum_of (defBody (top 36)) = some G_sum_of := by kernel_rfl
/-! keeps_rule -/
noncomputable def C_keeps_rule : CE := { c0 with N := N_keeps_rule, sc := defScope (top 37), fns := [(("sum_of" : PySem.Str), F_sum_of), (("is_less" : PySem.Str), F_is_less)], muts := [] }
theorem S_keeps_rule : FnScope N_keeps_rule P_keeps_rule (defScope (top 37)) := ⟨by rfl, by rfl, by rfl, by decide +kernel, by rfl, by decide +kernel, by decide +kernel⟩
theorem H_keeps_rule : cSs 60 C_keeps_rule (defBody (top 37)) = some G_keeps_rule := by kernel_rfl
/-! are_good_positions -/
noncomputable def C_are_good_positions : CE := { c0 with N := N_are_good_positions, sc := defScope (top 38), fns := [(("is_tuple" : PySem.Str), F_is_tuple), (("is_fraction" : PySem.Str), F_is_fraction), (("all_rules" : PySem.Str), F_all_rules), (("keeps_rule" : PySem.Str), F_keeps_rule)], muts := [] }
theorem S_are_good_positions : FnScope N_are_good_positions P_are_good_positions (defScope (top 38)) := ⟨by rfl, by rfl, by rfl, by decide +kernel, by rfl, by decide +kernel, by decide +kernel⟩
theorem H_are_good_positions : cSs 60 C_are_good_positions (defBody (top 38)) = some G_are_good_positions := by kernel_rfl
/-! need_panel -/
noncomputable def C_need_panel : CE := { c0 with N := N_need_panel, sc := defScope (top 39), fns := [(("is_good" : PySem.Str), F_is_good)], muts := [] }
theorem S_need_panel : FnScope N_need_panel P_need_panel (defScope (top 39)) := ⟨by rfl, by rfl, by rfl, by decide +kernel, by rfl, by decide +kernel, by decide +kernel⟩
theorem H_need_panel : cSs 60 C_need_panel (defBody (top 39)) = some G_need_panel := by kernel_rfl
/-! need_panels -/
noncomputable def C_need_panels : CE := { c0 with N := N_need_panels, sc := defScope (top 40), fns := [(("need_panel" : PySem.Str), F_need_panel)], muts := [] }
theorem S_need_panels : FnScope N_need_panels P_need_panels (defScope (top 40)) := ⟨by rfl, by rfl, by rfl, by decide +kernel, by rfl, by decide +kernel, by decide +kernel⟩
theorem H_need_panels : cSs 60 C_need_panels (defBody (top 40)) = some G_need_panels := by kernel_rfl
/-! is_positions -/
noncomputable def C_is_positions : CE := { c0 with N := N_is_positions, sc := defScope (top 41), fns := [(("need_panel" : PySem.Str), F_need_panel), (("are_good_positions" : PySem.Str), F_are_good_positions)], muts := [] }
theorem S_is_positions : FnScope N_is_positions P_is_positions (defScope (top 41)) := ⟨by rfl, by rfl, by rfl, by decide +kernel, by rfl, by decide +kernel, by decide +kernel⟩
theorem H_is_positions : cSs 60 C_is_positions (defBody (top 41)) = some G_is_positions := by kernel_rfl
/-! fits -/
noncomputable def C_fits : CE := { c0 with N := N_fits, sc := defScope (top 43), fns := [(("can_hold" : PySem.Str), F_can_hold)], muts := [] }
theorem S_fits : FnScope N_fits P_fits (defScope (top 43)) := ⟨by rfl, by rfl, by rfl, by decide +kernel, by rfl, by decide +kernel, by decide +kernel⟩
theorem H_fits : cSs 60 C_fits (defBody (top 43)) = some G_fits := by kernel_rfl
/-! witness -/
noncomputable def C_witness : CE := { c0 with N := N_witness, sc := defScope (top 45), fns := [(("solution" : PySem.Str), F_solution)], muts := [] }
theorem S_witness : FnScope N_witness P_witness (defScope (top 45)) := ⟨by rfl, by rfl, by rfl, by decide +kernel, by rfl, by decide +kernel, by decide +kernel⟩
theorem H_witness : cSs 60 C_witness (defBody (top 45)) = some G_witness := by kernel_rfl
/-! broken_rows -/
noncomputable def C_broken_rows : CE := { c0 with N := N_broken_rows, sc := defScope (top 47), fns := [(("rule_rows" : PySem.Str), F_rule_rows), (("fits" : PySem.Str), F_fits)], muts := [] }
theorem S_broken_rows : FnScope N_broken_rows P_broken_rows (defScope (top 47)) := ⟨by rfl, by rfl, by rfl, by decide +kernel, by rfl, by decide +kernel, by decide +kernel⟩
theorem H_broken_rows : cSs 60 C_broken_rows (defBody (top 47)) = some G_broken_rows := by kernel_rfl
/-! outside_rows -/
noncomputable def C_outside_rows : CE := { c0 with N := N_outside_rows, sc := defScope (top 48), fns := [(("panel_rows" : PySem.Str), F_panel_rows), (("all_rules" : PySem.Str), F_all_rules), (("broken_rows" : PySem.Str), F_broken_rows)], muts := [] }
theorem S_outside_rows : FnScope N_outside_rows P_outside_rows (defScope (top 48)) := ⟨by rfl, by rfl, by rfl, by decide +kernel, by rfl, by decide +kernel, by decide +kernel⟩
theorem H_outside_rows : cSs 60 C_outside_rows (defBody (top 48)) = some G_outside_rows := by kernel_rfl
/-! is_within -/
noncomputable def C_is_within : CE := { c0 with N := N_is_within, sc := defScope (top 49), fns := [(("outside_rows" : PySem.Str), F_outside_rows)], muts := [] }
theorem S_is_within : FnScope N_is_within P_is_within (defScope (top 49)) := ⟨by rfl, by rfl, by rfl, by decide +kernel, by rfl, by decide +kernel, by decide +kernel⟩
theorem H_is_within : cSs 60 C_is_within (defBody (top 49)) = some G_is_within := by kernel_rfl
/-! within -/
noncomputable def C_within : CE := { c0 with N := N_within, sc := defScope (top 50), fns := [(("need_panels" : PySem.Str), F_need_panels), (("is_within" : PySem.Str), F_is_within)], muts := [] }
theorem S_within : FnScope N_within P_within (defScope (top 50)) := ⟨by rfl, by rfl, by rfl, by decide +kernel, by rfl, by decide +kernel, by decide +kernel⟩
theorem H_within : cSs 60 C_within (defBody (top 50)) = some G_within := by kernel_rfl
/-! outside -/
noncomputable def C_outside : CE := { c0 with N := N_outside, sc := defScope (top 51), fns := [(("need_panels" : PySem.Str), F_need_panels), (("outside_rows" : PySem.Str), F_outside_rows), (("witness" : PySem.Str), F_witness)], muts := [] }
theorem S_outside : FnScope N_outside P_outside (defScope (top 51)) := ⟨by rfl, by rfl, by rfl, by decide +kernel, by rfl, by decide +kernel, by decide +kernel⟩
theorem H_outside : cSs 60 C_outside (defBody (top 51)) = some G_outside := by kernel_rfl
/-! _law_source -/
noncomputable def C__law_source : CE := { c0 with N := N__law_source, sc := defScope (top 53), fns := [], muts := [⟨204, 15, 204, 76⟩, ⟨205, 11, 205, 64⟩] }
theorem S__law_source : FnScope N__law_source P__law_source (defScope (top 53)) := ⟨by rfl, by rfl, by rfl, by decide +kernel, by rfl, by decide +kernel, by decide +kernel⟩
theorem H__law_source : cSs 60 C__law_source (defBody (top 53)) = some G__law_source := by kernel_rfl
/-! _law_draw -/
noncomputable def C__law_draw : CE := { c0 with N := N__law_draw, sc := defScope (top 54), fns := [], muts := [] }
theorem S__law_draw : FnScope N__law_draw P__law_draw (defScope (top 54)) := ⟨by rfl, by rfl, by rfl, by decide +kernel, by rfl, by decide +kernel, by decide +kernel⟩
theorem H__law_draw : cSs 60 C__law_draw (defBody (top 54)) = some G__law_draw := by kernel_rfl
/-! _law_of -/
noncomputable def C__law_of : CE := { c0 with N := N__law_of, sc := defScope (top 55), fns := [(("_law_draw" : PySem.Str), F__law_draw)], muts := [] }
theorem S__law_of : FnScope N__law_of P__law_of (defScope (top 55)) := ⟨by rfl, by rfl, by rfl, by decide +kernel, by rfl, by decide +kernel, by decide +kernel⟩
theorem H__law_of : cSs 60 C__law_of (defBody (top 55)) = some G__law_of := by kernel_rfl
/-! _law_factors -/
noncomputable def C__law_factors : CE := { c0 with N := N__law_factors, sc := defScope (top 56), fns := [(("_law_of" : PySem.Str), F__law_of)], muts := [] }
theorem S__law_factors : FnScope N__law_factors P__law_factors (defScope (top 56)) := ⟨by rfl, by rfl, by rfl, by decide +kernel, by rfl, by decide +kernel, by decide +kernel⟩
theorem H__law_factors : cSs 60 C__law_factors (defBody (top 56)) = some G__law_factors := by kernel_rfl
/-! _law_panel -/
noncomputable def C__law_panel : CE := { c0 with N := N__law_panel, sc := defScope (top 57), fns := [(("_law_of" : PySem.Str), F__law_of), (("_law_draw" : PySem.Str), F__law_draw), (("_law_factors" : PySem.Str), F__law_factors)], muts := [⟨231, 17, 231, 39⟩, ⟨233, 21, 233, 90⟩] }
theorem S__law_panel : FnScope N__law_panel P__law_panel (defScope (top 57)) := ⟨by rfl, by rfl, by rfl, by decide +kernel, by rfl, by decide +kernel, by decide +kernel⟩
theorem H__law_panel : cSs 60 C__law_panel (defBody (top 57)) = some G__law_panel := by kernel_rfl
/-! _law_unit -/
noncomputable def C__law_unit : CE := { c0 with N := N__law_unit, sc := defScope (top 58), fns := [], muts := [] }
theorem S__law_unit : FnScope N__law_unit P__law_unit (defScope (top 58)) := ⟨by rfl, by rfl, by rfl, by decide +kernel, by rfl, by decide +kernel, by decide +kernel⟩
theorem H__law_unit : cSs 60 C__law_unit (defBody (top 58)) = some G__law_unit := by kernel_rfl
/-! _law_sums -/
noncomputable def C__law_sums : CE := { c0 with N := N__law_sums, sc := defScope (top 59), fns := [(("_law_unit" : PySem.Str), F__law_unit)], muts := [] }
theorem S__law_sums : FnScope N__law_sums P__law_sums (defScope (top 59)) := ⟨by rfl, by rfl, by rfl, by decide +kernel, by rfl, by decide +kernel, by decide +kernel⟩
theorem H__law_sums : cSs 60 C__law_sums (defBody (top 59)) = some G__law_sums := by kernel_rfl
/-! _law_tight -/
noncomputable def C__law_tight : CE := { c0 with N := N__law_tight, sc := defScope (top 60), fns := [], muts := [] }
theorem S__law_tight : FnScope N__law_tight P__law_tight (defScope (top 60)) := ⟨by rfl, by rfl, by rfl, by decide +kernel, by rfl, by decide +kernel, by decide +kernel⟩
theorem H__law_tight : cSs 60 C__law_tight (defBody (top 60)) = some G__law_tight := by kernel_rfl
/-! _law_rows -/
noncomputable def C__law_rows : CE := { c0 with N := N__law_rows, sc := defScope (top 61), fns := [(("_law_sums" : PySem.Str), F__law_sums), (("_law_tight" : PySem.Str), F__law_tight)], muts := [] }
theorem S__law_rows : FnScope N__law_rows P__law_rows (defScope (top 61)) := ⟨by rfl, by rfl, by rfl, by decide +kernel, by rfl, by decide +kernel, by decide +kernel⟩
theorem H__law_rows : cSs 60 C__law_rows (defBody (top 61)) = some G__law_rows := by kernel_rfl
/-! _law_two -/
noncomputable def C__law_two : CE := { c0 with N := N__law_two, sc := defScope (top 62), fns := [], muts := [] }
theorem S__law_two : FnScope N__law_two P__law_two (defScope (top 62)) := ⟨by rfl, by rfl, by rfl, by decide +kernel, by rfl, by decide +kernel, by decide +kernel⟩
theorem H__law_two : cSs 60 C__law_two (defBody (top 62)) = some G__law_two := by kernel_rfl
/-! _law_three -/
noncomputable def C__law_three : CE := { c0 with N := N__law_three, sc := defScope (top 63), fns := [(("_law_two" : PySem.Str), F__law_two)], muts := [⟨265, 24, 265, 26⟩] }
theorem S__law_three : FnScope N__law_three P__law_three (defScope (top 63)) := ⟨by rfl, by rfl, by rfl, by decide +kernel, by rfl, by decide +kernel, by decide +kernel⟩
theorem H__law_three : cSs 60 C__law_three (defBody (top 63)) = some G__law_three := by kernel_rfl
/-! _law_is_in -/
noncomputable def C__law_is_in : CE := { c0 with N := N__law_is_in, sc := defScope (top 64), fns := [], muts := [] }
theorem S__law_is_in : FnScope N__law_is_in P__law_is_in (defScope (top 64)) := ⟨by rfl, by rfl, by rfl, by decide +kernel, by rfl, by decide +kernel, by decide +kernel⟩
theorem H__law_is_in : cSs 60 C__law_is_in (defBody (top 64)) = some G__law_is_in := by kernel_rfl
/-! _law_corners -/
noncomputable def C__law_corners : CE := { c0 with N := N__law_corners, sc := defScope (top 65), fns := [(("_law_two" : PySem.Str), F__law_two), (("_law_three" : PySem.Str), F__law_three), (("_law_is_in" : PySem.Str), F__law_is_in)], muts := [⟨285, 42, 285, 44⟩, ⟨285, 46, 285, 48⟩] }
theorem S__law_corners : FnScope N__law_corners P__law_corners (defScope (top 65)) := ⟨by rfl, by rfl, by rfl, by decide +kernel, by rfl, by decide +kernel, by decide +kernel⟩
theorem H__law_corners : cSs 60 C__law_corners (defBody (top 65)) = some G__law_corners := by kernel_rfl
/-! _law_is_within -/
noncomputable def C__law_is_within : CE := { c0 with N := N__law_is_within, sc := defScope (top 66), fns := [(("_law_rows" : PySem.Str), F__law_rows), (("_law_corners" : PySem.Str), F__law_corners), (("_law_is_in" : PySem.Str), F__law_is_in)], muts := [] }
theorem S__law_is_within : FnScope N__law_is_within P__law_is_within (defScope (top 66)) := ⟨by rfl, by rfl, by rfl, by decide +kernel, by rfl, by decide +kernel, by decide +kernel⟩
theorem H__law_is_within : cSs 60 C__law_is_within (defBody (top 66)) = some G__law_is_within := by kernel_rfl
/-! _law_unlike -/
noncomputable def C__law_unlike : CE := { c0 with N := N__law_unlike, sc := defScope (top 67), fns := [(("within" : PySem.Str), F_within)], muts := [] }
theorem S__law_unlike : FnScope N__law_unlike P__law_unlike (defScope (top 67)) := ⟨by rfl, by rfl, by rfl, by decide +kernel, by rfl, by decide +kernel, by decide +kernel⟩
theorem H__law_unlike : cSs 60 C__law_unlike (defBody (top 67)) = some G__law_unlike := by kernel_rfl
/-! law -/
noncomputable def C_law : CE := { c0 with N := N_law, sc := defScope (top 68), fns := [(("_law_source" : PySem.Str), F__law_source), (("_law_of" : PySem.Str), F__law_of), (("_law_panel" : PySem.Str), F__law_panel), (("_law_draw" : PySem.Str), F__law_draw), (("_law_is_within" : PySem.Str), F__law_is_within), (("outside" : PySem.Str), F_outside), (("within" : PySem.Str), F_within), (("is_positions" : PySem.Str), F_is_positions), (("_law_unlike" : PySem.Str), F__law_unlike)], muts := [] }
theorem S_law : FnScope N_law P_law (defScope (top 68)) := ⟨by rfl, by rfl, by rfl, by decide +kernel, by rfl, by decide +kernel, by decide +kernel⟩
theorem H_law : cSs 60 C_law (defBody (top 68)) = some G_law := by kernel_rfl
end K14

set_option Elab.async false
set_option linter.all false
set_option maxRecDepth 100000
set_option maxHeartbeats 4000000
namespace Lite
open PySem L2

/-! ### the head -/
/-- what ExcC wants, as a test -/
def excB (K : PySem.W.Frag) (x : Str) : Bool :=
  He.eqO (PySem.W.findIn K (.ref (He.ga K x)) "__getattribute__") (some (some (.builtin "BaseException.__getattribute__"))) && (He.eqO (PySem.W.findIn K (.ref (He.ga K x)) "__getattr__") (some none) && (decide (PySem.W.subIn K (.ref (He.ga K x)) (.type "BaseException") = some true)
    && (PySem.W.hasDictIn K (He.ga K x) && (He.eqO (PySem.W.findIn K (.ref (He.ga K x)) "__class__") (some (some (.builtin "object.__class__"))) && (He.eqO (PySem.W.specialIn K (.builtin "object.__class__") "__get__") (some (some (.builtin "getset_descriptor.__get__")))
    && (decide (PySem.W.takesIn K (.builtin "object.__class__") = some true) && decide (PySem.W.mroIn K (He.ga K x) (.type "object") = some true)))))))
theorem excB_ok {K : PySem.W.Frag} {x : Str} (h : excB K x = true) : ExcC K (He.ga K x) := by
  unfold excB at h
  obtain ⟨a1, h⟩ := He.ba h
  obtain ⟨a2, h⟩ := He.ba h
  obtain ⟨a3, h⟩ := He.ba h
  obtain ⟨a4, h⟩ := He.ba h
  obtain ⟨a5, h⟩ := He.ba h
  obtain ⟨a6, h⟩ := He.ba h
  obtain ⟨a7, a8⟩ := He.ba h
  exact ⟨He.eqO_ok a1, He.eqO_ok a2, of_decide_eq_true a3, a4, He.eqO_ok a5, He.eqO_ok a6, of_decide_eq_true a7, of_decide_eq_true a8⟩
/-- facts, defs and exception classes -/
abbrev AlX : Type := Bool × He.AlD
def obsX (fa : List He.Fa) (fn : List He.DefD) (ex : List Str) (K : PySem.W.Frag) : AlX := (ex.all (excB K), He.obsD fa fn K)
def valX (fn : List He.DefD) : AlX := (true, He.valD fn)
def SaysX (fa : List He.Fa) (fn : List He.DefD) (ex : List Str) (K : PySem.W.Frag) : Prop := obsX fa fn ex K = valX fn
def obsXG (n : Nat) (fa : List He.Fa) (fn : List He.DefD) (ex : List Str) (g : Addr → Option Obj) : AlX := obsX fa fn ex (He.frG g (He.asD g n))
def hookX (n : Nat) (fa : List He.Fa) (fn : List He.DefD) (ex : List Str) : PySem.W.Hook where
  α := AlX
  obs := fun s => obsXG n fa fn ex s.heap.get?
  val := fun _ => valX fn
  says := fun _ h => ∃ K : PySem.W.Frag, K.In h ∧ SaysX fa fn ex K
  of := fun _ _ e => ⟨_, He.frG_in, e⟩
  keeps := fun _ _ _ ⟨K, hK, c⟩ k => ⟨K, PySem.W.Frag.In.keeps hK k, c⟩
theorem obsXG_eq {n : Nat} {fa : List He.Fa} {fn : List He.DefD} {ex : List Str} {g : Addr → Option Obj} {s : Shared} (h : ∀ a, g a = s.heap.get? a) : obsXG n fa fn ex g = (hookX n fa fn ex).obs s := by
  have e : g = s.heap.get? := funext h
  rw [e] <;> rfl
section
variable {fa : List He.Fa} {fn : List He.DefD} {ex : List Str} {K : PySem.W.Frag}
theorem SaysX.d (c : SaysX fa fn ex K) : He.SaysD fa fn K := congrArg (fun z : AlX => z.2) c
theorem SaysX.exc (c : SaysX fa fn ex K) (i : Nat) {x : Str} (h : ex[i]? = some x := by rfl) : ExcC K (He.ga K x) := by
  have c1 : (ex.all (excB K)) = true := congrArg (fun z : AlX => z.1) c
  exact excB_ok (List.all_eq_true.mp c1 x (List.mem_of_getElem? h))
end
theorem walk_ofX {l : PySem.W.OpenLaw} {n k : Nat} {q : Program} {loose : List Str} {XP : (Str → Option Value) → Heap → Prop} {YP : World → Heap → Prop} {d : DefRec} {CX : World → CXT} {x : Str}
    (hn : l.most = some n) (hn2 : n ≤ sizeLine) (hdf : d.params.defaults = []) (hr : Room k callerA)
    (F : ∀ (w : World) (mg : Str → Option Value) (fa : Addr) (h : Heap), YP w h → h.Ns mainGlobals mg → mg d.name = some (.ref fa) →
      ∃ (K : PySem.W.Frag) (fd : FuncData) (sp : Sp), K.In h ∧ (∀ (s : Shared) (u : Value), BindsTo s fd ⟨[u], []⟩ [(x, u)]) ∧
        (∀ (H : Hp) (a : Addr) (ns : List Int), ns.length ≤ n → (∀ z ∈ ns, Builtin.Int.intBits z ≤ 1048576) → Only H → SqL K H a (ns.map V.int) → sp [.ref a] H (fun v _ => v = .bl true) fun _ _ _ => False) ∧
        ∀ base : Heap, K.In base → base.Ns mainGlobals mg → FnOk l.prog w K mg base (CX w) k fa fd [x] sp)
    (hCX : ∀ (w : World) (H : Hp) (s : Shared) (e : Value) (s' : Shared), CX w [] H s (fun _ _ _ => False) e s' → False) :
    PySem.W.WalkO q loose XP YP l.row.toRowW d [] (fun f vs => PySem.call f vs) := by
  refine Att.attach_callB hn hdf fun w s₀ s₁ mg mb fa o pm cd doc a vs ns G Y ho hd hcd hmg hobj hints hlen hbits hg => ?_
  obtain ⟨K, fd, sp, KX, hb, hsp, hF⟩ := F w mg fa _ Y G.T.g hmg
  exact law_call KX G.T.g G.T.b G.T.builtins G.T.nolimit hg hobj hints (Nat.le_trans hlen hn2) hr hF hb (fun H hO hS => hsp H a ns hlen hbits hO hS) fun H e s' => hCX w H s₁ e s'
theorem cx_false (P : Program) (w : World) (H : Hp) (s : Shared) (e : Value) (s' : Shared) (h : L2.CX P w [] H s (fun _ _ _ => False) e s') : False := by
  obtain ⟨_, _, _, _, _, _, _, _, _, _, _, _, z⟩ := h
  exact z
/-! statics -/
theorem con_nil {K : PySem.W.Frag} {mg : Str → Option Value} : ∀ x d, ([] : List (Str × D)).lookup x = some d → ∃ u v, mg x = some u ∧ RelV v u ∧ ∀ H α, Rep K H α d v := fun _ _ h => nomatch h
theorem con_cons {K : PySem.W.Frag} {mg : Str → Option Value} {y : Str} {i : Int} {r : List (Str × D)} (h : ∃ t, mg y = some (.int i t)) (hr : ∀ x d, r.lookup x = some d → ∃ u v, mg x = some u ∧ RelV v u ∧ ∀ H α, Rep K H α d v) :
    ∀ x d, ((y, .int i) :: r).lookup x = some d → ∃ u v, mg x = some u ∧ RelV v u ∧ ∀ H α, Rep K H α d v := fun x d e => by
  rw [List.lookup_cons] at e
  cases q : (x == y) with
  | true =>
    have q1 : (x == ((y, D.int i) : Str × D).1) = true := q
    rw [q1] at e
    cases e
    obtain ⟨t, ht⟩ := h
    rw [eq_of_beq q]
    exact ⟨_, .int i, ht, ⟨t, rfl⟩, fun _ _ => rfl⟩
  | false =>
    have q1 : (x == ((y, D.int i) : Str × D).1) = false := q
    rw [q1] at e
    exact hr x d e
theorem catch1 {K : PySem.W.Frag} {mg : Str → Option Value} {y c : Str} {b : Bool} (hy : mg y = some (.ref (He.ga K y))) (hc : mg c = some (.ref (He.ga K c))) (h : PySem.W.exmOne K (.ref (He.ga K c)) (.ref (He.ga K y)) = some b) :
    ∀ X : Cx, X.K = K → X.mg = mg → ∀ x s, [(y, [(c, b)])].lookup x = some s → CatchAt X x s := fun X e1 e2 x s e => by
  rw [List.lookup_cons] at e
  cases q : (x == y) with
  | true =>
    have q1 : (x == ((y, [(c, b)]) : Str × List (Str × Bool)).1) = true := q
    rw [q1] at e
    cases e
    rw [eq_of_beq q]
    refine ⟨_, by rw [e2]; exact hy, fun c' b' h' => ?_⟩
    rw [List.lookup_cons] at h'
    cases q2 : (c' == c) with
    | true =>
      have q3 : (c' == ((c, b) : Str × Bool).1) = true := q2
      rw [q3] at h'
      cases h'
      rw [eq_of_beq q2]
      exact ⟨_, by rw [e2]; exact hc, by rw [e1]; exact h⟩
    | false =>
      have q3 : (c' == ((c, b) : Str × Bool).1) = false := q2
      rw [q3] at h'
      cases h'
  | false =>
    have q1 : (x == ((y, [(c, b)]) : Str × List (Str × Bool)).1) = false := q
    rw [q1] at e
    cases e
theorem kit_of_exm {K : PySem.W.Frag} {t c : Value} (h : PySem.W.exmOne K t c = some true) : PySem.W.kitOne K t c = some true := by
  unfold PySem.W.kitOne
  split
  · rfl
  · unfold PySem.W.exmOne at h
    split at h
    · exact h
    · cases h
theorem isi1 {K : PySem.W.Frag} {mg : Str → Option Value} {y c : Str} (hy : mg y = some (.ref (He.ga K y))) (hc : mg c = some (.ref (He.ga K c))) (h : PySem.W.exmOne K (.ref (He.ga K c)) (.ref (He.ga K y)) = some true) (hx : ExcC K (He.ga K c)) :
    ∀ X : Cx, X.K = K → X.mg = mg → ∀ x s, [(y, [(c, true)])].lookup x = some s → IsiAt X x s := fun X e1 e2 x s e => by
  rw [List.lookup_cons] at e
  cases q : (x == y) with
  | true =>
    have q1 : (x == ((y, [(c, true)]) : Str × List (Str × Bool)).1) = true := q
    rw [q1] at e
    cases e
    rw [eq_of_beq q]
    refine ⟨_, by rw [e2]; exact hy, fun c' b' h' => ?_⟩
    rw [List.lookup_cons] at h'
    cases q2 : (c' == c) with
    | true =>
      have q3 : (c' == ((c, true) : Str × Bool).1) = true := q2
      rw [q3] at h'
      cases h'
      rw [eq_of_beq q2]
      exact ⟨_, by rw [e2]; exact hc, by rw [e1]; exact hx, by rw [e1]; exact kit_of_exm h⟩
    | false =>
      have q3 : (c' == ((c, true) : Str × Bool).1) = false := q2
      rw [q3] at h'
      cases h'
  | false =>
    have q1 : (x == ((y, [(c, true)]) : Str × List (Str × Bool)).1) = false := q
    rw [q1] at e
    cases e
theorem excAt_of {K : PySem.W.Frag} {mg : Str → Option Value} {x : Str} (hm : mg x = some (.ref (He.ga K x))) (h : (He.Fa.exc x).ok K = true) : ∀ X : Cx, X.K = K → X.mg = mg → ExcAt X x := fun X e1 e2 => by
  obtain ⟨a, b, c, d⟩ := He.exc_ok h
  exact ⟨_, by rw [e2]; exact hm, by rw [e1]; exact a, by rw [e1]; exact b, by rw [e1]; exact c, by rw [e1]; exact d⟩
theorem StoreRel.empty {K : PySem.W.Frag} {H : Hp} : StoreRel K H ⟨[], []⟩ [] where
  len := rfl
  nd := .nil
  apart := fun _ h => nomatch h
  hidThere := fun _ h => nomatch h
  ob := fun _ _ _ h => nomatch h
/-- the law's promise -/
def spTrue (K : PySem.W.Frag) : Sp := fun vs H Q _ => ∃ (a : Addr) (ns : List Int), vs = [.ref a] ∧ ns.length ≤ 63 ∧ (∀ z ∈ ns, Builtin.Int.intBits z ≤ 1048576) ∧ SqL K H a (ns.map V.int) ∧ ∀ H', Q (.bl true) H'
theorem law_end {P : Program} {w : World} {K : PySem.W.Frag} {mg : Str → Option Value} {base : Heap} {k : Nat} {f : Addr} {fd : FuncData} {ps : List Str} {F : Fn} (h : FnOk P w K mg base (L2.CX P w) k f fd ps (spOf K mg F)) (har : F.ar = 1)
    (hrun : ∀ ns : List Int, ns.length ≤ 63 → (∀ z ∈ ns, Builtin.Int.intBits z ≤ 1048576) → F.run [.scr ns] [] = .ok (.bl true) []) : FnOk P w K mg base (L2.CX P w) k f fd ps (spTrue K) :=
  h.imp fun vs H Q E q => by
    obtain ⟨a, ns, rfl, hl, hb, hS, hQ⟩ := q
    refine ⟨⟨[], []⟩, [], [.scr ns], StoreRel.empty, ⟨_, [], rfl, ⟨a, rfl, ScrAt.of (by rintro (z | z) <;> cases z) hS⟩, rfl⟩, by rw [har]; rfl, ?_⟩
    rw [hrun ns hl hb]
    intro v H' α' _ _ r
    have r' : v = .bl true := r
    subst r'
    exact hQ H'
end Lite

set_option Elab.async false
set_option linter.all false
set_option maxRecDepth 100000
set_option maxHeartbeats 0
namespace K14
open PySem L2 Lite
def dOf (x : Str) (i : Nat) : He.DefD := ⟨(x, none), x, x, defArgs (top i), defBody (top i), defScope (top i), [], []⟩
def fn : List He.DefD := [dOf "divisor" 5, dOf "lowest" 6, dOf "plus" 7, dOf "is_less" 8, dOf "neat" 10, dOf "table_of" 11, dOf "cleared" 12, dOf "leaving" 13, dOf "numbers_of" 14, dOf "greatest" 15, dOf "solution" 16, dOf "can_hold" 17, dOf "is_number" 21, dOf "is_among" 22, dOf "is_tuple" 23, dOf "is_fraction" 24, dOf "is_order" 25, dOf "are_factors" 26, dOf "is_slider" 27, dOf "is_rule" 28, dOf "is_cell" 29, dOf "is_shaped" 30, dOf "rule_rows" 31, dOf "slider_rules" 32, dOf "all_rules" 33, dOf "panel_rows" 34, dOf "is_good" 35, dOf "sum_of" 36, dOf "keeps_rule" 37, dOf "are_good_positions" 38, dOf "need_panel" 39, dOf "need_panels" 40, dOf "is_positions" 41, dOf "fits" 43, dOf "witness" 45, dOf "broken_rows" 47, dOf "outside_rows" 48, dOf "is_within" 49, dOf "within" 50, dOf "outside" 51, dOf "_law_source" 53, dOf "_law_draw" 54, dOf "_law_of" 55, dOf "_law_factors" 56, dOf "_law_panel" 57, dOf "_law_unit" 58, dOf "_law_sums" 59, dOf "_law_tight" 60, dOf "_law_rows" 61, dOf "_law_two" 62, dOf "_law_three" 63, dOf "_law_is_in" 64, dOf "_law_corners" 65, dOf "_law_is_within" 66, dOf "_law_unlike" 67, dOf "law" 68]
def fa : List He.Fa := [.glo "divisor", .glo "lowest", .glo "plus", .glo "is_less", .glo "neat", .glo "table_of", .glo "cleared", .glo "leaving", .glo "numbers_of", .glo "greatest", .glo "solution", .glo "can_hold", .glo "is_number", .glo "is_among", .glo "is_tuple", .glo "is_fraction", .glo "is_order", .glo "are_factors", .glo "is_slider", .glo "is_rule", .glo "is_cell", .glo "is_shaped", .glo "rule_rows", .glo "slider_rules", .glo "all_rules", .glo "panel_rows", .glo "is_good", .glo "sum_of", .glo "keeps_rule", .glo "are_good_positions", .glo "need_panel", .glo "need_panels", .glo "is_positions", .glo "fits", .glo "witness", .glo "broken_rows", .glo "outside_rows", .glo "is_within", .glo "within", .glo "outside", .glo "_law_source", .glo "_law_draw", .glo "_law_of", .glo "_law_factors", .glo "_law_panel", .glo "_law_unit", .glo "_law_sums", .glo "_law_tight", .glo "_law_rows", .glo "_law_two", .glo "_law_three", .glo "_law_is_in", .glo "_law_corners", .glo "_law_is_within", .glo "_law_unlike", .glo "law", .glo "DragError", .glo "InvalidPanel", .glo "Unlike", .exc "InvalidPanel", .exc "Unlike", .exm "Unlike" "Unlike" true, .exm "Unlike" "DragError" true, .free "len", .free "abs", .free "min", .free "int", .free "sum", .free "all", .free "any", .free "list", .free "tuple", .free "dict", .free "isinstance", .free "range", .free "enumerate", .free "zip", .free "bool", .free "str", .int "MOST_RULES" 3, .int "MOST_CELLS" 2]
def exs : List Str := ["Unlike"]
abbrev R : PySem.W.OpenRow := PySem.W.OpenLaw.row PySem.Challenge.rw_draggedsums_k14_panels_within_others
abbrev hk : PySem.W.Hook := hookX 4 fa fn exs
def ob (s : PySem.W.SharedT) : AlX := obsXG 4 fa fn exs (HandSHeadRun.getT s)
theorem ob_eq (s : PySem.W.SharedT) : ob s = hk.obs s.abs := obsXG_eq (HandSHeadRun.getT_eq s)
def loose0 : List Str := ["DragError", "InvalidPanel", "Unlike", "divisor", "lowest", "plus", "is_less", "neat", "table_of", "cleared", "leaving", "numbers_of", "greatest", "solution", "can_hold", "MOST_RULES", "MOST_CELLS", "is_number", "is_among", "is_tuple", "is_fraction", "is_order", "are_factors", "is_slider", "is_rule", "is_cell", "is_shaped", "rule_rows", "slider_rules", "all_rules"]
def loose1 : List Str := ["panel_rows", "is_good", "sum_of", "keeps_rule", "are_good_positions", "need_panel", "need_panels", "is_positions", "fits", "witness", "broken_rows", "outside_rows", "is_within", "within", "outside", "_law_source", "_law_draw", "_law_of", "_law_factors", "_law_panel", "_law_unit", "_law_sums", "_law_tight", "_law_rows", "_law_two", "_law_three", "_law_is_in", "_law_corners", "_law_is_within", "_law_unlike"]
def loose : List Str := loose0 ++ loose1
theorem run (w : World) : HandSHeadRun.RunEq R (PySem.W.view R.prog [68]) hk ob 3000 loose w := by
  intro os
  kernel_rfl
section
variable {P : Program} {w : World} {K : PySem.W.Frag} {h base : Heap} {mg : Str → Option Value}
theorem stat (X : K.In h) (G : h.Ns mainGlobals mg) (cx : SaysX fa fn exs K) : Stat K mg c0 := by
  have c := cx.d
  exact ⟨con_cons (He.int_ok X G (c.fact 79 rfl)) (con_cons (He.int_ok X G (c.fact 80 rfl)) (con_nil)), List.forall_mem_cons.mpr ⟨He.free_ok X G (c.fact 63 rfl), List.forall_mem_cons.mpr ⟨He.free_ok X G (c.fact 64 rfl), List.forall_mem_cons.mpr ⟨He.free_ok X G (c.fact 65 rfl), List.forall_mem_cons.mpr ⟨He.free_ok X G (c.fact 66 rfl), List.forall_mem_cons.mpr ⟨He.free_ok X G (c.fact 67 rfl), List.forall_mem_cons.mpr ⟨He.free_ok X G (c.fact 68 rfl), List.forall_mem_cons.mpr ⟨He.free_ok X G (c.fact 69 rfl), List.forall_mem_cons.mpr ⟨He.free_ok X G (c.fact 70 rfl), List.forall_mem_cons.mpr ⟨He.free_ok X G (c.fact 71 rfl), List.forall_mem_cons.mpr ⟨He.free_ok X G (c.fact 72 rfl), List.forall_mem_cons.mpr ⟨He.free_ok X G (c.fact 73 rfl), List.forall_mem_cons.mpr ⟨He.free_ok X G (c.fact 74 rfl), List.forall_mem_cons.mpr ⟨He.free_ok X G (c.fact 75 rfl), List.forall_mem_cons.mpr ⟨He.free_ok X G (c.fact 76 rfl), List.forall_mem_cons.mpr ⟨He.free_ok X G (c.fact 77 rfl), List.forall_mem_cons.mpr ⟨He.free_ok X G (c.fact 78 rfl), (fun _ h => nomatch h)⟩⟩⟩⟩⟩⟩⟩⟩⟩⟩⟩⟩⟩⟩⟩⟩, fun Y e1 e2 => List.forall_mem_cons.mpr ⟨excAt_of (He.glo_ok X G (c.fact 57 rfl)) (c.fact 59 rfl) Y e1 e2, List.forall_mem_cons.mpr ⟨excAt_of (He.glo_ok X G (c.fact 58 rfl)) (c.fact 60 rfl) Y e1 e2, (fun _ h => nomatch h)⟩⟩, catch1 (He.glo_ok X G (c.fact 58 rfl)) (He.glo_ok X G (c.fact 58 rfl)) (He.exm_ok (c.fact 61 rfl)), isi1 (He.glo_ok X G (c.fact 56 rfl)) (He.glo_ok X G (c.fact 58 rfl)) (He.exm_ok (c.fact 62 rfl)) (cx.exc 0 rfl)⟩
theorem has_divisor (X : K.In h) (G : h.Ns mainGlobals mg) (cx : SaysX fa fn exs K) : Has P w K mg base 1 "divisor" P_divisor F_divisor :=
  has_frz (c := C_divisor) (c0 := c0) (st := top 5) (ps := P_divisor) (stat X G cx) (cx.d.def_ 0 (d := dOf "divisor" 5) rfl) (He.glo_ok X G (cx.d.fact 0 (f := .glo "divisor") rfl)) (fun _ _ _ _ _ _ us hl => match us, hl with | [_], _ => rfl) S_divisor rfl rfl rfl rfl rfl rfl trivial H_divisor
theorem has_lowest (X : K.In h) (G : h.Ns mainGlobals mg) (cx : SaysX fa fn exs K) : Has P w K mg base 2 "lowest" P_lowest F_lowest :=
  has_frz (c := C_lowest) (c0 := c0) (st := top 6) (ps := P_lowest) (stat X G cx) (cx.d.def_ 1 (d := dOf "lowest" 6) rfl) (He.glo_ok X G (cx.d.fact 1 (f := .glo "lowest") rfl)) (fun _ _ _ _ _ _ us hl => match us, hl with | [_, _], _ => rfl) S_lowest rfl rfl rfl rfl rfl rfl (⟨⟨1, P_divisor, by decide, has_divisor X G cx⟩, trivial⟩) H_lowest
theorem has_plus (X : K.In h) (G : h.Ns mainGlobals mg) (cx : SaysX fa fn exs K) : Has P w K mg base 3 "plus" P_plus F_plus :=
  has_frz (c := C_plus) (c0 := c0) (st := top 7) (ps := P_plus) (stat X G cx) (cx.d.def_ 2 (d := dOf "plus" 7) rfl) (He.glo_ok X G (cx.d.fact 2 (f := .glo "plus") rfl)) (fun _ _ _ _ _ _ us hl => match us, hl with | [_, _, _], _ => rfl) S_plus rfl rfl rfl rfl rfl rfl (⟨⟨2, P_lowest, by decide, has_lowest X G cx⟩, trivial⟩) H_plus
theorem has_is_less (X : K.In h) (G : h.Ns mainGlobals mg) (cx : SaysX fa fn exs K) : Has P w K mg base 1 "is_less" P_is_less F_is_less :=
  has_frz (c := C_is_less) (c0 := c0) (st := top 8) (ps := P_is_less) (stat X G cx) (cx.d.def_ 3 (d := dOf "is_less" 8) rfl) (He.glo_ok X G (cx.d.fact 3 (f := .glo "is_less") rfl)) (fun _ _ _ _ _ _ us hl => match us, hl with | [_, _], _ => rfl) S_is_less rfl rfl rfl rfl rfl rfl trivial H_is_less
theorem has_neat (X : K.In h) (G : h.Ns mainGlobals mg) (cx : SaysX fa fn exs K) : Has P w K mg base 2 "neat" P_neat F_neat :=
  has_frz (c := C_neat) (c0 := c0) (st := top 10) (ps := P_neat) (stat X G cx) (cx.d.def_ 4 (d := dOf "neat" 10) rfl) (He.glo_ok X G (cx.d.fact 4 (f := .glo "neat") rfl)) (fun _ _ _ _ _ _ us hl => match us, hl with | [_], _ => rfl) S_neat rfl rfl rfl rfl rfl rfl (⟨⟨1, P_divisor, by decide, has_divisor X G cx⟩, trivial⟩) H_neat
theorem has_table_of (X : K.In h) (G : h.Ns mainGlobals mg) (cx : SaysX fa fn exs K) : Has P w K mg base 1 "table_of" P_table_of F_table_of :=
  has_frz (c := C_table_of) (c0 := c0) (st := top 11) (ps := P_table_of) (stat X G cx) (cx.d.def_ 5 (d := dOf "table_of" 11) rfl) (He.glo_ok X G (cx.d.fact 5 (f := .glo "table_of") rfl)) (fun _ _ _ _ _ _ us hl => match us, hl with | [_], _ => rfl) S_table_of rfl rfl rfl rfl rfl rfl trivial H_table_of
theorem has_cleared (X : K.In h) (G : h.Ns mainGlobals mg) (cx : SaysX fa fn exs K) : Has P w K mg base 3 "cleared" P_cleared F_cleared :=
  has_frz (c := C_cleared) (c0 := c0) (st := top 12) (ps := P_cleared) (stat X G cx) (cx.d.def_ 6 (d := dOf "cleared" 12) rfl) (He.glo_ok X G (cx.d.fact 6 (f := .glo "cleared") rfl)) (fun _ _ _ _ _ _ us hl => match us, hl with | [_, _, _], _ => rfl) S_cleared rfl rfl rfl rfl rfl rfl (⟨⟨2, P_neat, by decide, has_neat X G cx⟩, trivial⟩) H_cleared
theorem has_leaving (X : K.In h) (G : h.Ns mainGlobals mg) (cx : SaysX fa fn exs K) : Has P w K mg base 1 "leaving" P_leaving F_leaving :=
  has_frz (c := C_leaving) (c0 := c0) (st := top 13) (ps := P_leaving) (stat X G cx) (cx.d.def_ 7 (d := dOf "leaving" 13) rfl) (He.glo_ok X G (cx.d.fact 7 (f := .glo "leaving") rfl)) (fun _ _ _ _ _ _ us hl => match us, hl with | [_, _, _], _ => rfl) S_leaving rfl rfl rfl rfl rfl rfl trivial H_leaving
theorem has_numbers_of (X : K.In h) (G : h.Ns mainGlobals mg) (cx : SaysX fa fn exs K) : Has P w K mg base 2 "numbers_of" P_numbers_of F_numbers_of :=
  has_frz (c := C_numbers_of) (c0 := c0) (st := top 14) (ps := P_numbers_of) (stat X G cx) (cx.d.def_ 8 (d := dOf "numbers_of" 14) rfl) (He.glo_ok X G (cx.d.fact 8 (f := .glo "numbers_of") rfl)) (fun _ _ _ _ _ _ us hl => match us, hl with | [_, _, _], _ => rfl) S_numbers_of rfl rfl rfl rfl rfl rfl (⟨⟨1, P_divisor, by decide, has_divisor X G cx⟩, trivial⟩) H_numbers_of
theorem has_greatest (X : K.In h) (G : h.Ns mainGlobals mg) (cx : SaysX fa fn exs K) : Has P w K mg base 4 "greatest" P_greatest F_greatest :=
  has_frz (c := C_greatest) (c0 := c0) (st := top 15) (ps := P_greatest) (stat X G cx) (cx.d.def_ 9 (d := dOf "greatest" 15) rfl) (He.glo_ok X G (cx.d.fact 9 (f := .glo "greatest") rfl)) (fun _ _ _ _ _ _ us hl => match us, hl with | [_, _, _], _ => rfl) S_greatest rfl rfl rfl rfl rfl rfl (⟨⟨1, P_table_of, by decide, has_table_of X G cx⟩, ⟨⟨2, P_numbers_of, by decide, has_numbers_of X G cx⟩, ⟨⟨1, P_leaving, by decide, has_leaving X G cx⟩, ⟨⟨3, P_cleared, by decide, has_cleared X G cx⟩, trivial⟩⟩⟩⟩) H_greatest
theorem has_solution (X : K.In h) (G : h.Ns mainGlobals mg) (cx : SaysX fa fn exs K) : Has P w K mg base 5 "solution" P_solution F_solution :=
  has_frz (c := C_solution) (c0 := c0) (st := top 16) (ps := P_solution) (stat X G cx) (cx.d.def_ 10 (d := dOf "solution" 16) rfl) (He.glo_ok X G (cx.d.fact 10 (f := .glo "solution") rfl)) (fun _ _ _ _ _ _ us hl => match us, hl with | [_, _], _ => rfl) S_solution rfl rfl rfl rfl rfl rfl (⟨⟨4, P_greatest, by decide, has_greatest X G cx⟩, ⟨⟨2, P_lowest, by decide, has_lowest X G cx⟩, trivial⟩⟩) H_solution
theorem has_can_hold (X : K.In h) (G : h.Ns mainGlobals mg) (cx : SaysX fa fn exs K) : Has P w K mg base 6 "can_hold" P_can_hold F_can_hold :=
  has_frz (c := C_can_hold) (c0 := c0) (st := top 17) (ps := P_can_hold) (stat X G cx) (cx.d.def_ 11 (d := dOf "can_hold" 17) rfl) (He.glo_ok X G (cx.d.fact 11 (f := .glo "can_hold") rfl)) (fun _ _ _ _ _ _ us hl => match us, hl with | [_, _], _ => rfl) S_can_hold rfl rfl rfl rfl rfl rfl (⟨⟨5, P_solution, by decide, has_solution X G cx⟩, trivial⟩) H_can_hold
theorem has_is_number (X : K.In h) (G : h.Ns mainGlobals mg) (cx : SaysX fa fn exs K) : Has P w K mg base 1 "is_number" P_is_number F_is_number :=
  has_frz (c := C_is_number) (c0 := c0) (st := top 21) (ps := P_is_number) (stat X G cx) (cx.d.def_ 12 (d := dOf "is_number" 21) rfl) (He.glo_ok X G (cx.d.fact 12 (f := .glo "is_number") rfl)) (fun _ _ _ _ _ _ us hl => match us, hl with | [_, _, _], _ => rfl) S_is_number rfl rfl rfl rfl rfl rfl trivial H_is_number
theorem has_is_among (X : K.In h) (G : h.Ns mainGlobals mg) (cx : SaysX fa fn exs K) : Has P w K mg base 1 "is_among" P_is_among F_is_among :=
  has_frz (c := C_is_among) (c0 := c0) (st := top 22) (ps := P_is_among) (stat X G cx) (cx.d.def_ 13 (d := dOf "is_among" 22) rfl) (He.glo_ok X G (cx.d.fact 13 (f := .glo "is_among") rfl)) (fun _ _ _ _ _ _ us hl => match us, hl with | [_, _], _ => rfl) S_is_among rfl rfl rfl rfl rfl rfl trivial H_is_among
theorem has_is_tuple (X : K.In h) (G : h.Ns mainGlobals mg) (cx : SaysX fa fn exs K) : Has P w K mg base 1 "is_tuple" P_is_tuple F_is_tuple :=
  has_frz (c := C_is_tuple) (c0 := c0) (st := top 23) (ps := P_is_tuple) (stat X G cx) (cx.d.def_ 14 (d := dOf "is_tuple" 23) rfl) (He.glo_ok X G (cx.d.fact 14 (f := .glo "is_tuple") rfl)) (fun _ _ _ _ _ _ us hl => match us, hl with | [_, _, _], _ => rfl) S_is_tuple rfl rfl rfl rfl rfl rfl trivial H_is_tuple
theorem has_is_fraction (X : K.In h) (G : h.Ns mainGlobals mg) (cx : SaysX fa fn exs K) : Has P w K mg base 2 "is_fraction" P_is_fraction F_is_fraction :=
  has_frz (c := C_is_fraction) (c0 := c0) (st := top 24) (ps := P_is_fraction) (stat X G cx) (cx.d.def_ 15 (d := dOf "is_fraction" 24) rfl) (He.glo_ok X G (cx.d.fact 15 (f := .glo "is_fraction") rfl)) (fun _ _ _ _ _ _ us hl => match us, hl with | [_], _ => rfl) S_is_fraction rfl rfl rfl rfl rfl rfl (⟨⟨1, P_is_tuple, by decide, has_is_tuple X G cx⟩, ⟨⟨1, P_divisor, by decide, has_divisor X G cx⟩, trivial⟩⟩) H_is_fraction
theorem has_is_order (X : K.In h) (G : h.Ns mainGlobals mg) (cx : SaysX fa fn exs K) : Has P w K mg base 2 "is_order" P_is_order F_is_order :=
  has_frz (c := C_is_order) (c0 := c0) (st := top 25) (ps := P_is_order) (stat X G cx) (cx.d.def_ 16 (d := dOf "is_order" 25) rfl) (He.glo_ok X G (cx.d.fact 16 (f := .glo "is_order") rfl)) (fun _ _ _ _ _ _ us hl => match us, hl with | [_, _], _ => rfl) S_is_order rfl rfl rfl rfl rfl rfl (⟨⟨1, P_is_tuple, by decide, has_is_tuple X G cx⟩, ⟨⟨1, P_is_number, by decide, has_is_number X G cx⟩, trivial⟩⟩) H_is_order
theorem has_are_factors (X : K.In h) (G : h.Ns mainGlobals mg) (cx : SaysX fa fn exs K) : Has P w K mg base 2 "are_factors" P_are_factors F_are_factors :=
  has_frz (c := C_are_factors) (c0 := c0) (st := top 26) (ps := P_are_factors) (stat X G cx) (cx.d.def_ 17 (d := dOf "are_factors" 26) rfl) (He.glo_ok X G (cx.d.fact 17 (f := .glo "are_factors") rfl)) (fun _ _ _ _ _ _ us hl => match us, hl with | [_, _], _ => rfl) S_are_factors rfl rfl rfl rfl rfl rfl (⟨⟨1, P_is_tuple, by decide, has_is_tuple X G cx⟩, ⟨⟨1, P_is_number, by decide, has_is_number X G cx⟩, trivial⟩⟩) H_are_factors
theorem has_is_slider (X : K.In h) (G : h.Ns mainGlobals mg) (cx : SaysX fa fn exs K) : Has P w K mg base 2 "is_slider" P_is_slider F_is_slider :=
  has_frz (c := C_is_slider) (c0 := c0) (st := top 27) (ps := P_is_slider) (stat X G cx) (cx.d.def_ 18 (d := dOf "is_slider" 27) rfl) (He.glo_ok X G (cx.d.fact 18 (f := .glo "is_slider") rfl)) (fun _ _ _ _ _ _ us hl => match us, hl with | [_], _ => rfl) S_is_slider rfl rfl rfl rfl rfl rfl (⟨⟨1, P_is_tuple, by decide, has_is_tuple X G cx⟩, ⟨⟨1, P_is_number, by decide, has_is_number X G cx⟩, trivial⟩⟩) H_is_slider
theorem has_is_rule (X : K.In h) (G : h.Ns mainGlobals mg) (cx : SaysX fa fn exs K) : Has P w K mg base 3 "is_rule" P_is_rule F_is_rule :=
  has_frz (c := C_is_rule) (c0 := c0) (st := top 28) (ps := P_is_rule) (stat X G cx) (cx.d.def_ 19 (d := dOf "is_rule" 28) rfl) (He.glo_ok X G (cx.d.fact 19 (f := .glo "is_rule") rfl)) (fun _ _ _ _ _ _ us hl => match us, hl with | [_, _], _ => rfl) S_is_rule rfl rfl rfl rfl rfl rfl (⟨⟨1, P_is_tuple, by decide, has_is_tuple X G cx⟩, ⟨⟨2, P_are_factors, by decide, has_are_factors X G cx⟩, ⟨⟨1, P_is_among, by decide, has_is_among X G cx⟩, ⟨⟨1, P_is_number, by decide, has_is_number X G cx⟩, trivial⟩⟩⟩⟩) H_is_rule
theorem has_is_cell (X : K.In h) (G : h.Ns mainGlobals mg) (cx : SaysX fa fn exs K) : Has P w K mg base 3 "is_cell" P_is_cell F_is_cell :=
  has_frz (c := C_is_cell) (c0 := c0) (st := top 29) (ps := P_is_cell) (stat X G cx) (cx.d.def_ 20 (d := dOf "is_cell" 29) rfl) (He.glo_ok X G (cx.d.fact 20 (f := .glo "is_cell") rfl)) (fun _ _ _ _ _ _ us hl => match us, hl with | [_, _, _], _ => rfl) S_is_cell rfl rfl rfl rfl rfl rfl (⟨⟨1, P_is_tuple, by decide, has_is_tuple X G cx⟩, ⟨⟨2, P_are_factors, by decide, has_are_factors X G cx⟩, ⟨⟨1, P_is_number, by decide, has_is_number X G cx⟩, trivial⟩⟩⟩) H_is_cell
theorem has_is_shaped (X : K.In h) (G : h.Ns mainGlobals mg) (cx : SaysX fa fn exs K) : Has P w K mg base 4 "is_shaped" P_is_shaped F_is_shaped :=
  has_frz (c := C_is_shaped) (c0 := c0) (st := top 30) (ps := P_is_shaped) (stat X G cx) (cx.d.def_ 21 (d := dOf "is_shaped" 30) rfl) (He.glo_ok X G (cx.d.fact 21 (f := .glo "is_shaped") rfl)) (fun _ _ _ _ _ _ us hl => match us, hl with | [_], _ => rfl) S_is_shaped rfl rfl rfl rfl rfl rfl (⟨⟨1, P_is_tuple, by decide, has_is_tuple X G cx⟩, ⟨⟨2, P_is_slider, by decide, has_is_slider X G cx⟩, ⟨⟨3, P_is_rule, by decide, has_is_rule X G cx⟩, ⟨⟨2, P_is_order, by decide, has_is_order X G cx⟩, ⟨⟨3, P_is_cell, by decide, has_is_cell X G cx⟩, trivial⟩⟩⟩⟩⟩) H_is_shaped
theorem has_rule_rows (X : K.In h) (G : h.Ns mainGlobals mg) (cx : SaysX fa fn exs K) : Has P w K mg base 1 "rule_rows" P_rule_rows F_rule_rows :=
  has_frz (c := C_rule_rows) (c0 := c0) (st := top 31) (ps := P_rule_rows) (stat X G cx) (cx.d.def_ 22 (d := dOf "rule_rows" 31) rfl) (He.glo_ok X G (cx.d.fact 22 (f := .glo "rule_rows") rfl)) (fun _ _ _ _ _ _ us hl => match us, hl with | [_, _, _], _ => rfl) S_rule_rows rfl rfl rfl rfl rfl rfl trivial H_rule_rows
theorem has_slider_rules (X : K.In h) (G : h.Ns mainGlobals mg) (cx : SaysX fa fn exs K) : Has P w K mg base 1 "slider_rules" P_slider_rules F_slider_rules :=
  has_frz (c := C_slider_rules) (c0 := c0) (st := top 32) (ps := P_slider_rules) (stat X G cx) (cx.d.def_ 23 (d := dOf "slider_rules" 32) rfl) (He.glo_ok X G (cx.d.fact 23 (f := .glo "slider_rules") rfl)) (fun _ _ _ _ _ _ us hl => match us, hl with | [_], _ => rfl) S_slider_rules rfl rfl rfl rfl rfl rfl trivial H_slider_rules
theorem has_all_rules (X : K.In h) (G : h.Ns mainGlobals mg) (cx : SaysX fa fn exs K) : Has P w K mg base 2 "all_rules" P_all_rules F_all_rules :=
  has_frz (c := C_all_rules) (c0 := c0) (st := top 33) (ps := P_all_rules) (stat X G cx) (cx.d.def_ 24 (d := dOf "all_rules" 33) rfl) (He.glo_ok X G (cx.d.fact 24 (f := .glo "all_rules") rfl)) (fun _ _ _ _ _ _ us hl => match us, hl with | [_], _ => rfl) S_all_rules rfl rfl rfl rfl rfl rfl (⟨⟨1, P_slider_rules, by decide, has_slider_rules X G cx⟩, trivial⟩) H_all_rules
theorem has_panel_rows (X : K.In h) (G : h.Ns mainGlobals mg) (cx : SaysX fa fn exs K) : Has P w K mg base 3 "panel_rows" P_panel_rows F_panel_rows :=
  has_frz (c := C_panel_rows) (c0 := c0) (st := top 34) (ps := P_panel_rows) (stat X G cx) (cx.d.def_ 25 (d := dOf "panel_rows" 34) rfl) (He.glo_ok X G (cx.d.fact 25 (f := .glo "panel_rows") rfl)) (fun _ _ _ _ _ _ us hl => match us, hl with | [_, _, _], _ => rfl) S_panel_rows rfl rfl rfl rfl rfl rfl (⟨⟨2, P_all_rules, by decide, has_all_rules X G cx⟩, ⟨⟨1, P_rule_rows, by decide, has_rule_rows X G cx⟩, trivial⟩⟩) H_panel_rows
theorem has_is_good (X : K.In h) (G : h.Ns mainGlobals mg) (cx : SaysX fa fn exs K) : Has P w K mg base 7 "is_good" P_is_good F_is_good :=
  has_frz (c := C_is_good) (c0 := c0) (st := top 35) (ps := P_is_good) (stat X G cx) (cx.d.def_ 26 (d := dOf "is_good" 35) rfl) (He.glo_ok X G (cx.d.fact 26 (f := .glo "is_good") rfl)) (fun _ _ _ _ _ _ us hl => match us, hl with | [_], _ => rfl) S_is_good rfl rfl rfl rfl rfl rfl (⟨⟨4, P_is_shaped, by decide, has_is_shaped X G cx⟩, ⟨⟨6, P_can_hold, by decide, has_can_hold X G cx⟩, ⟨⟨3, P_panel_rows, by decide, has_panel_rows X G cx⟩, trivial⟩⟩⟩) H_is_good
theorem has_sum_of (X : K.In h) (G : h.Ns mainGlobals mg) (cx : SaysX fa fn exs K) : Has P w K mg base 4 "sum_of" P_sum_of F_sum_of :=
  has_frz (c := C_sum_of) (c0 := c0) (st := top 36) (ps := P_sum_of) (stat X G cx) (cx.d.def_ 27 (d := dOf "sum_of" 36) rfl) (He.glo_ok X G (cx.d.fact 27 (f := .glo "sum_of") rfl)) (fun _ _ _ _ _ _ us hl => match us, hl with | [_, _], _ => rfl) S_sum_of rfl rfl rfl rfl rfl rfl (⟨⟨3, P_plus, by decide, has_plus X G cx⟩, trivial⟩) H_sum_of
theorem has_keeps_rule (X : K.In h) (G : h.Ns mainGlobals mg) (cx : SaysX fa fn exs K) : Has P w K mg base 5 "keeps_rule" P_keeps_rule F_keeps_rule :=
  has_frz (c := C_keeps_rule) (c0 := c0) (st := top 37) (ps := P_keeps_rule) (stat X G cx) (cx.d.def_ 28 (d := dOf "keeps_rule" 37) rfl) (He.glo_ok X G (cx.d.fact 28 (f := .glo "keeps_rule") rfl)) (fun _ _ _ _ _ _ us hl => match us, hl with | [_, _], _ => rfl) S_keeps_rule rfl rfl rfl rfl rfl rfl (⟨⟨4, P_sum_of, by decide, has_sum_of X G cx⟩, ⟨⟨1, P_is_less, by decide, has_is_less X G cx⟩, trivial⟩⟩) H_keeps_rule
theorem has_are_good_positions (X : K.In h) (G : h.Ns mainGlobals mg) (cx : SaysX fa fn exs K) : Has P w K mg base 6 "are_good_positions" P_are_good_positions F_are_good_positions :=
  has_frz (c := C_are_good_positions) (c0 := c0) (st := top 38) (ps := P_are_good_positions) (stat X G cx) (cx.d.def_ 29 (d := dOf "are_good_positions" 38) rfl) (He.glo_ok X G (cx.d.fact 29 (f := .glo "are_good_positions") rfl)) (fun _ _ _ _ _ _ us hl => match us, hl with | [_, _], _ => rfl) S_are_good_positions rfl rfl rfl rfl rfl rfl (⟨⟨1, P_is_tuple, by decide, has_is_tuple X G cx⟩, ⟨⟨2, P_is_fraction, by decide, has_is_fraction X G cx⟩, ⟨⟨2, P_all_rules, by decide, has_all_rules X G cx⟩, ⟨⟨5, P_keeps_rule, by decide, has_keeps_rule X G cx⟩, trivial⟩⟩⟩⟩) H_are_good_positions
theorem has_need_panel (X : K.In h) (G : h.Ns mainGlobals mg) (cx : SaysX fa fn exs K) : Has P w K mg base 8 "need_panel" P_need_panel F_need_panel :=
  has_frz (c := C_need_panel) (c0 := c0) (st := top 39) (ps := P_need_panel) (stat X G cx) (cx.d.def_ 30 (d := dOf "need_panel" 39) rfl) (He.glo_ok X G (cx.d.fact 30 (f := .glo "need_panel") rfl)) (fun _ _ _ _ _ _ us hl => match us, hl with | [_], _ => rfl) S_need_panel rfl rfl rfl rfl rfl rfl (⟨⟨7, P_is_good, by decide, has_is_good X G cx⟩, trivial⟩) H_need_panel
theorem has_need_panels (X : K.In h) (G : h.Ns mainGlobals mg) (cx : SaysX fa fn exs K) : Has P w K mg base 9 "need_panels" P_need_panels F_need_panels :=
  has_frz (c := C_need_panels) (c0 := c0) (st := top 40) (ps := P_need_panels) (stat X G cx) (cx.d.def_ 31 (d := dOf "need_panels" 40) rfl) (He.glo_ok X G (cx.d.fact 31 (f := .glo "need_panels") rfl)) (fun _ _ _ _ _ _ us hl => match us, hl with | [_, _], _ => rfl) S_need_panels rfl rfl rfl rfl rfl rfl (⟨⟨8, P_need_panel, by decide, has_need_panel X G cx⟩, trivial⟩) H_need_panels
theorem has_is_positions (X : K.In h) (G : h.Ns mainGlobals mg) (cx : SaysX fa fn exs K) : Has P w K mg base 9 "is_positions" P_is_positions F_is_positions :=
  has_frz (c := C_is_positions) (c0 := c0) (st := top 41) (ps := P_is_positions) (stat X G cx) (cx.d.def_ 32 (d := dOf "is_positions" 41) rfl) (He.glo_ok X G (cx.d.fact 32 (f := .glo "is_positions") rfl)) (fun _ _ _ _ _ _ us hl => match us, hl with | [_, _], _ => rfl) S_is_positions rfl rfl rfl rfl rfl rfl (⟨⟨8, P_need_panel, by decide, has_need_panel X G cx⟩, ⟨⟨6, P_are_good_positions, by decide, has_are_good_positions X G cx⟩, trivial⟩⟩) H_is_positions
theorem has_fits (X : K.In h) (G : h.Ns mainGlobals mg) (cx : SaysX fa fn exs K) : Has P w K mg base 7 "fits" P_fits F_fits :=
  has_frz (c := C_fits) (c0 := c0) (st := top 43) (ps := P_fits) (stat X G cx) (cx.d.def_ 33 (d := dOf "fits" 43) rfl) (He.glo_ok X G (cx.d.fact 33 (f := .glo "fits") rfl)) (fun _ _ _ _ _ _ us hl => match us, hl with | [_, _], _ => rfl) S_fits rfl rfl rfl rfl rfl rfl (⟨⟨6, P_can_hold, by decide, has_can_hold X G cx⟩, trivial⟩) H_fits
theorem has_witness (X : K.In h) (G : h.Ns mainGlobals mg) (cx : SaysX fa fn exs K) : Has P w K mg base 6 "witness" P_witness F_witness :=
  has_frz (c := C_witness) (c0 := c0) (st := top 45) (ps := P_witness) (stat X G cx) (cx.d.def_ 34 (d := dOf "witness" 45) rfl) (He.glo_ok X G (cx.d.fact 34 (f := .glo "witness") rfl)) (fun _ _ _ _ _ _ us hl => match us, hl with | [_, _], _ => rfl) S_witness rfl rfl rfl rfl rfl rfl (⟨⟨5, P_solution, by decide, has_solution X G cx⟩, trivial⟩) H_witness
theorem has_broken_rows (X : K.In h) (G : h.Ns mainGlobals mg) (cx : SaysX fa fn exs K) : Has P w K mg base 8 "broken_rows" P_broken_rows F_broken_rows :=
  has_frz (c := C_broken_rows) (c0 := c0) (st := top 47) (ps := P_broken_rows) (stat X G cx) (cx.d.def_ 35 (d := dOf "broken_rows" 47) rfl) (He.glo_ok X G (cx.d.fact 35 (f := .glo "broken_rows") rfl)) (fun _ _ _ _ _ _ us hl => match us, hl with | [_, _, _], _ => rfl) S_broken_rows rfl rfl rfl rfl rfl rfl (⟨⟨1, P_rule_rows, by decide, has_rule_rows X G cx⟩, ⟨⟨7, P_fits, by decide, has_fits X G cx⟩, trivial⟩⟩) H_broken_rows
theorem has_outside_rows (X : K.In h) (G : h.Ns mainGlobals mg) (cx : SaysX fa fn exs K) : Has P w K mg base 9 "outside_rows" P_outside_rows F_outside_rows :=
  has_frz (c := C_outside_rows) (c0 := c0) (st := top 48) (ps := P_outside_rows) (stat X G cx) (cx.d.def_ 36 (d := dOf "outside_rows" 48) rfl) (He.glo_ok X G (cx.d.fact 36 (f := .glo "outside_rows") rfl)) (fun _ _ _ _ _ _ us hl => match us, hl with | [_, _], _ => rfl) S_outside_rows rfl rfl rfl rfl rfl rfl (⟨⟨3, P_panel_rows, by decide, has_panel_rows X G cx⟩, ⟨⟨2, P_all_rules, by decide, has_all_rules X G cx⟩, ⟨⟨8, P_broken_rows, by decide, has_broken_rows X G cx⟩, trivial⟩⟩⟩) H_outside_rows
theorem has_is_within (X : K.In h) (G : h.Ns mainGlobals mg) (cx : SaysX fa fn exs K) : Has P w K mg base 10 "is_within" P_is_within F_is_within :=
  has_frz (c := C_is_within) (c0 := c0) (st := top 49) (ps := P_is_within) (stat X G cx) (cx.d.def_ 37 (d := dOf "is_within" 49) rfl) (He.glo_ok X G (cx.d.fact 37 (f := .glo "is_within") rfl)) (fun _ _ _ _ _ _ us hl => match us, hl with | [_, _], _ => rfl) S_is_within rfl rfl rfl rfl rfl rfl (⟨⟨9, P_outside_rows, by decide, has_outside_rows X G cx⟩, trivial⟩) H_is_within
theorem has_within (X : K.In h) (G : h.Ns mainGlobals mg) (cx : SaysX fa fn exs K) : Has P w K mg base 11 "within" P_within F_within :=
  has_frz (c := C_within) (c0 := c0) (st := top 50) (ps := P_within) (stat X G cx) (cx.d.def_ 38 (d := dOf "within" 50) rfl) (He.glo_ok X G (cx.d.fact 38 (f := .glo "within") rfl)) (fun _ _ _ _ _ _ us hl => match us, hl with | [_, _], _ => rfl) S_within rfl rfl rfl rfl rfl rfl (⟨⟨9, P_need_panels, by decide, has_need_panels X G cx⟩, ⟨⟨10, P_is_within, by decide, has_is_within X G cx⟩, trivial⟩⟩) H_within
theorem has_outside (X : K.In h) (G : h.Ns mainGlobals mg) (cx : SaysX fa fn exs K) : Has P w K mg base 10 "outside" P_outside F_outside :=
  has_frz (c := C_outside) (c0 := c0) (st := top 51) (ps := P_outside) (stat X G cx) (cx.d.def_ 39 (d := dOf "outside" 51) rfl) (He.glo_ok X G (cx.d.fact 39 (f := .glo "outside") rfl)) (fun _ _ _ _ _ _ us hl => match us, hl with | [_, _], _ => rfl) S_outside rfl rfl rfl rfl rfl rfl (⟨⟨9, P_need_panels, by decide, has_need_panels X G cx⟩, ⟨⟨9, P_outside_rows, by decide, has_outside_rows X G cx⟩, ⟨⟨6, P_witness, by decide, has_witness X G cx⟩, trivial⟩⟩⟩) H_outside
theorem has__law_source (X : K.In h) (G : h.Ns mainGlobals mg) (cx : SaysX fa fn exs K) : Has P w K mg base 1 "_law_source" P__law_source F__law_source :=
  has_mut (c := C__law_source) (c0 := c0) (st := top 53) (ps := P__law_source) (stat X G cx) (cx.d.def_ 40 (d := dOf "_law_source" 53) rfl) (He.glo_ok X G (cx.d.fact 40 (f := .glo "_law_source") rfl)) (fun _ _ _ _ _ _ us hl => match us, hl with | [_, _], _ => rfl) S__law_source rfl rfl rfl rfl rfl rfl trivial H__law_source
theorem has__law_draw (X : K.In h) (G : h.Ns mainGlobals mg) (cx : SaysX fa fn exs K) : Has P w K mg base 1 "_law_draw" P__law_draw F__law_draw :=
  has_frz (c := C__law_draw) (c0 := c0) (st := top 54) (ps := P__law_draw) (stat X G cx) (cx.d.def_ 41 (d := dOf "_law_draw" 54) rfl) (He.glo_ok X G (cx.d.fact 41 (f := .glo "_law_draw") rfl)) (fun _ _ _ _ _ _ us hl => match us, hl with | [_, _], _ => rfl) S__law_draw rfl rfl rfl rfl rfl rfl trivial H__law_draw
theorem has__law_of (X : K.In h) (G : h.Ns mainGlobals mg) (cx : SaysX fa fn exs K) : Has P w K mg base 2 "_law_of" P__law_of F__law_of :=
  has_frz (c := C__law_of) (c0 := c0) (st := top 55) (ps := P__law_of) (stat X G cx) (cx.d.def_ 42 (d := dOf "_law_of" 55) rfl) (He.glo_ok X G (cx.d.fact 42 (f := .glo "_law_of") rfl)) (fun _ _ _ _ _ _ us hl => match us, hl with | [_, _], _ => rfl) S__law_of rfl rfl rfl rfl rfl rfl (⟨⟨1, P__law_draw, by decide, has__law_draw X G cx⟩, trivial⟩) H__law_of
theorem has__law_factors (X : K.In h) (G : h.Ns mainGlobals mg) (cx : SaysX fa fn exs K) : Has P w K mg base 3 "_law_factors" P__law_factors F__law_factors :=
  has_frz (c := C__law_factors) (c0 := c0) (st := top 56) (ps := P__law_factors) (stat X G cx) (cx.d.def_ 43 (d := dOf "_law_factors" 56) rfl) (He.glo_ok X G (cx.d.fact 43 (f := .glo "_law_factors") rfl)) (fun _ _ _ _ _ _ us hl => match us, hl with | [_, _], _ => rfl) S__law_factors rfl rfl rfl rfl rfl rfl (⟨⟨2, P__law_of, by decide, has__law_of X G cx⟩, trivial⟩) H__law_factors
theorem has__law_panel (X : K.In h) (G : h.Ns mainGlobals mg) (cx : SaysX fa fn exs K) : Has P w K mg base 4 "_law_panel" P__law_panel F__law_panel :=
  has_frz (c := C__law_panel) (c0 := c0) (st := top 57) (ps := P__law_panel) (stat X G cx) (cx.d.def_ 44 (d := dOf "_law_panel" 57) rfl) (He.glo_ok X G (cx.d.fact 44 (f := .glo "_law_panel") rfl)) (fun _ _ _ _ _ _ us hl => match us, hl with | [_, _, _], _ => rfl) S__law_panel rfl rfl rfl rfl rfl rfl (⟨⟨2, P__law_of, by decide, has__law_of X G cx⟩, ⟨⟨1, P__law_draw, by decide, has__law_draw X G cx⟩, ⟨⟨3, P__law_factors, by decide, has__law_factors X G cx⟩, trivial⟩⟩⟩) H__law_panel
theorem has__law_unit (X : K.In h) (G : h.Ns mainGlobals mg) (cx : SaysX fa fn exs K) : Has P w K mg base 1 "_law_unit" P__law_unit F__law_unit :=
  has_frz (c := C__law_unit) (c0 := c0) (st := top 58) (ps := P__law_unit) (stat X G cx) (cx.d.def_ 45 (d := dOf "_law_unit" 58) rfl) (He.glo_ok X G (cx.d.fact 45 (f := .glo "_law_unit") rfl)) (fun _ _ _ _ _ _ us hl => match us, hl with | [_, _], _ => rfl) S__law_unit rfl rfl rfl rfl rfl rfl trivial H__law_unit
theorem has__law_sums (X : K.In h) (G : h.Ns mainGlobals mg) (cx : SaysX fa fn exs K) : Has P w K mg base 2 "_law_sums" P__law_sums F__law_sums :=
  has_frz (c := C__law_sums) (c0 := c0) (st := top 59) (ps := P__law_sums) (stat X G cx) (cx.d.def_ 46 (d := dOf "_law_sums" 59) rfl) (He.glo_ok X G (cx.d.fact 46 (f := .glo "_law_sums") rfl)) (fun _ _ _ _ _ _ us hl => match us, hl with | [_], _ => rfl) S__law_sums rfl rfl rfl rfl rfl rfl (⟨⟨1, P__law_unit, by decide, has__law_unit X G cx⟩, trivial⟩) H__law_sums
theorem has__law_tight (X : K.In h) (G : h.Ns mainGlobals mg) (cx : SaysX fa fn exs K) : Has P w K mg base 1 "_law_tight" P__law_tight F__law_tight :=
  has_frz (c := C__law_tight) (c0 := c0) (st := top 60) (ps := P__law_tight) (stat X G cx) (cx.d.def_ 47 (d := dOf "_law_tight" 60) rfl) (He.glo_ok X G (cx.d.fact 47 (f := .glo "_law_tight") rfl)) (fun _ _ _ _ _ _ us hl => match us, hl with | [_, _], _ => rfl) S__law_tight rfl rfl rfl rfl rfl rfl trivial H__law_tight
theorem has__law_rows (X : K.In h) (G : h.Ns mainGlobals mg) (cx : SaysX fa fn exs K) : Has P w K mg base 3 "_law_rows" P__law_rows F__law_rows :=
  has_frz (c := C__law_rows) (c0 := c0) (st := top 61) (ps := P__law_rows) (stat X G cx) (cx.d.def_ 48 (d := dOf "_law_rows" 61) rfl) (He.glo_ok X G (cx.d.fact 48 (f := .glo "_law_rows") rfl)) (fun _ _ _ _ _ _ us hl => match us, hl with | [_], _ => rfl) S__law_rows rfl rfl rfl rfl rfl rfl (⟨⟨2, P__law_sums, by decide, has__law_sums X G cx⟩, ⟨⟨1, P__law_tight, by decide, has__law_tight X G cx⟩, trivial⟩⟩) H__law_rows
theorem has__law_two (X : K.In h) (G : h.Ns mainGlobals mg) (cx : SaysX fa fn exs K) : Has P w K mg base 1 "_law_two" P__law_two F__law_two :=
  has_frz (c := C__law_two) (c0 := c0) (st := top 62) (ps := P__law_two) (stat X G cx) (cx.d.def_ 49 (d := dOf "_law_two" 62) rfl) (He.glo_ok X G (cx.d.fact 49 (f := .glo "_law_two") rfl)) (fun _ _ _ _ _ _ us hl => match us, hl with | [_, _], _ => rfl) S__law_two rfl rfl rfl rfl rfl rfl trivial H__law_two
theorem has__law_three (X : K.In h) (G : h.Ns mainGlobals mg) (cx : SaysX fa fn exs K) : Has P w K mg base 2 "_law_three" P__law_three F__law_three :=
  has_frz (c := C__law_three) (c0 := c0) (st := top 63) (ps := P__law_three) (stat X G cx) (cx.d.def_ 50 (d := dOf "_law_three" 63) rfl) (He.glo_ok X G (cx.d.fact 50 (f := .glo "_law_three") rfl)) (fun _ _ _ _ _ _ us hl => match us, hl with | [_, _, _], _ => rfl) S__law_three rfl rfl rfl rfl rfl rfl (⟨⟨1, P__law_two, by decide, has__law_two X G cx⟩, trivial⟩) H__law_three
theorem has__law_is_in (X : K.In h) (G : h.Ns mainGlobals mg) (cx : SaysX fa fn exs K) : Has P w K mg base 1 "_law_is_in" P__law_is_in F__law_is_in :=
  has_frz (c := C__law_is_in) (c0 := c0) (st := top 64) (ps := P__law_is_in) (stat X G cx) (cx.d.def_ 51 (d := dOf "_law_is_in" 64) rfl) (He.glo_ok X G (cx.d.fact 51 (f := .glo "_law_is_in") rfl)) (fun _ _ _ _ _ _ us hl => match us, hl with | [_, _], _ => rfl) S__law_is_in rfl rfl rfl rfl rfl rfl trivial H__law_is_in
theorem has__law_corners (X : K.In h) (G : h.Ns mainGlobals mg) (cx : SaysX fa fn exs K) : Has P w K mg base 3 "_law_corners" P__law_corners F__law_corners :=
  has_frz (c := C__law_corners) (c0 := c0) (st := top 65) (ps := P__law_corners) (stat X G cx) (cx.d.def_ 52 (d := dOf "_law_corners" 65) rfl) (He.glo_ok X G (cx.d.fact 52 (f := .glo "_law_corners") rfl)) (fun _ _ _ _ _ _ us hl => match us, hl with | [_, _], _ => rfl) S__law_corners rfl rfl rfl rfl rfl rfl (⟨⟨1, P__law_two, by decide, has__law_two X G cx⟩, ⟨⟨2, P__law_three, by decide, has__law_three X G cx⟩, ⟨⟨1, P__law_is_in, by decide, has__law_is_in X G cx⟩, trivial⟩⟩⟩) H__law_corners
theorem has__law_is_within (X : K.In h) (G : h.Ns mainGlobals mg) (cx : SaysX fa fn exs K) : Has P w K mg base 4 "_law_is_within" P__law_is_within F__law_is_within :=
  has_frz (c := C__law_is_within) (c0 := c0) (st := top 66) (ps := P__law_is_within) (stat X G cx) (cx.d.def_ 53 (d := dOf "_law_is_within" 66) rfl) (He.glo_ok X G (cx.d.fact 53 (f := .glo "_law_is_within") rfl)) (fun _ _ _ _ _ _ us hl => match us, hl with | [_, _], _ => rfl) S__law_is_within rfl rfl rfl rfl rfl rfl (⟨⟨3, P__law_rows, by decide, has__law_rows X G cx⟩, ⟨⟨3, P__law_corners, by decide, has__law_corners X G cx⟩, ⟨⟨1, P__law_is_in, by decide, has__law_is_in X G cx⟩, trivial⟩⟩⟩) H__law_is_within
theorem has__law_unlike (X : K.In h) (G : h.Ns mainGlobals mg) (cx : SaysX fa fn exs K) : Has P w K mg base 12 "_law_unlike" P__law_unlike F__law_unlike :=
  has_frz (c := C__law_unlike) (c0 := c0) (st := top 67) (ps := P__law_unlike) (stat X G cx) (cx.d.def_ 54 (d := dOf "_law_unlike" 67) rfl) (He.glo_ok X G (cx.d.fact 54 (f := .glo "_law_unlike") rfl)) (fun _ _ _ _ _ _ us hl => match us, hl with | [_, _], _ => rfl) S__law_unlike rfl rfl rfl rfl rfl rfl (⟨⟨11, P_within, by decide, has_within X G cx⟩, trivial⟩) H__law_unlike
theorem has_law (X : K.In h) (G : h.Ns mainGlobals mg) (cx : SaysX fa fn exs K) : Has P w K mg base 13 "law" P_law F_law :=
  has_frz (c := C_law) (c0 := c0) (st := top 68) (ps := P_law) (stat X G cx) (cx.d.def_ 55 (d := dOf "law" 68) rfl) (He.glo_ok X G (cx.d.fact 55 (f := .glo "law") rfl)) (fun _ _ _ _ _ _ us hl => match us, hl with | [_], _ => rfl) S_law rfl rfl rfl rfl rfl rfl (⟨⟨1, P__law_source, by decide, has__law_source X G cx⟩, ⟨⟨2, P__law_of, by decide, has__law_of X G cx⟩, ⟨⟨4, P__law_panel, by decide, has__law_panel X G cx⟩, ⟨⟨1, P__law_draw, by decide, has__law_draw X G cx⟩, ⟨⟨4, P__law_is_within, by decide, has__law_is_within X G cx⟩, ⟨⟨10, P_outside, by decide, has_outside X G cx⟩, ⟨⟨11, P_within, by decide, has_within X G cx⟩, ⟨⟨9, P_is_positions, by decide, has_is_positions X G cx⟩, ⟨⟨12, P__law_unlike, by decide, has__law_unlike X G cx⟩, trivial⟩⟩⟩⟩⟩⟩⟩⟩⟩) H_law
end
end K14
open PySem PySem.W PySem.Calls PyProof.Rows
theorem K14.fin (hrun : ∀ ns : List Int, ns.length ≤ 63 → (∀ z ∈ ns, Builtin.Int.intBits z ≤ 1048576) → (K14.F_law).run [.scr ns] [] = .ok (.bl true) []) : PySem.Challenge.rw_draggedsums_k14_panels_within_others.Holds := by
  w_on; o_law
  refine HandSHeadRun.head_any (r := OpenLaw.row PySem.Challenge.rw_draggedsums_k14_panels_within_others) (q := view (OpenLaw.row PySem.Challenge.rw_draggedsums_k14_panels_within_others).prog [68]) (H := K14.hk) (ob := K14.ob) (M := 3000) (loose := K14.loose) (d := HandSHeadRun.topDef (OpenLaw.row PySem.Challenge.rw_draggedsums_k14_panels_within_others).prog 68) (kwd := []) K14.ob_eq
    (by kernel_rfl) (fun s => by kernel_rfl) K14.run (by kernel_rfl) (by kernel_rfl) (by kernel_rfl) (by rfl) (by first | assumption | decide +kernel) (by decide +kernel) ⟨rfl, rfl, rfl, rfl, rfl, by decide +kernel⟩ ?hw ?hc
  case hw => w_witness2
  case hc =>
    refine Lite.walk_ofX (l := PySem.Challenge.rw_draggedsums_k14_panels_within_others) (n := 63) (k := 13) (x := "_law_script") (CX := fun w => L2.CX (PySem.Challenge.rw_draggedsums_k14_panels_within_others).prog w) rfl (by decide) (by kernel_rfl) ⟨rfl, by decide, by decide⟩ ?F (fun w => Lite.cx_false _ w)
    intro w mg fa h Y G hmg0
    obtain ⟨K, KX, c⟩ := Y
    have hmg : mg ("law" : PySem.Str) = some (.ref fa) := by
      have e : (HandSHeadRun.topDef (OpenLaw.row PySem.Challenge.rw_draggedsums_k14_panels_within_others).prog 68).name = ("law" : PySem.Str) := by kernel_rfl
      rw [← e]
      exact hmg0
    obtain ⟨fd, F⟩ := c.d.def_ 55 (d := K14.dOf "law" 68) rfl
    have b := L2.FunD.bindsA (ps := K14.P_law) F fun _ _ _ _ _ _ us hl => match us, hl with | [_], _ => rfl
    refine ⟨K, fd, Lite.spTrue K, KX, fun s v => b s [v] rfl, fun H a ns hl hb _ hS => ⟨a, ns, rfl, hl, hb, hS, fun _ => rfl⟩, fun base KB GB => ?_⟩
    have e := hmg.symm.trans (He.glo_ok KX G (c.d.fact 55 (f := .glo "law") rfl))
    cases e
    exact Lite.law_end (Lite.fn_frz (c := K14.C_law) F K14.S_law rfl rfl ((K14.stat KX G c).glob rfl rfl rfl rfl (⟨⟨1, K14.P__law_source, by decide, K14.has__law_source KX G c⟩, ⟨⟨2, K14.P__law_of, by decide, K14.has__law_of KX G c⟩, ⟨⟨4, K14.P__law_panel, by decide, K14.has__law_panel KX G c⟩, ⟨⟨1, K14.P__law_draw, by decide, K14.has__law_draw KX G c⟩, ⟨⟨4, K14.P__law_is_within, by decide, K14.has__law_is_within KX G c⟩, ⟨⟨10, K14.P_outside, by decide, K14.has_outside KX G c⟩, ⟨⟨11, K14.P_within, by decide, K14.has_within KX G c⟩, ⟨⟨9, K14.P_is_positions, by decide, K14.has_is_positions KX G c⟩, ⟨⟨12, K14.P__law_unlike, by decide, K14.has__law_unlike KX G c⟩, trivial⟩⟩⟩⟩⟩⟩⟩⟩⟩)) K14.H_law) rfl hrun

set_option Elab.async false
set_option linter.all false
set_option maxRecDepth 100000
namespace Lite
open PySem L2
/-! ### equations for evaluation -/
def SR.andThen (r : SR) (g : SS) : SR := match r with
  | .nx ρ μ => g ρ μ
  | r => r
section
variable {α β : Type} {ρ ρ1 ρ2 : Frame} {μ μ1 μ2 : Store} {d e : D} {ds es : List D} {f g h : SE} {t : Tg} {c : ST} {b F G : SS} {i j : Int} {n : Nat}
@[simp] theorem ev_bind {a : α} {f : α → Store → R β} : (R.ok a μ).bind f = f a μ := by rfl
@[simp] theorem ev_bindX {x : Str} {fs : List (Str × D)} {f : α → Store → R β} : (R.exc x fs μ).bind f = .exc x fs μ := by rfl
@[simp] theorem ev_then {a : α} {f : α → Store → SR} : (R.ok a μ).thenS ρ f = f a μ := by rfl
@[simp] theorem ev_thenX {x : Str} {fs : List (Str × D)} {f : α → Store → SR} : (R.exc x fs μ : R α).thenS ρ f = .exc x fs ρ μ := by rfl
@[simp] theorem an_nx : (SR.nx ρ μ).andThen F = F ρ μ := by rfl
@[simp] theorem an_rt : (SR.rt d μ).andThen F = .rt d μ := by rfl
@[simp] theorem an_ex {x : Str} {fs : List (Str × D)} : (SR.exc x fs ρ μ).andThen F = .exc x fs ρ μ := by rfl
@[simp] theorem ev_seq : ssSeq F G ρ μ = (F ρ μ).andThen G := by rfl
@[simp] theorem ev_nil : ssNil ρ μ = .nx ρ μ := by rfl
@[simp] theorem ev_pass : ssPass ρ μ = .nx ρ μ := by rfl
@[simp] theorem ev_expr : ssExpr f ρ μ = (f ρ μ).thenS ρ fun _ μ1 => .nx ρ μ1 := by rfl
@[simp] theorem ev_ret : ssRet f ρ μ = (f ρ μ).thenS ρ fun d μ1 => .rt d μ1 := by rfl
@[simp] theorem ev_if : ssIf c F G ρ μ = (c ρ μ).thenS ρ fun b μ1 => if b = true then F ρ μ1 else G ρ μ1 := by rfl
@[simp] theorem ev_raise {x : Str} : ssRaise x ρ μ = .exc x [] ρ μ := by rfl
def asg (o : Option Frame) (μ : Store) : SR := match o with
  | some ρ1 => .nx ρ1 μ
  | none => .no
@[simp] theorem asg_some : asg (some ρ) μ = .nx ρ μ := by rfl
@[simp] theorem ev_asg : ssAsg f t ρ μ = (f ρ μ).thenS ρ fun d μ1 => asg (t d ρ μ1) μ1 := by rfl
@[simp] theorem ev_tgName {k : Nat} : tgName k d ρ μ = some (ρ.set k (some d)) := by rfl
@[simp] theorem ev_tgNil : tgNil [] ρ μ = some ρ := by rfl
@[simp] theorem ev_tgCons {T : Tg} {U : Tgs} : tgCons T U (d :: ds) ρ μ = (T d ρ μ).bind fun ρ1 => U ds ρ1 μ := by rfl
@[simp] theorem ev_tgTup {U : Tgs} : tgTup n U (.tup ds) ρ μ = if ds.length = n then U ds ρ μ else none := by rfl
@[simp] theorem ev_tgTupL {U : Tgs} : tgTup n U (.lst ds) ρ μ = if ds.length = n then U ds ρ μ else none := by rfl
def par2 (ρ : Frame) (k l : Nat) (ds : List D) (μ : Store) : SR := match ds with
  | [d, e] => .nx ((ρ.set k (some d)).set l (some e)) μ
  | _ => .no
@[simp] theorem par2_eq {k l : Nat} : par2 ρ k l [d, e] μ = .nx ((ρ.set k (some d)).set l (some e)) μ := by rfl
@[simp] theorem ev_par {k l : Nat} {U : SA} : ssPar k l U ρ μ = (U ρ μ).thenS ρ fun ds μ1 => par2 ρ k l ds μ1 := by rfl
def par3 (ρ : Frame) (k l m : Nat) (ds : List D) (μ : Store) : SR := match ds with
  | [d, e, c] => .nx (((ρ.set k (some d)).set l (some e)).set m (some c)) μ
  | _ => .no
@[simp] theorem par3_eq {k l m : Nat} {x : D} : par3 ρ k l m [d, e, x] μ = .nx (((ρ.set k (some d)).set l (some e)).set m (some x)) μ := by rfl
@[simp] theorem ev_par3 {k l m : Nat} {U : SA} : ssPar3 k l m U ρ μ = (U ρ μ).thenS ρ fun ds μ1 => par3 ρ k l m ds μ1 := by rfl
@[simp] theorem ev_con : sCon d ρ μ = .ok d μ := by rfl
def got (o : Option (Option D)) (μ : Store) : R D := match o with
  | some (some d) => .ok d μ
  | _ => .no
@[simp] theorem got_some : got (some (some d)) μ = .ok d μ := by rfl
@[simp] theorem ev_var {k : Nat} : sVar k ρ μ = got ρ[k]? μ := by rfl
@[simp] theorem ev_sNil : sNil ρ μ = .ok [] μ := by rfl
@[simp] theorem ev_sCons {U : SA} : sCons f U ρ μ = (f ρ μ).bind fun d μ1 => (U ρ μ1).bind fun ds μ2 => .ok (d :: ds) μ2 := by rfl
@[simp] theorem ev_tup {U : SA} : sTup U ρ μ = (U ρ μ).bind mkTup := by rfl
@[simp] theorem ev_lst {U : SA} : sLst U ρ μ = (U ρ μ).bind mkLst := by rfl
@[simp] theorem ev_ref {U : SA} : sRef U ρ μ = (U ρ μ).bind mkRef := by rfl
theorem mkTup_le (h : ds.length ≤ sizeLine) : mkTup ds μ = .ok (.tup ds) μ := if_pos h
theorem mkLst_le (h : ds.length ≤ sizeLine) : mkLst ds μ = .ok (.lst ds) μ := if_pos h
theorem mkRef_le (h : ds.length ≤ sizeLine) : mkRef ds μ = .ok (.ref μ.length) (μ ++ [.lst ds]) := if_pos h
theorem sl_le {k : Nat} (h : k ≤ 100) : k ≤ sizeLine := Nat.le_trans h (by decide)
@[simp] theorem mkTup0 : mkTup [] μ = .ok (.tup []) μ := mkTup_le (sl_le (by simp))
@[simp] theorem mkTup1 {a : D} : mkTup [a] μ = .ok (.tup [a]) μ := mkTup_le (sl_le (by simp))
@[simp] theorem mkTup2 {a b : D} : mkTup [a, b] μ = .ok (.tup [a, b]) μ := mkTup_le (sl_le (by simp))
@[simp] theorem mkTup3 {a b c : D} : mkTup [a, b, c] μ = .ok (.tup [a, b, c]) μ := mkTup_le (sl_le (by simp))
@[simp] theorem mkTup4 {a b c d : D} : mkTup [a, b, c, d] μ = .ok (.tup [a, b, c, d]) μ := mkTup_le (sl_le (by simp))
@[simp] theorem mkLst0 : mkLst [] μ = .ok (.lst []) μ := mkLst_le (sl_le (by simp))
@[simp] theorem mkLst1 {a : D} : mkLst [a] μ = .ok (.lst [a]) μ := mkLst_le (sl_le (by simp))
@[simp] theorem mkLst2 {a b : D} : mkLst [a, b] μ = .ok (.lst [a, b]) μ := mkLst_le (sl_le (by simp))
@[simp] theorem mkLst3 {a b c : D} : mkLst [a, b, c] μ = .ok (.lst [a, b, c]) μ := mkLst_le (sl_le (by simp))
@[simp] theorem mkLst4 {a b c d : D} : mkLst [a, b, c, d] μ = .ok (.lst [a, b, c, d]) μ := mkLst_le (sl_le (by simp))
@[simp] theorem mkLst6 {a b c d e f : D} : mkLst [a, b, c, d, e, f] μ = .ok (.lst [a, b, c, d, e, f]) μ := mkLst_le (sl_le (by simp))
@[simp] theorem ev_bin {o : Op2} : sBin o f g ρ μ = (f ρ μ).bind fun x μ1 => (g ρ μ1).bind fun y μ2 => o x y μ2 := by rfl
def boolR (o : Option Bool) (μ : Store) : R D := match o with
  | some b => .ok (.bl b) μ
  | none => .no
@[simp] theorem boolR_some {b : Bool} : boolR (some b) μ = .ok (.bl b) μ := by rfl
@[simp] theorem ev_cmp {o : Cmp2} : cmpR o d e μ = boolR (o d e μ) μ := by rfl
@[simp] theorem ev_lt : cmpLt (.int i) (.int j) μ = some (decide (i < j)) := by rfl
@[simp] theorem ev_le : cmpLe (.int i) (.int j) μ = some (decide (i ≤ j)) := by rfl
@[simp] theorem ev_gt : cmpGt (.int i) (.int j) μ = some (decide (j < i)) := by rfl
@[simp] theorem ev_ge : cmpGe (.int i) (.int j) μ = some (decide (j ≤ i)) := by rfl
@[simp] theorem ev_is : cmpIs d .non μ = some (isNon d) := by rfl
@[simp] theorem ev_isnot : cmpIsNot d .non μ = some (!isNon d) := by rfl
@[simp] theorem ev_truth : sTruth f ρ μ = (f ρ μ).bind truth := by rfl
@[simp] theorem tr_bl {k : Bool} : truth (.bl k) μ = .ok k μ := by rfl
@[simp] theorem tr_int : truth (.int i) μ = .ok (i != 0) μ := by rfl
@[simp] theorem ev_neg : sNeg f ρ μ = (f ρ μ).bind opNeg := by rfl
@[simp] theorem neg_int : opNeg (.int i) μ = .ok (.int (-i)) μ := by rfl
@[simp] theorem ev_not : sNot f ρ μ = (sTruth f ρ μ).bind fun k μ1 => .ok (.bl (!k)) μ1 := by rfl
@[simp] theorem ev_and : sAnd f g ρ μ = (f ρ μ).bind fun x μ1 => (truth x μ1).bind fun k μ2 => if k = true then g ρ μ2 else .ok x μ2 := by rfl
@[simp] theorem ev_or : sOr f g ρ μ = (f ρ μ).bind fun x μ1 => (truth x μ1).bind fun k μ2 => if k = true then .ok x μ2 else g ρ μ2 := by rfl
@[simp] theorem ev_ife : sIf f g h ρ μ = (sTruth f ρ μ).bind fun k μ1 => if k = true then g ρ μ1 else h ρ μ1 := by rfl
def chain (o : Option Bool) (r : R D) (μ : Store) : R D := match o with
  | some true => r
  | some false => .ok (.bl false) μ
  | none => .no
@[simp] theorem chain_some {k : Bool} {r : R D} : chain (some k) r μ = if k = true then r else .ok (.bl false) μ := by cases k <;> rfl
@[simp] theorem ev_chain {o o' : Cmp2} : sChain o o' f g h ρ μ = (f ρ μ).bind fun x μ1 => (g ρ μ1).bind fun y μ2 => chain (o x y μ2) ((h ρ μ2).bind fun z μ3 => cmpR o' y z μ3) μ2 := by
  show ((f ρ μ).bind fun x μ1 => (g ρ μ1).bind fun y μ2 => match o x y μ2 with
  | some true => (h ρ μ2).bind fun z μ3 => cmpR o' y z μ3
  | some false => .ok (.bl false) μ2
  | none => .no) = _
  rfl
@[simp] theorem add_int : opAdd (.int i) (.int j) μ = .ok (.int (i + j)) μ := by rfl
@[simp] theorem sub_int : opSub (.int i) (.int j) μ = .ok (.int (i - j)) μ := by rfl
theorem mul_int (h : CMulW i j) : opMul (.int i) (.int j) μ = .ok (.int (i * j)) μ := if_pos h
theorem div_int (h : CDivW i j) : opDiv (.int i) (.int j) μ = .ok (.int (i / j)) μ := if_pos h
theorem mod_int (h : 0 < j) : opMod (.int i) (.int j) μ = .ok (.int (i % j)) μ := if_pos h
theorem add_lst (h : ds.length + es.length ≤ sizeLine) : opAdd (.lst ds) (.lst es) μ = .ok (.lst (ds ++ es)) μ := by
  show (if ds.length + es.length ≤ sizeLine then R.ok (D.lst (ds ++ es)) μ else .no) = _
  rw [if_pos h]
theorem add_tup (h : ds.length + es.length ≤ sizeLine) : opAdd (.tup ds) (.tup es) μ = .ok (.tup (ds ++ es)) μ := if_pos h
@[simp] theorem ev_bi {o : OpL} {U : SA} : sBi o U ρ μ = (U ρ μ).bind o := by rfl
@[simp] theorem ev_call {Fn_ : Fn} {U : SA} : sCall Fn_ U ρ μ = (U ρ μ).bind fun ds μ1 => if ds.length = Fn_.ar then Fn_.run ds μ1 else .no := by rfl
@[simp] theorem bi_lenL : biLen [.lst ds] μ = .ok (.int ds.length) μ := by rfl
@[simp] theorem bi_lenT : biLen [.tup ds] μ = .ok (.int ds.length) μ := by rfl
@[simp] theorem bi_lenS {ns : List Int} : biLen [.scr ns] μ = .ok (.int ns.length) μ := by rfl
@[simp] theorem bi_abs : biAbs [.int i] μ = .ok (.int (i.natAbs : Int)) μ := by
  show R.ok (D.int (if i < 0 then -i else i)) μ = _
  congr 2
  split <;> omega
@[simp] theorem bi_int : biInt [.int i] μ = .ok (.int i) μ := by rfl
@[simp] theorem bi_intB {k : Bool} : biInt [.bl k] μ = .ok (.int (if k = true then 1 else 0)) μ := by cases k <;> rfl
@[simp] theorem bi_listL : biList [.lst ds] μ = .ok (.lst ds) μ := by rfl
@[simp] theorem bi_listT : biList [.tup ds] μ = .ok (.lst ds) μ := by rfl
@[simp] theorem bi_tupL : biTuple [.lst ds] μ = .ok (.tup ds) μ := by rfl
@[simp] theorem bi_tupT : biTuple [.tup ds] μ = .ok (.tup ds) μ := by rfl
def ixR (o : Option D) (μ : Store) : R D := match o with
  | some d => .ok d μ
  | none => .no
@[simp] theorem ixR_some : ixR (some d) μ = .ok d μ := by rfl
@[simp] theorem sub_lst : opSub1 (.lst ds) (.int i) μ = ixR (atI ds i) μ := by rfl
@[simp] theorem sub_tup : opSub1 (.tup ds) (.int i) μ = ixR (atI ds i) μ := by rfl
@[simp] theorem ev_siSeq : siSeq f ρ μ = (f ρ μ).bind itmOf := by rfl
@[simp] theorem itm_lst : itmOf (.lst ds) μ = .ok ⟨ds, []⟩ μ := by rfl
@[simp] theorem itm_tup : itmOf (.tup ds) μ = .ok ⟨ds, []⟩ μ := by rfl
def enumR (o : Option Itm) (μ : Store) : R Itm := match o with
  | some it => .ok ⟨enumD it.items, it.gs⟩ μ
  | none => .no
@[simp] theorem enumR_some {it : Itm} : enumR (some it) μ = .ok ⟨enumD it.items, it.gs⟩ μ := by rfl
@[simp] theorem ev_siEnum : siEnum f ρ μ = (f ρ μ).bind fun d μ1 => enumR (seqOf d μ1) μ1 := by rfl
@[simp] theorem sq_lst : seqOf (.lst ds) μ = some ⟨ds, []⟩ := by rfl
@[simp] theorem sq_tup : seqOf (.tup ds) μ = some ⟨ds, []⟩ := by rfl
def zipR (o p : Option Itm) (μ : Store) : R Itm := match o, p with
  | some it, some it2 => .ok ⟨zipD it.items it2.items, it.gs ++ it2.gs⟩ μ
  | _, _ => .no
@[simp] theorem zipR_some {it it2 : Itm} : zipR (some it) (some it2) μ = .ok ⟨zipD it.items it2.items, it.gs ++ it2.gs⟩ μ := by rfl
@[simp] theorem ev_siZip : siZip f g ρ μ = (f ρ μ).bind fun d μ1 => (g ρ μ1).bind fun d2 μ2 => zipR (seqOf d μ2) (seqOf d2 μ2) μ2 := by rfl
def rngR (d : D) (μ : Store) : R Itm := match d with
  | .int n => if lim n then .ok ⟨rangeD 0 1 n.toNat, []⟩ μ else .no
  | _ => .no
theorem rngR_int (h : 0 ≤ i) (h2 : i < 2 ^ 62) : rngR (.int i) μ = .ok ⟨rangeD 0 1 i.toNat, []⟩ μ := by
  have : lim i = true := by unfold lim; rw [decide_eq_true (by omega), decide_eq_true h2]; rfl
  show (if lim i then _ else _) = _
  rw [if_pos this]
@[simp] theorem ev_range1 : siRange1 f ρ μ = (f ρ μ).bind rngR := by
  show (f ρ μ).bind _ = _
  congr 1
@[simp] theorem ev_for {it : SI} : ssFor it t F ρ μ = (it ρ μ).thenS ρ fun itm μ1 => forGo t F itm.gs itm.items ρ μ1 := by rfl
@[simp] theorem forGo_nil : forGo t F [] [] ρ μ = .nx ρ μ := by unfold forGo; simp
theorem forGo_nx (h : t d ρ μ = some ρ1) (hb : F ρ1 μ = .nx ρ2 μ2) : forGo t F [] (d :: ds) ρ μ = forGo t F [] ds ρ2 μ2 := by
  rw [forGo, if_pos guard_nil]; simp only [h, hb]
theorem forGo_rt (h : t d ρ μ = some ρ1) (hb : F ρ1 μ = .rt e μ2) : forGo t F [] (d :: ds) ρ μ = .rt e μ2 := by
  rw [forGo, if_pos guard_nil]; simp only [h, hb]
theorem forGo_ex {x : Str} {fs : List (Str × D)} (h : t d ρ μ = some ρ1) (hb : F ρ1 μ = .exc x fs ρ2 μ2) : forGo t F [] (d :: ds) ρ μ = .exc x fs ρ2 μ2 := by
  rw [forGo, if_pos guard_nil]; simp only [h, hb]
theorem while_stop (h : c ρ μ = .ok false μ1) : whileN c F (n + 1) ρ μ = .nx ρ μ1 := by
  rw [whileN, h]; simp
theorem while_nx (h : c ρ μ = .ok true μ1) (hb : F ρ μ1 = .nx ρ2 μ2) : whileN c F (n + 1) ρ μ = whileN c F n ρ2 μ2 := by
  rw [whileN, h]; simp [hb]
theorem while_rt (h : c ρ μ = .ok true μ1) (hb : F ρ μ1 = .rt d μ2) : whileN c F (n + 1) ρ μ = .rt d μ2 := by
  rw [whileN, h]; simp [hb]
/-! comprehensions -/
@[simp] theorem ev_lc {vs : List Nat} {it : SI} {cond : ST} : sLC vs it t cond f ρ μ = (it ρ μ).bind fun itm μ1 => (lcGo t cond f (wipeF ρ vs) itm.gs itm.items [] μ1).bind fun acc μ2 => .ok (.lst acc) μ2 := by rfl
@[simp] theorem ev_yes : stYes ρ μ = .ok true μ := by rfl
@[simp] theorem wipe_nil : wipeF ρ [] = ρ := by rfl
@[simp] theorem wipe_cons {v : Nat} {vs : List Nat} : wipeF ρ (v :: vs) = (wipeF ρ vs).set v none := by rfl
/-- items x of xs, drawn as en x: the test is p x, the element g x -/
theorem lc_go {A : Type} {cond : ST} {en : A → D} {p : A → Bool} {g : A → D} : ∀ (xs : List A) (acc : List D), acc.length + xs.length ≤ sizeLine →
    (∀ x ∈ xs, ∃ ρ1, t (en x) ρ μ = some ρ1 ∧ cond ρ1 μ = .ok (p x) μ ∧ (p x = true → f ρ1 μ = .ok (g x) μ)) →
    lcGo t cond f ρ [] (xs.map en) acc μ = .ok (acc ++ (xs.filter p).map g) μ
  | [], acc, _, _ => by
    show lcGo t cond f ρ [] [] acc μ = _
    rw [lcGo, if_pos guard_nil]; simp
  | x :: xs, acc, hl, h => by
    obtain ⟨ρ1, h1, h2, h3⟩ := h x (by simp)
    have ih := fun acc (q : acc.length + xs.length ≤ sizeLine) => lc_go xs acc q fun y hy => h y (by simp [hy])
    have hl' : acc.length + (xs.length + 1) ≤ sizeLine := hl
    show lcGo t cond f ρ [] (en x :: xs.map en) acc μ = _
    rw [lcGo, if_pos guard_nil, h1]
    simp only [h2, R.quiet, ev_bind]
    cases hp : p x with
    | true =>
      rw [h3 hp]
      simp only [if_true, ev_bind]
      rw [if_pos (by omega), ih _ (by rw [List.length_append]; show acc.length + 1 + xs.length ≤ sizeLine; omega)]
      simp [hp]
    | false =>
      simp only [Bool.false_eq_true, if_false]
      rw [ih _ (by omega)]
      simp [hp]
theorem lc_map {A : Type} {en : A → D} {g : A → D} {xs : List A} (hl : xs.length ≤ sizeLine) (h : ∀ x ∈ xs, ∃ ρ1, t (en x) ρ μ = some ρ1 ∧ f ρ1 μ = .ok (g x) μ) : lcGo t stYes f ρ [] (xs.map en) [] μ = .ok (xs.map g) μ := by
  have := lc_go (cond := stYes) (p := fun _ => true) (f := f) (t := t) (en := en) (g := g) (ρ := ρ) (μ := μ) xs [] (by simpa using hl) fun x hx => by
    obtain ⟨ρ1, h1, h2⟩ := h x hx
    exact ⟨ρ1, h1, rfl, fun _ => h2⟩
  have e : xs.filter (fun _ => true) = xs := List.filter_eq_self.mpr (by simp)
  rw [e] at this
  exact this
/-! defs -/
theorem keep_refl (μ : Store) : KeepOk μ μ := ⟨Nat.le_refl _, fun _ _ => .inl rfl⟩
@[simp] theorem below_int : below n (.int i) = true := by rfl
@[simp] theorem below_bl {k : Bool} : below n (.bl k) = true := by rfl
@[simp] theorem below_non : below n .non = true := by rfl
@[simp] theorem below_str {s : Str} : below n (.str s) = true := by rfl
@[simp] theorem below_tup : below n (.tup ds) = belowL n ds := by rfl
@[simp] theorem below_lst : below n (.lst ds) = belowL n ds := by rfl
@[simp] theorem belowL_nil : belowL n [] = true := by rfl
@[simp] theorem belowL_cons : belowL n (d :: ds) = (below n d && belowL n ds) := by rfl
theorem frz_below {k : Nat} (h : below n d = true) : frz (k + 1) n μ d = some d := by
  unfold frz; rw [if_pos h]
/-- a def that leaves the store -/
theorem runF_rt {N : List Str} (h : G (ds.map some ++ List.replicate (N.length - ds.length) none) μ = .rt d μ) (hb : below μ.length d = true) : runF N G ds μ = .ok d μ := by
  unfold runF
  rw [h]
  simp only
  rw [if_pos (keep_refl μ), frz_below hb]
  simp
theorem runF_nx {N : List Str} (h : G (ds.map some ++ List.replicate (N.length - ds.length) none) μ = .nx ρ μ) : runF N G ds μ = .ok .non μ := by
  unfold runF
  rw [h]
  simp only
  rw [if_pos (keep_refl μ)]
  simp
theorem runF_ex {N : List Str} {x : Str} (h : G (ds.map some ++ List.replicate (N.length - ds.length) none) μ = .exc x [] ρ μ) : runF N G ds μ = .exc x [] μ := by
  unfold runF
  rw [h]
  simp only
  rw [if_pos (keep_refl μ)]
  simp
end
theorem belowL_all {n : Nat} : ∀ {ds : List D}, (∀ d ∈ ds, below n d = true) → belowL n ds = true
  | [], _ => rfl
  | d :: ds, h => by rw [belowL_cons, h d (by simp), belowL_all fun e he => h e (by simp [he])]; rfl
theorem belowL_map {A : Type} {n : Nat} {f : A → D} {l : List A} (h : ∀ x ∈ l, below n (f x) = true) : belowL n (l.map f) = true := belowL_all fun d hd => by
  obtain ⟨x, hx, rfl⟩ := List.mem_map.mp hd
  exact h x hx
/-- integers -/
abbrev ilD (l : List Int) : List D := l.map .int
@[simp] theorem below_ilD {n : Nat} {l : List Int} : belowL n (l.map D.int) = true := belowL_map fun _ _ => rfl
end Lite

set_option Elab.async false
set_option linter.all false
set_option maxRecDepth 100000
namespace Lite
open PySem L2
section
variable {μ : Store} {d e : D} {ds es : List D} {i j : Int} {n : Nat}
/-! equality -/
theorem sh_int : SeqAt.shaped (.int i) = true := by simp [SeqAt.shaped, PyData.canLay0, PyData.depth]
@[simp] theorem eq_int : cmpEq (.int i) (.int j) μ = some (decide (i = j)) := by
  show (if SeqAt.shaped (.int i) && SeqAt.shaped (.int j) then some (PyData.eqv (.int i) (.int j)) else none) = _
  rw [sh_int, sh_int]
  simp [PyData.eqv]
  by_cases h : i = j <;> simp [h]
@[simp] theorem ne_int : cmpNe (.int i) (.int j) μ = some (!decide (i = j)) := by
  show (cmpEq (.int i) (.int j) μ).map _ = _
  rw [eq_int]; rfl
theorem py_ints : ∀ l : List Int, toPyL (l.map .int) = some (l.map .int)
  | [] => rfl
  | x :: l => by
    show (match toPy (.int x), toPyL (l.map .int) with | some p, some ps => some (p :: ps) | _, _ => none) = _
    rw [py_ints l]; rfl
theorem lay_ints : ∀ l : List Int, PyData.canLayAll0 (l.map .int) = true
  | [] => by simp [PyData.canLayAll0]
  | x :: l => by simp [PyData.canLayAll0, PyData.canLay0, lay_ints l]
theorem dep_ints : ∀ l : List Int, PyData.depthAll (l.map .int) = 0
  | [] => by simp [PyData.depthAll]
  | x :: l => by simp [PyData.depthAll, PyData.depth, dep_ints l]
theorem sh_lst {l : List Int} : SeqAt.shaped (.list (l.map .int)) = true := by simp [SeqAt.shaped, PyData.canLay0, PyData.depth, lay_ints, dep_ints]
theorem sh_tup {l : List Int} : SeqAt.shaped (.tuple (l.map .int)) = true := by simp [SeqAt.shaped, PyData.canLay0, PyData.depth, lay_ints, dep_ints]
theorem eqv_ints : ∀ a b : List Int, PyData.eqvAll (a.map .int) (b.map .int) = decide (a = b)
  | [], [] => by simp [PyData.eqvAll]
  | [], _ :: _ => by simp [PyData.eqvAll]
  | _ :: _, [] => by simp [PyData.eqvAll]
  | x :: a, y :: b => by
    simp only [List.map_cons, PyData.eqvAll, PyData.eqv, eqv_ints a b]
    by_cases h : x = y <;> by_cases h2 : a = b <;> simp [h, h2]
theorem eq_lstI {a b : List Int} : cmpEq (.lst (a.map .int)) (.lst (b.map .int)) μ = some (decide (a = b)) := by
  show (match toPy (.lst (a.map .int)), toPy (.lst (b.map .int)) with
    | some p, some q => if SeqAt.shaped p && SeqAt.shaped q then some (PyData.eqv p q) else none
    | _, _ => none) = _
  have e : ∀ l : List Int, toPy (.lst (l.map .int)) = some (.list (l.map .int)) := fun l => by
    show (toPyL (l.map D.int)).map PyData.list = _
    rw [py_ints]; rfl
  rw [e, e]
  simp [sh_lst, PyData.eqv, eqv_ints]
theorem eq_tupI {a b : List Int} : cmpEq (.tup (a.map .int)) (.tup (b.map .int)) μ = some (decide (a = b)) := by
  show (match toPy (.tup (a.map .int)), toPy (.tup (b.map .int)) with
    | some p, some q => if SeqAt.shaped p && SeqAt.shaped q then some (PyData.eqv p q) else none
    | _, _ => none) = _
  have e : ∀ l : List Int, toPy (.tup (l.map .int)) = some (.tuple (l.map .int)) := fun l => by
    show (toPyL (l.map D.int)).map PyData.tuple = _
    rw [py_ints]; rfl
  rw [e, e]
  simp [sh_tup, PyData.eqv, eqv_ints]
theorem ne_lstI {a b : List Int} : cmpNe (.lst (a.map .int)) (.lst (b.map .int)) μ = some (!decide (a = b)) := by
  show (cmpEq (.lst (a.map .int)) (.lst (b.map .int)) μ).map _ = _
  rw [eq_lstI]; rfl
theorem ne_tupI {a b : List Int} : cmpNe (.tup (a.map .int)) (.tup (b.map .int)) μ = some (!decide (a = b)) := by
  show (cmpEq (.tup (a.map .int)) (.tup (b.map .int)) μ).map _ = _
  rw [eq_tupI]; rfl
/-! places -/
theorem atI_nat {α : Type} {xs : List α} {k : Nat} : atI xs (k : Int) = xs[k]? := by
  unfold atI ixN
  rw [if_pos (by omega)]
  by_cases h : (k : Int) < (xs.length : Int)
  · rw [if_pos h]
    show xs[(k : Int).toNat]? = _
    rw [Int.toNat_natCast]
  · rw [if_neg h, List.getElem?_eq_none (by omega)]; rfl
@[simp] theorem atI_0 {α : Type} {xs : List α} : atI xs 0 = xs[0]? := atI_nat (k := 0)
@[simp] theorem atI_1 {α : Type} {xs : List α} : atI xs 1 = xs[1]? := atI_nat (k := 1)
@[simp] theorem atI_2 {α : Type} {xs : List α} : atI xs 2 = xs[2]? := atI_nat (k := 2)
@[simp] theorem atI_3 {α : Type} {xs : List α} : atI xs 3 = xs[3]? := atI_nat (k := 3)
theorem atI_last {α : Type} {xs : List α} (h : xs ≠ []) : atI xs (-1) = xs[xs.length - 1]? := by
  unfold atI ixN
  have hl : 0 < xs.length := List.length_pos_iff.mpr h
  rw [if_neg (by omega), if_pos (by omega)]
  show xs[(-1 + (xs.length : Int)).toNat]? = _
  congr 1
  omega
/-! sizes -/
def Sz (b : Nat) (x : Int) : Prop := x.natAbs < 2 ^ b
theorem Sz.mono {a b : Nat} {x : Int} (h : Sz a x) (hab : a ≤ b) : Sz b x := Nat.lt_of_lt_of_le h (Nat.pow_le_pow_right (by omega) hab)
theorem mulZ {a b : Nat} (ha : Sz a i) (hb : Sz b j) (h : a + b ≤ 999998) : opMul (.int i) (.int j) μ = .ok (.int (i * j)) μ :=
  mul_int (wide_mul (ha.mono (Nat.le_succ a)) (hb.mono (Nat.le_succ b)) (by omega) (by omega) (by omega))
theorem divZ {b : Nat} (h : 0 < j) (hb : Sz b j) (h9 : b ≤ 8999) : opDiv (.int i) (.int j) μ = .ok (.int (i / j)) μ :=
  div_int (wide_div h (hb.mono (Nat.le_succ b)) (by omega) (by omega))
theorem Sz.mul {a b : Nat} (ha : Sz a i) (hb : Sz b j) : Sz (a + b) (i * j) := wide_lt ha hb
theorem Sz.add {a : Nat} (ha : Sz a i) (hb : Sz a j) : Sz (a + 1) (i + j) := by
  unfold Sz at *
  rw [Nat.pow_succ]
  omega
theorem Sz.sub {a : Nat} (ha : Sz a i) (hb : Sz a j) : Sz (a + 1) (i - j) := by
  unfold Sz at *
  rw [Nat.pow_succ]
  omega
theorem Sz.neg {a : Nat} (ha : Sz a i) : Sz a (-i) := by unfold Sz at *; omega
theorem Sz.div {a : Nat} (ha : Sz a i) (h : 0 < j) : Sz a (i / j) := by
  unfold Sz at *
  refine Nat.lt_of_le_of_lt ?_ ha
  exact Int.natAbs_ediv_le_natAbs i j
theorem Sz.small (h : i.natAbs < 2 ^ n) : Sz n i := h
/-! ranges -/
theorem range_map {A : Type} {f : Nat → A} : True := trivial
theorem rangeD_eq {k : Nat} : rangeD 0 1 k = (List.range k).map fun i : Nat => D.int (i : Int) := by
  unfold rangeD
  refine List.map_congr_left fun x _ => ?_
  congr 1
  omega
theorem rng_nat {n : Nat} (h : n ≤ 100) : rngR (.int n) μ = .ok ⟨(List.range n).map fun i : Nat => D.int (i : Int), []⟩ μ := by
  rw [rngR_int (by omega) (Int.lt_of_le_of_lt (Int.ofNat_le.mpr h) (by decide)), rangeD_eq]; simp
theorem enum_map {A : Type} {en : A → D} {xs : List A} : enumD (xs.map en) = xs.zipIdx.map fun p => .tup [.int (p.2 : Nat), en p.1] := by
  unfold enumD
  rw [List.zipIdx_map, List.map_map]
  rfl
theorem zip_map {A B : Type} {en : A → D} {fn : B → D} {xs : List A} {ys : List B} : zipD (xs.map en) (ys.map fn) = (xs.zip ys).map fun p => .tup [en p.1, fn p.2] := by
  unfold zipD
  induction xs generalizing ys with
  | nil => simp
  | cons x xs ih => cases ys with
    | nil => simp
    | cons y ys => simp only [List.map_cons, List.zipWith_cons_cons, List.zip_cons_cons]; rw [ih]
end
end Lite

set_option Elab.async false
set_option linter.all false
set_option maxRecDepth 100000
namespace Lite
open PySem L2
theorem keep_set {μ : Store} {i : Nat} {ds : List D} (h : belowL μ.length ds = true) : KeepOk μ (μ.set i (.lst ds)) := by
  refine ⟨by rw [List.length_set]; exact Nat.le_refl _, fun j hj => ?_⟩
  by_cases e : i = j
  · subst e
    exact .inr ⟨ds, List.getElem?_set_self hj, h⟩
  · exact .inl (List.getElem?_set_ne e)
/-- a def that writes one list that was there -/
theorem runF_set {N : List Str} {G : SS} {ds es : List D} {μ : Store} {i : Nat} {d : D} (h : G (ds.map some ++ List.replicate (N.length - ds.length) none) μ = .rt d (μ.set i (.lst es))) (he : belowL μ.length es = true) (hb : below μ.length d = true) : runF N G ds μ = .ok d (μ.set i (.lst es)) := by
  unfold runF
  rw [h]
  simp only
  rw [if_pos (keep_set he), frz_below hb]
  have : (μ.set i (.lst es)).take μ.length = μ.set i (.lst es) := List.take_of_length_le (by rw [List.length_set]; exact Nat.le_refl _)
  simp only [this]
end Lite
namespace Lite
open PySem L2
section
variable {μ : Store} {i : Nat} {ds : List D} {k : Int} {d : D}
theorem sub_ref (h : μ[i]? = some (.lst ds)) : opSub1 (.ref i) (.int k) μ = ixR (atI ds k) μ := by
  show (match see μ (.ref i) with
    | .lst ds => match atI ds k with | some d => R.ok d μ | none => .no
    | .tup ds => match atI ds k with | some d => R.ok d μ | none => .no
    | .scr ns => match atI ns k with | some n => R.ok (.int n) μ | none => .no
    | .str z => if z.length ≤ sizeLine then match atI z.cps.toList k with | some c => R.ok (.str ⟨#[c]⟩) μ | none => .no else .no
    | _ => .no) = _
  have e : see μ (.ref i) = .lst ds := by simp only [see, h]
  rw [e]; rfl
def storeR (x j : D) (d : D) (ρ : Lite.Frame) (μ : Store) : SR := match x, j with
  | .ref r, .int k => match μ[r]? with
    | some (.lst ds) => match ixN ds.length k with
      | some n => .nx ρ (μ.set r (.lst (ds.set n d)))
      | none => .no
    | none => .no
  | _, _ => .no
@[simp] theorem ev_store {f g h : SE} {ρ : Lite.Frame} : ssStore f g h ρ μ = (f ρ μ).thenS ρ fun d μ1 => (g ρ μ1).thenS ρ fun x μ2 => (h ρ μ2).thenS ρ fun j μ3 => storeR x j d ρ μ3 := by rfl
theorem store_eq {ρ : Lite.Frame} {n : Nat} (h : μ[i]? = some (.lst ds)) (hn : ixN ds.length k = some n) : storeR (.ref i) (.int k) d ρ μ = .nx ρ (μ.set i (.lst (ds.set n d))) := by
  unfold storeR
  simp only [h, hn]
end
end Lite

set_option Elab.async false
set_option linter.all false
set_option maxRecDepth 100000
namespace Lite
open PySem L2
/-! ### a source of draws: a list of two numbers in the store -/
def Sd (es : List D) : Prop := ∃ c s : Int, es = [.int c, .int s] ∧ 0 ≤ c ∧ 0 ≤ s ∧ s < 2147483648
def Src (i : Nat) (μ : Store) : Prop := ∃ es, μ[i]? = some (.lst es) ∧ Sd es
def Step (i : Nat) (μ μ' : Store) : Prop := ∃ es, Sd es ∧ μ' = μ.set i (.lst es)
theorem Src.lt {i : Nat} {μ : Store} (h : Src i μ) : i < μ.length := by
  obtain ⟨es, h, _⟩ := h
  exact (List.getElem?_eq_some_iff.mp h).1
theorem Step.len {i : Nat} {μ μ' : Store} (s : Step i μ μ') : μ'.length = μ.length := by
  obtain ⟨es, _, rfl⟩ := s
  exact List.length_set
theorem Step.src {i : Nat} {μ μ' : Store} (h : Src i μ) (s : Step i μ μ') : Src i μ' := by
  obtain ⟨es, hs, rfl⟩ := s
  exact ⟨es, List.getElem?_set_self h.lt, hs⟩
theorem Step.refl {i : Nat} {μ : Store} (h : Src i μ) : Step i μ μ := by
  obtain ⟨es, h1, h2⟩ := h
  obtain ⟨hl, he⟩ := List.getElem?_eq_some_iff.mp h1
  exact ⟨es, h2, by rw [← he, List.set_getElem_self]⟩
theorem Step.trans {i : Nat} {μ μ1 μ2 : Store} (a : Step i μ μ1) (b : Step i μ1 μ2) : Step i μ μ2 := by
  obtain ⟨es, _, rfl⟩ := a
  obtain ⟨fs, h, rfl⟩ := b
  exact ⟨fs, h, by rw [List.set_set]⟩
theorem Step.other {i j : Nat} {μ μ' : Store} (s : Step i μ μ') (h : i ≠ j) : μ'[j]? = μ[j]? := by
  obtain ⟨es, _, rfl⟩ := s
  exact List.getElem?_set_ne h
theorem Sd.below {es : List D} {n : Nat} (h : Sd es) : belowL n es = true := by
  obtain ⟨c, s, rfl, _⟩ := h
  simp
theorem runF_step {N : List Str} {G : SS} {ds : List D} {μ μ' : Store} {i : Nat} {d : D} (h : G (ds.map some ++ List.replicate (N.length - ds.length) none) μ = .rt d μ') (s : Step i μ μ') (hb : below μ.length d = true) : runF N G ds μ = .ok d μ' := by
  obtain ⟨es, he, rfl⟩ := s
  exact runF_set h he.below hb
/-- .. and more at the end, given up -/
theorem runF_more {N : List Str} {G : SS} {ds : List D} {μ μ' ext : Store} {i : Nat} {d : D} (h : G (ds.map some ++ List.replicate (N.length - ds.length) none) μ = .rt d (μ' ++ ext)) (s : Step i μ μ') (hb : below μ.length d = true) : runF N G ds μ = .ok d μ' := by
  have hl := s.len
  obtain ⟨es, he, hs⟩ := s
  have hk : KeepOk μ (μ' ++ ext) := by
    refine ⟨by rw [List.length_append]; omega, fun j hj => ?_⟩
    rw [List.getElem?_append_left (by omega), hs]
    by_cases e : i = j
    · subst e
      exact .inr ⟨es, List.getElem?_set_self hj, he.below⟩
    · exact .inl (List.getElem?_set_ne e)
  unfold runF
  rw [h]
  simp only
  rw [if_pos hk, frz_below hb]
  simp only
  rw [List.take_append_of_le_length (by omega), List.take_of_length_le (by omega)]
/-- a def that leaves the store, and more at the end -/
theorem runF_ext {N : List Str} {G : SS} {ds : List D} {μ ext : Store} {d : D} (h : G (ds.map some ++ List.replicate (N.length - ds.length) none) μ = .rt d (μ ++ ext)) (hb : below μ.length d = true) : runF N G ds μ = .ok d μ := by
  have hk : KeepOk μ (μ ++ ext) := ⟨by rw [List.length_append]; omega, fun j hj => .inl (List.getElem?_append_left hj)⟩
  unfold runF
  rw [h]
  simp only
  rw [if_pos hk, frz_below hb]
  simp
/-- a comprehension whose items draw -/
theorem lc_src {A B : Type} {t : Tg} {f : SE} {ρ : Lite.Frame} {en : A → D} {dn : B → D} {i : Nat} (P : A → B → Prop) : ∀ (xs : List A) (acc : List D) (μ : Store), acc.length + xs.length ≤ sizeLine → Src i μ →
    (∀ x ∈ xs, ∀ μ1 : Store, Src i μ1 → μ1.length = μ.length → ∃ ρ1 b μ2, t (en x) ρ μ1 = some ρ1 ∧ f ρ1 μ1 = .ok (dn b) μ2 ∧ P x b ∧ Step i μ1 μ2) →
    ∃ ys μ', lcGo t stYes f ρ [] (xs.map en) acc μ = .ok (acc ++ ys.map dn) μ' ∧ ys.length = xs.length ∧ (∀ p ∈ xs.zip ys, P p.1 p.2) ∧ Step i μ μ'
  | [], acc, μ, _, S, _ => ⟨[], μ, by show lcGo t stYes f ρ [] [] acc μ = _; rw [lcGo, if_pos guard_nil]; simp, rfl, by simp, Step.refl S⟩
  | x :: xs, acc, μ, hl, S, h => by
    have hl' : acc.length + (xs.length + 1) ≤ sizeLine := hl
    obtain ⟨ρ1, b, μ2, h1, h2, h3, h4⟩ := h x (by simp) μ S rfl
    obtain ⟨ys, μ', g1, g2, g3, g4⟩ := lc_src P xs (acc ++ [dn b]) μ2 (by rw [List.length_append]; simp; omega) (h4.src S) fun y hy μ1 s1 e1 => h y (by simp [hy]) μ1 s1 (e1.trans h4.len)
    refine ⟨b :: ys, μ', ?_, by simp [g2], ?_, h4.trans g4⟩
    · show lcGo t stYes f ρ [] (en x :: xs.map en) acc μ = _
      rw [lcGo, if_pos guard_nil, h1]
      simp only [ev_yes, R.quiet, ev_bind, if_true, h2]
      rw [if_pos (by omega), g1]
      simp
    · intro p hp
      rw [List.zip_cons_cons] at hp
      rcases List.mem_cons.mp hp with e | e
      · subst e; exact h3
      · exact g3 p e
end Lite

set_option Elab.async false
set_option linter.all false
set_option maxRecDepth 100000
namespace K14
open PySem L2 Lite
theorem run_draw {i : Nat} {m : Int} {μ : Store} (S : Src i μ) (h0 : 0 < m) (hm : m < 1000000) : ∃ r μ', F__law_draw.run [.ref i, .int m] μ = .ok (.int r) μ' ∧ 0 ≤ r ∧ r < m ∧ Step i μ μ' := by
  have hlt := S.lt
  obtain ⟨es, hi, c, s, rfl, c0, s0, s1⟩ := S
  have hs : Sz 31 s := by unfold Sz; omega
  have hm2 : Sz 31 m := by unfold Sz; omega
  by_cases q : 0 < c
  · have hd := divZ (μ := μ) (i := c) h0 hm2 (by omega)
    have hmo := mod_int (μ := μ) (i := c) h0
    have hst := store_eq (μ := μ) (ρ := [some (.ref i), some (.int m), some (.int (c % m))]) (k := 0) (d := .int (c / m)) (n := 0) hi rfl
    have r1 := sub_ref (μ := μ) (k := 0) hi
    refine ⟨c % m, μ.set i (.lst [.int (c / m), .int s]), ?_, Int.emod_nonneg _ (by omega), Int.emod_lt_of_pos _ h0, ⟨_, ⟨_, _, rfl, Int.ediv_nonneg c0 (by omega), s0, s1⟩, rfl⟩⟩
    show runF N__law_draw G__law_draw [.ref i, .int m] μ = _
    refine runF_step (i := i) ?_ ⟨_, ⟨_, _, rfl, Int.ediv_nonneg c0 (by omega), s0, s1⟩, rfl⟩ rfl
    unfold G__law_draw
    simp [N__law_draw, r1, q, hmo, hd, hst]
  · have r0 := sub_ref (μ := μ) (k := 0) hi
    have r1 := sub_ref (μ := μ) (k := 1) hi
    have m1 := mulZ (μ := μ) hs (show Sz 31 48271 by unfold Sz; decide) (by omega)
    have d1 := mod_int (μ := μ) (i := s * 48271) (j := 2147483647) (by omega)
    have hst := store_eq (μ := μ) (ρ := [some (.ref i), some (.int m), none]) (k := 1) (d := .int (s * 48271 % 2147483647)) (n := 1) hi rfl
    have n0 : 0 ≤ s * 48271 % 2147483647 := Int.emod_nonneg _ (by omega)
    have n1 : s * 48271 % 2147483647 < 2147483647 := Int.emod_lt_of_pos _ (by omega)
    generalize s * 48271 % 2147483647 = s' at *
    have hs' : Sz 31 s' := by unfold Sz; omega
    have hi' : (μ.set i (.lst [.int c, .int s']))[i]? = some (.lst [.int c, .int s']) := List.getElem?_set_self hlt
    have St : Step i μ (μ.set i (.lst [.int c, .int s'])) := ⟨_, ⟨_, _, rfl, c0, n0, by omega⟩, rfl⟩
    generalize hμ : μ.set i (.lst [.int c, .int s']) = μ' at *
    have r2 := sub_ref (μ := μ') (k := 1) hi'
    have m2 := mulZ (μ := μ') hs' hs' (by omega)
    have d2 := mod_int (μ := μ') (i := s' * s') (j := 2147483629) (by omega)
    have d3 := divZ (μ := μ') (i := s' * s' % 2147483629) (j := 64) (by omega) (show Sz 31 64 by unfold Sz; decide) (by omega)
    have d4 := mod_int (μ := μ') (i := s' * s' % 2147483629 / 64) h0
    refine ⟨s' * s' % 2147483629 / 64 % m, μ', ?_, Int.emod_nonneg _ (by omega), Int.emod_lt_of_pos _ h0, St⟩
    show runF N__law_draw G__law_draw [.ref i, .int m] μ = _
    refine runF_step (i := i) ?_ St rfl
    unfold G__law_draw
    have hset : ([.int c, .int s] : List D).set 1 (.int s') = [.int c, .int s'] := rfl
    rw [hset, hμ] at hst
    simp [N__law_draw, r0, q, r1, m1, d1, hst, r2, m2, d2, d3, d4]
theorem run_of {i : Nat} {ds : List D} {μ : Store} (S : Src i μ) (h0 : ds ≠ []) (hm : ds.length < 1000) (hb : belowL μ.length ds = true) : ∃ d μ', F__law_of.run [.ref i, .lst ds] μ = .ok d μ' ∧ d ∈ ds ∧ Step i μ μ' := by
  have hl : 0 < ds.length := List.length_pos_iff.mpr h0
  obtain ⟨r, μ', h1, h2, h3, h4⟩ := run_draw S (m := (ds.length : Nat)) (by omega) (by omega)
  have hk : r.toNat < ds.length := by omega
  have har : (2 : Nat) = F__law_draw.ar := rfl
  have hat : atI ds r = ds[r.toNat]? := by
    have := atI_nat (xs := ds) (k := r.toNat)
    rwa [Int.toNat_of_nonneg h2] at this
  have hd : below μ.length (ds[r.toNat]'hk) = true := by
    have aux : ∀ (l : List D), belowL μ.length l = true → ∀ d ∈ l, below μ.length d = true := fun l => by
      induction l with
      | nil => intro _ d hd; cases hd
      | cons x l ih =>
        intro h d hd
        rw [belowL_cons, Bool.and_eq_true] at h
        rcases List.mem_cons.mp hd with e | e
        · rw [e]; exact h.1
        · exact ih h.2 d e
    exact aux ds hb _ (List.getElem_mem hk)
  refine ⟨ds[r.toNat]'hk, μ', ?_, List.getElem_mem hk, h4⟩
  show runF N__law_of G__law_of [.ref i, .lst ds] μ = _
  refine runF_step (i := i) ?_ h4 hd
  unfold G__law_of
  simp [N__law_of, ← har, h1, hat, List.getElem?_eq_getElem hk]
end K14
namespace K14
open PySem L2 Lite
theorem sub_scr {ns : List Int} {k : Int} {μ : Store} : opSub1 (.scr ns) (.int k) μ = ixR ((atI ns k).map D.int) μ := by
  show (match see μ (.scr ns) with
    | .lst ds => match atI ds k with | some d => R.ok d μ | none => .no
    | .tup ds => match atI ds k with | some d => R.ok d μ | none => .no
    | .scr ns => match atI ns k with | some n => R.ok (.int n) μ | none => .no
    | .str z => if z.length ≤ sizeLine then match atI z.cps.toList k with | some c => R.ok (.str ⟨#[c]⟩) μ | none => .no else .no
    | _ => .no) = _
  show (match atI ns k with | some n => R.ok (D.int n) μ | none => .no) = _
  cases atI ns k <;> rfl
theorem run_source {ns : List Int} {k : Nat} (μ : Store) (hk : k < 1000) : ∃ es, Sd es ∧ F__law_source.run [.scr ns, .int (k : Nat)] μ = .ok (.ref μ.length) (μ ++ [.lst es]) := by
  have hp : opPow (.int 10) (.int 18) μ = .ok (.int 1000000000000000000) μ := by
    show (if CPow 10 18 then R.ok (D.int ((10 : Int) ^ (18 : Int).toNat)) μ else .no) = _
    rw [if_pos (by decide +kernel)]
    rfl
  have fin : ∀ c : Int, 0 ≤ c → ∃ es, Sd es ∧ ssSeq (ssIf (sTruth (sBin (cmpR cmpLt) (sVar 2) (sBin opPow (sCon (.int 10)) (sCon (.int 18))))) (ssRet (sRef (sCons (sCon (.int 0)) (sCons (sBin opAdd (sCon (.int 1)) (sBin opMod (sBi biInt (sCons (sBin opAdd (sBin opMul (sVar 2) (sCon (.int 7919))) (sBin opMul (sCon (.int 104729)) (sVar 1))) (sNil))) (sCon (.int 2147483646)))) (sNil))))) (ssNil)) (ssRet (sRef (sCons (sVar 2) (sCons (sBin opAdd (sCon (.int 1)) (sBin opMod (sBi biInt (sCons (sBin opAdd (sVar 2) (sVar 1)) (sNil))) (sCon (.int 2147483646)))) (sNil))))) [some (.scr ns), some (.int (k : Nat)), some (.int c)] μ = .rt (.ref μ.length) (μ ++ [.lst es]) := by
    intro c hc
    have hmod : ∀ z : Int, 0 ≤ 1 + z % 2147483646 ∧ 1 + z % 2147483646 < 2147483648 := fun z => by
      have := Int.emod_nonneg z (show (2147483646 : Int) ≠ 0 by decide)
      have := Int.emod_lt_of_pos z (show (0 : Int) < 2147483646 by decide)
      omega
    by_cases q : c < 1000000000000000000
    · have m1 := mulZ (μ := μ) (i := c) (j := 7919) (a := 60) (b := 13) (by unfold Sz; omega) (by unfold Sz; decide) (by omega)
      have m2 := mulZ (μ := μ) (i := 104729) (j := (k : Int)) (a := 17) (b := 10) (by unfold Sz; decide) (by unfold Sz; omega) (by omega)
      have d1 := mod_int (μ := μ) (i := c * 7919 + 104729 * (k : Int)) (j := 2147483646) (by omega)
      refine ⟨[.int 0, .int (1 + (c * 7919 + 104729 * (k : Int)) % 2147483646)], ⟨_, _, rfl, by omega, (hmod _).1, (hmod _).2⟩, ?_⟩
      have mk := mkRef_le (μ := μ) (ds := [.int 0, .int (1 + (c * 7919 + 104729 * (k : Int)) % 2147483646)]) (sl_le (by simp))
      simp [hp, q, m1, m2, d1, mk]
    · have d1 := mod_int (μ := μ) (i := c + (k : Int)) (j := 2147483646) (by omega)
      refine ⟨[.int c, .int (1 + (c + (k : Int)) % 2147483646)], ⟨_, _, rfl, hc, (hmod _).1, (hmod _).2⟩, ?_⟩
      have mk := mkRef_le (μ := μ) (ds := [.int c, .int (1 + (c + (k : Int)) % 2147483646)]) (sl_le (by simp))
      simp [hp, q, d1, mk]
  by_cases q : k < ns.length
  · obtain ⟨es, h1, h2⟩ := fin (ns[k].natAbs : Int) (by omega)
    refine ⟨es, h1, ?_⟩
    show runM N__law_source G__law_source [.scr ns, .int (k : Nat)] μ = _
    have hat : atI ns (k : Int) = some ns[k] := by rw [Lite.atI_nat, List.getElem?_eq_getElem q]
    have q' : ((k : Nat) : Int) < (ns.length : Nat) := by omega
    unfold runM
    have : G__law_source (([.scr ns, .int (k : Nat)] : List D).map some ++ List.replicate (N__law_source.length - ([.scr ns, .int (k : Nat)] : List D).length) none) μ = .rt (.ref μ.length) (μ ++ [.lst es]) := by
      show G__law_source [some (.scr ns), some (.int (k : Nat)), none] μ = _
      unfold G__law_source
      rw [ev_seq]
      have e1 : ssAsg (sCon (.int 0)) (tgName 2) [some (.scr ns), some (.int (k : Nat)), none] μ = .nx [some (.scr ns), some (.int (k : Nat)), some (.int 0)] μ := by simp
      rw [e1, an_nx, ev_seq]
      have e2 : ssIf (sTruth (sBin (cmpR cmpLt) (sVar 1) (sBi biLen (sCons (sVar 0) (sNil))))) (ssAsg (sBi biAbs (sCons (sBi biInt (sCons (sBin opSub1 (sVar 0) (sVar 1)) (sNil))) (sNil))) (tgName 2)) (ssNil) [some (.scr ns), some (.int (k : Nat)), some (.int 0)] μ = .nx [some (.scr ns), some (.int (k : Nat)), some (.int (ns[k].natAbs : Int))] μ := by simp [q', q, sub_scr, hat]
      rw [e2, an_nx]
      exact h2
    rw [this]
  · obtain ⟨es, h1, h2⟩ := fin 0 (by omega)
    refine ⟨es, h1, ?_⟩
    show runM N__law_source G__law_source [.scr ns, .int (k : Nat)] μ = _
    have q' : ¬ ((k : Nat) : Int) < (ns.length : Nat) := by omega
    unfold runM
    have : G__law_source (([.scr ns, .int (k : Nat)] : List D).map some ++ List.replicate (N__law_source.length - ([.scr ns, .int (k : Nat)] : List D).length) none) μ = .rt (.ref μ.length) (μ ++ [.lst es]) := by
      show G__law_source [some (.scr ns), some (.int (k : Nat)), none] μ = _
      unfold G__law_source
      rw [ev_seq]
      have e1 : ssAsg (sCon (.int 0)) (tgName 2) [some (.scr ns), some (.int (k : Nat)), none] μ = .nx [some (.scr ns), some (.int (k : Nat)), some (.int 0)] μ := by simp
      rw [e1, an_nx, ev_seq]
      have e2 : ssIf (sTruth (sBin (cmpR cmpLt) (sVar 1) (sBi biLen (sCons (sVar 0) (sNil))))) (ssAsg (sBi biAbs (sCons (sBi biInt (sCons (sBin opSub1 (sVar 0) (sVar 1)) (sNil))) (sNil))) (tgName 2)) (ssNil) [some (.scr ns), some (.int (k : Nat)), some (.int 0)] μ = .nx [some (.scr ns), some (.int (k : Nat)), some (.int 0)] μ := by simp [q']
      rw [e2, an_nx]
      exact h2
    rw [this]
end K14

set_option Elab.async false
set_option linter.all false
namespace LP

def sm : Nat → (Nat → Rat) → Rat
  | 0, _ => 0
  | n + 1, f => sm n f + f n
theorem sm_congr {n : Nat} {f g : Nat → Rat} (h : ∀ j, j < n → f j = g j) : sm n f = sm n g := by
  induction n with
  | zero => rfl
  | succ n ih => show sm n f + f n = sm n g + g n; rw [ih fun j hj => h j (by omega), h n (by omega)]
theorem sm_add (n : Nat) (f g : Nat → Rat) : sm n (fun j => f j + g j) = sm n f + sm n g := by
  induction n with
  | zero => show (0 : Rat) = 0 + 0; grind
  | succ n ih => show sm n (fun j => f j + g j) + (f n + g n) = (sm n f + f n) + (sm n g + g n); rw [ih]; grind
theorem sm_mul (n : Nat) (a : Rat) (f : Nat → Rat) : sm n (fun j => a * f j) = a * sm n f := by
  induction n with
  | zero => show (0 : Rat) = a * 0; grind
  | succ n ih => show sm n (fun j => a * f j) + a * f n = a * (sm n f + f n); rw [ih]; grind
theorem sm_zero {n : Nat} {f : Nat → Rat} (h : ∀ j, j < n → f j = 0) : sm n f = 0 := by
  induction n with
  | zero => rfl
  | succ n ih => show sm n f + f n = 0; rw [ih fun j hj => h j (by omega), h n (by omega)]; grind
theorem sm_one {n : Nat} {f : Nat → Rat} (a : Nat) (ha : a < n) (h : ∀ j, j < n → j ≠ a → f j = 0) : sm n f = f a := by
  induction n with
  | zero => omega
  | succ n ih =>
    show sm n f + f n = f a
    by_cases e : a = n
    · subst e
      rw [sm_zero fun j hj => h j (by omega) (by omega)]; grind
    · rw [ih (by omega) fun j hj hn => h j (by omega) hn, h n (by omega) (by omega)]; grind
theorem sm_two {n : Nat} {f : Nat → Rat} (a b : Nat) (ha : a < n) (hb : b < n) (hab : a ≠ b) (h : ∀ j, j < n → j ≠ a → j ≠ b → f j = 0) : sm n f = f a + f b := by
  induction n with
  | zero => omega
  | succ n ih =>
    show sm n f + f n = f a + f b
    by_cases e : a = n
    · subst e
      rw [sm_one b (by omega) fun j hj hn => h j (by omega) (by omega) hn]; grind
    · by_cases e2 : b = n
      · subst e2
        rw [sm_one a (by omega) fun j hj hn => h j (by omega) hn (by omega)]
      · rw [ih (by omega) (by omega) fun j hj h1 h2 => h j (by omega) h1 h2, h n (by omega) (by omega) (by omega)]; grind
theorem sm_pos {n : Nat} {f : Nat → Rat} (h : 0 < sm n f) : ∃ j, j < n ∧ 0 < f j := by
  induction n with
  | zero => exact absurd h (by show ¬ (0 : Rat) < 0; grind)
  | succ n ih =>
    have h' : 0 < sm n f + f n := h
    by_cases e : 0 < f n
    · exact ⟨n, by omega, e⟩
    · obtain ⟨j, hj, q⟩ := ih (by grind)
      exact ⟨j, by omega, q⟩
theorem sm_nonneg {n : Nat} {f : Nat → Rat} (h : ∀ j, j < n → 0 ≤ f j) : 0 ≤ sm n f := by
  induction n with
  | zero => show (0 : Rat) ≤ 0; grind
  | succ n ih =>
    have a := ih fun j hj => h j (by omega)
    have b := h n (by omega)
    show 0 ≤ sm n f + f n
    grind

structure Tb where
  T : Nat → Nat → Rat
  G : Nat → Rat
  B : Nat → Nat
structure Good (N m : Nat) (t : Tb) : Prop where
  pos : ∀ i, i < m → 0 < t.T i (t.B i)
  lt : ∀ i, i < m → t.B i < N
  zero : ∀ i, i < m → ∀ k, k < m → i ≠ k → t.T i (t.B k) = 0
  gz : ∀ i, i < m → t.G (t.B i) = 0
  nn : ∀ i, i < m → 0 ≤ t.T i N
def Sol (N m : Nat) (t : Tb) (w : Nat → Rat) : Prop := ∀ i, i < m → sm N (fun j => t.T i j * w j) = t.T i N
structure Step (N m : Nat) (t t' : Tb) (s r : Nat) : Prop where
  hs : s < N
  hr : r < m
  gs : 0 < t.G s
  first : ∀ j, j < s → t.G j ≤ 0
  ps : 0 < t.T r s
  ratio : ∀ i, i < m → 0 < t.T i s → t.T r N * t.T i s ≤ t.T i N * t.T r s
  tie : ∀ i, i < m → 0 < t.T i s → t.T i N * t.T r s = t.T r N * t.T i s → t.B r ≤ t.B i
  row : ∀ j, j ≤ N → t'.T r j = t.T r j
  br : t'.B r = s
  bi : ∀ i, i < m → i ≠ r → t'.B i = t.B i
  rows : ∀ i, i < m → i ≠ r → ∃ e, 0 < e ∧ ∀ j, j ≤ N → e * t'.T i j = t.T r s * t.T i j - t.T i s * t.T r j
  goal : ∃ e, 0 < e ∧ ∀ j, j ≤ N → e * t'.G j = t.T r s * t.G j - t.G s * t.T r j
theorem mul_zero_left {a b : Rat} (ha : 0 < a) (h : a * b = 0) : b = 0 := by
  rcases Rat.mul_eq_zero.mp h with h | h
  · grind
  · exact h
theorem mul_pos_left {a b : Rat} (ha : 0 < a) (h : 0 < a * b) : 0 < b := by
  by_cases q : 0 < b
  · exact q
  · have : a * b ≤ a * 0 := Rat.mul_le_mul_of_nonneg_left (by grind) (by grind)
    grind
theorem mul_nn_left {a b : Rat} (ha : 0 < a) (h : 0 ≤ a * b) : 0 ≤ b := by
  by_cases q : 0 ≤ b
  · exact q
  · have : 0 < a * (-b) := Rat.mul_pos ha (by grind)
    grind
theorem mul_cancel_left {a b c : Rat} (ha : 0 < a) (h : a * b = a * c) : b = c := by
  have : a * (b - c) = 0 := by grind
  have := mul_zero_left ha this
  grind
section
variable {N m : Nat} {t t' : Tb} {s r : Nat}
theorem Good.inj (g : Good N m t) {i k : Nat} (hi : i < m) (hk : k < m) (e : t.B i = t.B k) : i = k := by
  by_cases q : i = k
  · exact q
  · have a := g.zero i hi k hk q
    rw [← e] at a
    have b := g.pos i hi
    grind
theorem Step.nonbasic (g : Good N m t) (st : Step N m t t' s r) {i : Nat} (hi : i < m) : t.B i ≠ s := fun e => by
  have a := g.gz i hi
  rw [e] at a
  have := st.gs
  grind
theorem Step.good (g : Good N m t) (st : Step N m t t' s r) : Good N m t' := by
  have hp := st.ps
  refine ⟨fun i hi => ?_, fun i hi => ?_, fun i hi k hk hne => ?_, fun i hi => ?_, fun i hi => ?_⟩
  · by_cases e : i = r
    · subst e
      rw [st.br, st.row s (Nat.le_of_lt st.hs)]; exact hp
    · obtain ⟨c, hc, h⟩ := st.rows i hi e
      rw [st.bi i hi e]
      have h1 := h (t.B i) (Nat.le_of_lt (g.lt i hi))
      rw [g.zero r st.hr i hi (fun z => e z.symm)] at h1
      have h2 := Rat.mul_pos hp (g.pos i hi)
      exact mul_pos_left hc (by grind)
  · by_cases e : i = r
    · subst e; rw [st.br]; exact st.hs
    · rw [st.bi i hi e]; exact g.lt i hi
  · by_cases e : k = r
    · subst e
      rw [st.br]
      obtain ⟨c, hc, h⟩ := st.rows i hi hne
      have h1 := h s (Nat.le_of_lt st.hs)
      exact mul_zero_left hc (by grind)
    · rw [st.bi k hk e]
      by_cases e2 : i = r
      · subst e2
        rw [st.row _ (Nat.le_of_lt (g.lt k hk))]; exact g.zero i hi k hk hne
      · obtain ⟨c, hc, h⟩ := st.rows i hi e2
        have h1 := h (t.B k) (Nat.le_of_lt (g.lt k hk))
        rw [g.zero i hi k hk hne, g.zero r st.hr k hk (fun z => e z.symm)] at h1
        exact mul_zero_left hc (by grind)
  · obtain ⟨c, hc, h⟩ := st.goal
    by_cases e : i = r
    · subst e
      rw [st.br]
      have h1 := h s (Nat.le_of_lt st.hs)
      exact mul_zero_left hc (by grind)
    · rw [st.bi i hi e]
      have h1 := h (t.B i) (Nat.le_of_lt (g.lt i hi))
      rw [g.gz i hi, g.zero r st.hr i hi (fun z => e z.symm)] at h1
      exact mul_zero_left hc (by grind)
  · by_cases e : i = r
    · subst e
      rw [st.row N (Nat.le_refl _)]; exact g.nn i hi
    · obtain ⟨c, hc, h⟩ := st.rows i hi e
      have h1 := h N (Nat.le_refl _)
      refine mul_nn_left hc ?_
      rw [h1]
      by_cases q : 0 < t.T i s
      · have := st.ratio i hi q; grind
      · have a1 : 0 ≤ t.T r s * t.T i N := Rat.mul_nonneg (by grind) (g.nn i hi)
        have a2 : 0 ≤ (-(t.T i s)) * t.T r N := Rat.mul_nonneg (by grind) (g.nn r st.hr)
        grind
theorem Step.sol (st : Step N m t t' s r) (w : Nat → Rat) : Sol N m t' w ↔ Sol N m t w := by
  have hp := st.ps
  have hr : sm N (fun j => t'.T r j * w j) = sm N (fun j => t.T r j * w j) := sm_congr fun j hj => by rw [st.row j (by omega)]
  have key : ∀ i, i < m → i ≠ r → ∃ e, 0 < e ∧ e * sm N (fun j => t'.T i j * w j) = t.T r s * sm N (fun j => t.T i j * w j) - t.T i s * sm N (fun j => t.T r j * w j) ∧ e * t'.T i N = t.T r s * t.T i N - t.T i s * t.T r N := fun i hi hne => by
    obtain ⟨e, he, h⟩ := st.rows i hi hne
    refine ⟨e, he, ?_, h N (Nat.le_refl _)⟩
    rw [← sm_mul, ← sm_mul]
    have e2 : t.T i s * sm N (fun j => t.T r j * w j) = sm N (fun j => t.T i s * (t.T r j * w j)) := (sm_mul _ _ _).symm
    have e3 : sm N (fun j => t.T r s * (t.T i j * w j)) = sm N (fun j => e * (t'.T i j * w j)) + sm N (fun j => t.T i s * (t.T r j * w j)) := by
      rw [← sm_add]
      refine sm_congr fun j hj => ?_
      have := h j (by omega)
      grind
    rw [e2]; grind
  constructor
  · intro S i hi
    have S0 : sm N (fun j => t.T r j * w j) = t.T r N := by rw [← hr, S r st.hr, st.row N (Nat.le_refl _)]
    by_cases e : i = r
    · subst e; exact S0
    · obtain ⟨c, hc, h1, h2⟩ := key i hi e
      rw [S i hi, h2, S0] at h1
      refine mul_cancel_left hp ?_
      grind
  · intro S i hi
    by_cases e : i = r
    · subst e; rw [hr, S i hi, st.row N (Nat.le_refl _)]
    · obtain ⟨c, hc, h1, h2⟩ := key i hi e
      rw [S i hi, S r st.hr, ← h2] at h1
      exact mul_cancel_left hc h1
/-- the goal's row tells the goal -/
def Tells (N m : Nat) (t : Tb) (obj : (Nat → Rat) → Rat) : Prop := ∃ c, 0 < c ∧ ∀ w, Sol N m t w → c * obj w = sm N (fun j => t.G j * w j) - t.G N
theorem Step.tells (st : Step N m t t' s r) {obj : (Nat → Rat) → Rat} (h : Tells N m t obj) : Tells N m t' obj := by
  obtain ⟨c, hc, h⟩ := h
  obtain ⟨e, he, hg⟩ := st.goal
  have hp := st.ps
  refine ⟨t.T r s * c / e, ?_, fun w S => ?_⟩
  · rw [Rat.div_def]
    exact Rat.mul_pos (Rat.mul_pos hp hc) (Rat.inv_pos.mpr he)
  · have S0 := (st.sol w).mp S
    have h1 := h w S0
    have h2 := S0 r st.hr
    have h3 : e * sm N (fun j => t'.G j * w j) = t.T r s * sm N (fun j => t.G j * w j) - t.G s * sm N (fun j => t.T r j * w j) := by
      have e2 : t.G s * sm N (fun j => t.T r j * w j) = sm N (fun j => t.G s * (t.T r j * w j)) := (sm_mul _ _ _).symm
      have e3 : sm N (fun j => t.T r s * (t.G j * w j)) = sm N (fun j => e * (t'.G j * w j)) + sm N (fun j => t.G s * (t.T r j * w j)) := by
        rw [← sm_add]
        refine sm_congr fun j hj => ?_
        have := hg j (by omega)
        grind
      rw [e2, ← sm_mul, ← sm_mul]; grind
    have h4 := hg N (Nat.le_refl _)
    have he' : e ≠ 0 := by grind
    refine mul_cancel_left he ?_
    have h5 : e * (t.T r s * c / e * obj w) = t.T r s * (c * obj w) := by
      have : e * (t.T r s * c / e) = t.T r s * c := by
        rw [Rat.mul_comm, Rat.div_mul_cancel he']
      grind
    rw [h5, h1]
    grind
end
end LP

set_option Elab.async false
set_option linter.all false
namespace LP
open Classical
/-- the basic solution with the unknown s at x -/
noncomputable def pt (N m : Nat) (t : Tb) (s : Nat) (x : Rat) : Nat → Rat := fun j =>
  if j = s then x else if h : ∃ i, i < m ∧ t.B i = j then (t.T h.choose N - t.T h.choose s * x) / t.T h.choose j else 0
section
variable {N m : Nat} {t t' : Tb} {s r : Nat} {x : Rat}
theorem pt_s : pt N m t s x s = x := by unfold pt; rw [if_pos rfl]
theorem pt_b (g : Good N m t) (hs : ∀ i, i < m → t.B i ≠ s) {i : Nat} (hi : i < m) : pt N m t s x (t.B i) = (t.T i N - t.T i s * x) / t.T i (t.B i) := by
  unfold pt
  rw [if_neg (hs i hi)]
  have h : ∃ k, k < m ∧ t.B k = t.B i := ⟨i, hi, rfl⟩
  rw [dif_pos h]
  have e : h.choose = i := g.inj h.choose_spec.1 hi h.choose_spec.2
  rw [e]
theorem pt_0 {j : Nat} (h1 : j ≠ s) (h2 : ∀ i, i < m → t.B i ≠ j) : pt N m t s x j = 0 := by
  unfold pt
  rw [if_neg h1, dif_neg]
  rintro ⟨i, hi, e⟩
  exact h2 i hi e
theorem div_mul {a b : Rat} (h : 0 < b) : b * (a / b) = a := by
  rw [Rat.mul_comm]; exact Rat.div_mul_cancel (by grind)
/-- a row without basic unknowns, at the basic solution -/
theorem sm_pt (g : Good N m t) (hN : s < N) {u : Nat → Rat} (hu : ∀ i, i < m → u (t.B i) = 0) : sm N (fun j => u j * pt N m t s x j) = u s * x := by
  rw [sm_one s hN fun j hj hne => ?_, pt_s]
  by_cases h : ∃ i, i < m ∧ t.B i = j
  · obtain ⟨i, hi, rfl⟩ := h
    rw [hu i hi]; grind
  · rw [pt_0 hne fun i hi e => h ⟨i, hi, e⟩]; grind
theorem pt_sol (g : Good N m t) (hN : s < N) (hs : ∀ i, i < m → t.B i ≠ s) : Sol N m t (pt N m t s x) := by
  intro i hi
  rw [sm_two s (t.B i) hN (g.lt i hi) (fun e => hs i hi e.symm) fun j hj h1 h2 => ?_, pt_s, pt_b g hs hi, div_mul (g.pos i hi)]
  · grind
  · by_cases h : ∃ k, k < m ∧ t.B k = j
    · obtain ⟨k, hk, rfl⟩ := h
      rw [g.zero i hi k hk (fun e => h2 (by rw [e]))]; grind
    · rw [pt_0 h1 fun k hk e => h ⟨k, hk, e⟩]; grind
/-- the goal along a nonbasic unknown -/
theorem pt_goal (g : Good N m t) (hN : s < N) (hs : ∀ i, i < m → t.B i ≠ s) {obj : (Nat → Rat) → Rat} {c : Rat} (h : ∀ w, Sol N m t w → c * obj w = sm N (fun j => t.G j * w j) - t.G N) : c * obj (pt N m t s x) = t.G s * x - t.G N := by
  rw [h _ (pt_sol g hN hs), sm_pt g hN g.gz]
/-- a bounded goal: some equation bounds the entering unknown -/
theorem bounded (g : Good N m t) (hN : s < N) (hs : ∀ i, i < m → t.B i ≠ s) {obj : (Nat → Rat) → Rat} (tl : Tells N m t obj) (hg : 0 < t.G s) {b : Rat} (hb : ∀ w, Sol N m t w → (∀ j, j < N → 0 ≤ w j) → obj w ≤ b) : ∃ i, i < m ∧ 0 < t.T i s := by
  refine Classical.byContradiction fun hne => ?_
  have hle : ∀ i, i < m → t.T i s ≤ 0 := fun i hi => Classical.byContradiction fun q => hne ⟨i, hi, by grind⟩
  obtain ⟨c, hc, h⟩ := tl
  have key : ∀ x : Rat, 0 ≤ x → t.G s * x - t.G N ≤ c * b := fun x hx => by
    rw [← pt_goal g hN hs h]
    refine Rat.mul_le_mul_of_nonneg_left (hb _ (pt_sol g hN hs) fun j hj => ?_) (by grind)
    by_cases e : j = s
    · subst e; rw [pt_s]; exact hx
    · by_cases q : ∃ i, i < m ∧ t.B i = j
      · obtain ⟨i, hi, rfl⟩ := q
        rw [pt_b g hs hi, Rat.div_def]
        refine Rat.mul_nonneg ?_ ?_
        · have a1 := g.nn i hi
          have a2 : 0 ≤ (-(t.T i s)) * x := Rat.mul_nonneg (by have := hle i hi; grind) hx
          grind
        · have := Rat.inv_pos.mpr (g.pos i hi); grind
      · rw [pt_0 e fun i hi z => q ⟨i, hi, z⟩]; grind
  -- x large
  by_cases hh : 0 ≤ c * b + t.G N
  · have h1 := key ((c * b + t.G N + 1) / t.G s) (by
      rw [Rat.div_def]
      refine Rat.mul_nonneg (by grind) ?_
      have := Rat.inv_pos.mpr hg; grind)
    rw [div_mul hg] at h1
    grind
  · have h1 := key 0 (by grind)
    grind
/-- at the end: no solution has a greater goal -/
theorem optimal (hG : ∀ j, j < N → t.G j ≤ 0) {obj : (Nat → Rat) → Rat} {c : Rat} (hc : 0 < c) (h : ∀ w, Sol N m t w → c * obj w = sm N (fun j => t.G j * w j) - t.G N) {w : Nat → Rat} (S : Sol N m t w) (hw : ∀ j, j < N → 0 ≤ w j) : c * obj w ≤ - t.G N := by
  rw [h w S]
  have : 0 ≤ sm N (fun j => -1 * (t.G j * w j)) := sm_nonneg fun j hj => by
    have : 0 ≤ (-(t.G j)) * w j := Rat.mul_nonneg (by have := hG j hj; grind) (hw j hj)
    grind
  rw [sm_mul] at this
  grind
end

/-! ### Bland's rule ends -/
section
variable {N m : Nat} (t : Nat → Tb) (s r : Nat → Nat)
/-- basic at step n -/
def Bas (m : Nat) (t : Tb) (j : Nat) : Prop := ∃ i, i < m ∧ t.B i = j
variable {t s r}
theorem bas_step {a b : Tb} {s r : Nat} (st : Step N m a b s r) {j : Nat} : Bas m b j → Bas m a j ∨ j = s := by
  rintro ⟨i, hi, e⟩
  by_cases q : i = r
  · subst q; rw [st.br] at e; exact .inr e.symm
  · rw [st.bi i hi q] at e; exact .inl ⟨i, hi, e⟩
theorem bas_stay {a b : Tb} {s r : Nat} (st : Step N m a b s r) {j : Nat} : Bas m a j → Bas m b j ∨ a.B r = j := by
  rintro ⟨i, hi, e⟩
  by_cases q : i = r
  · subst q; exact .inr e
  · exact .inl ⟨i, hi, by rw [st.bi i hi q]; exact e⟩
theorem bas_in {a b : Tb} {s r : Nat} (st : Step N m a b s r) : Bas m b s := ⟨r, st.hr, st.br⟩
/-- never basic, basic later: it enters between -/
theorem enters (hst : ∀ n, Step N m (t n) (t (n + 1)) (s n) (r n)) {j a : Nat} : ∀ d, ¬ Bas m (t a) j → Bas m (t (a + d)) j → ∃ k, a ≤ k ∧ k < a + d ∧ s k = j
  | 0, h1, h2 => absurd h2 h1
  | d + 1, h1, h2 => by
    by_cases q : Bas m (t (a + d)) j
    · obtain ⟨k, h3, h4, h5⟩ := enters hst d h1 q
      exact ⟨k, h3, by omega, h5⟩
    · rcases bas_step (hst (a + d)) (j := j) h2 with z | z
      · exact absurd z q
      · exact ⟨a + d, by omega, by omega, z.symm⟩
theorem leaves (hst : ∀ n, Step N m (t n) (t (n + 1)) (s n) (r n)) {j a : Nat} : ∀ d, Bas m (t a) j → ¬ Bas m (t (a + d)) j → ∃ k, a ≤ k ∧ k < a + d ∧ (t k).B (r k) = j
  | 0, h1, h2 => absurd h1 h2
  | d + 1, h1, h2 => by
    by_cases q : Bas m (t (a + d)) j
    · rcases bas_stay (hst (a + d)) (j := j) q with z | z
      · exact absurd z h2
      · exact ⟨a + d, by omega, by omega, z⟩
    · obtain ⟨k, h3, h4, h5⟩ := leaves hst d h1 q
      exact ⟨k, h3, by omega, h5⟩
end
end LP

set_option Elab.async false
set_option linter.all false
namespace LP
theorem has_max (s : Nat → Nat) : ∀ N, (∀ n, s n < N) → ∃ b, ∀ n, s n ≤ s b
  | 0, h => absurd (h 0) (by omega)
  | N + 1, h => by
    by_cases q : ∃ b, s b = N
    · obtain ⟨b, e⟩ := q
      exact ⟨b, fun n => by have := h n; omega⟩
    · exact has_max s N fun n => by
        have := h n
        have : s n ≠ N := fun e => q ⟨n, e⟩
        omega
section
variable {N m L : Nat} {t : Nat → Tb} {s r : Nat → Nat}
theorem good_all (hst : ∀ n, Step N m (t n) (t (n + 1)) (s n) (r n)) (g0 : Good N m (t 0)) : ∀ n, Good N m (t n)
  | 0 => g0
  | n + 1 => (hst n).good (good_all hst g0 n)
theorem sol_all (hst : ∀ n, Step N m (t n) (t (n + 1)) (s n) (r n)) (w : Nat → Rat) : ∀ n, Sol N m (t n) w ↔ Sol N m (t 0) w
  | 0 => Iff.rfl
  | n + 1 => ((hst n).sol w).trans (sol_all hst w n)
theorem tells_all (hst : ∀ n, Step N m (t n) (t (n + 1)) (s n) (r n)) {obj : (Nat → Rat) → Rat} (h0 : Tells N m (t 0) obj) : ∀ n, Tells N m (t n) obj
  | 0 => h0
  | n + 1 => (hst n).tells (tells_all hst h0 n)
theorem sol_ab (hst : ∀ n, Step N m (t n) (t (n + 1)) (s n) (r n)) {w : Nat → Rat} {a b : Nat} (h : Sol N m (t a) w) : Sol N m (t b) w := (sol_all hst w b).mpr ((sol_all hst w a).mp h)
theorem per_mul {α : Type} {f : Nat → α} (hp : ∀ n, f (n + L) = f n) (n : Nat) : ∀ k, f (n + k * L) = f n
  | 0 => by rw [Nat.zero_mul]; rfl
  | k + 1 => by rw [Nat.succ_mul, ← Nat.add_assoc, hp, per_mul hp n k]
theorem mono_le {v : Nat → Rat} (h : ∀ n, v n ≤ v (n + 1)) (n : Nat) : ∀ d, v n ≤ v (n + d)
  | 0 => by show v n ≤ v n; grind
  | d + 1 => by have a := mono_le h n d; have b := h (n + d); have e : v (n + (d + 1)) = v (n + d + 1) := rfl; grind
theorem no_cycle (hL : 0 < L) (hst : ∀ n, Step N m (t n) (t (n + 1)) (s n) (r n)) (g0 : Good N m (t 0)) {obj : (Nat → Rat) → Rat} (h0 : Tells N m (t 0) obj) (pt_ : ∀ n, t (n + L) = t n) (ps : ∀ n, s (n + L) = s n) : False := by
  have g := good_all hst g0
  have nb : ∀ n i, i < m → (t n).B i ≠ s n := fun n i hi => (hst n).nonbasic (g n) hi
  -- no progress
  have inc : ∀ n, ∃ c, 0 < c ∧ c * (obj (pt N m (t (n + 1)) (s (n + 1)) 0) - obj (pt N m (t n) (s n) 0)) = (t n).G (s n) * ((t n).T (r n) N / (t n).T (r n) (s n)) := by
    intro n
    obtain ⟨c, hc, h⟩ := tells_all hst h0 n
    refine ⟨c, hc, ?_⟩
    have S1 : Sol N m (t n) (pt N m (t (n + 1)) (s (n + 1)) 0) := sol_ab hst (pt_sol (g (n + 1)) (hst (n + 1)).hs (nb (n + 1)))
    have e1 := h _ S1
    have e0 := pt_goal (x := 0) (g n) (hst n).hs (nb n) h
    have hsb : (t (n + 1)).B (r n) = s n := (hst n).br
    have e2 : pt N m (t (n + 1)) (s (n + 1)) 0 (s n) = (t n).T (r n) N / (t n).T (r n) (s n) := by
      have := pt_b (x := 0) (g (n + 1)) (nb (n + 1)) (hst n).hr
      rw [hsb, (hst n).row N (Nat.le_refl _), (hst n).row (s n) (Nat.le_of_lt (hst n).hs)] at this
      rw [this]; grind
    have e3 : sm N (fun j => (t n).G j * pt N m (t (n + 1)) (s (n + 1)) 0 j) = (t n).G (s n) * ((t n).T (r n) N / (t n).T (r n) (s n)) := by
      rw [sm_one (s n) (hst n).hs fun j hj hne => ?_, e2]
      by_cases q : Bas m (t n) j
      · obtain ⟨i, hi, rfl⟩ := q
        rw [(g n).gz i hi]; grind
      · have q2 : ∀ i, i < m → (t (n + 1)).B i ≠ j := fun i hi e => by
          rcases bas_step (hst n) ⟨i, hi, e⟩ with z | z
          · exact q z
          · exact hne z
        by_cases e : j = s (n + 1)
        · subst e; rw [pt_s]; grind
        · rw [pt_0 e q2]; grind
    rw [e3] at e1
    grind
  have mono : ∀ n, obj (pt N m (t n) (s n) 0) ≤ obj (pt N m (t (n + 1)) (s (n + 1)) 0) := fun n => by
    obtain ⟨c, hc, h⟩ := inc n
    have : 0 ≤ (t n).G (s n) * ((t n).T (r n) N / (t n).T (r n) (s n)) := by
      rw [Rat.div_def]
      have a1 := (hst n).gs
      have a2 := (g n).nn (r n) (hst n).hr
      have a3 := Rat.inv_pos.mpr (hst n).ps
      exact Rat.mul_nonneg (by grind) (Rat.mul_nonneg a2 (by grind))
    rw [← h] at this
    have := mul_nn_left hc this
    grind
  have flat : ∀ n, (t n).T (r n) N = 0 := fun n => by
    obtain ⟨c, hc, h⟩ := inc n
    have b := mono_le (v := fun n => obj (pt N m (t n) (s n) 0)) mono (n + 1) (L - 1)
    have e : n + 1 + (L - 1) = n + L := by omega
    rw [e, pt_ n, ps n] at b
    have a := mono n
    have : (t n).G (s n) * ((t n).T (r n) N / (t n).T (r n) (s n)) = 0 := by
      rw [← h]
      have : obj (pt N m (t (n + 1)) (s (n + 1)) 0) - obj (pt N m (t n) (s n) 0) = 0 := by grind
      rw [this]; grind
    have := mul_zero_left (hst n).gs this
    have z := div_mul (a := (t n).T (r n) N) (hst n).ps
    rw [this] at z
    grind
  -- what is basic and not 0 stays so
  have stay : ∀ n i, i < m → 0 < (t n).T i N → ∀ d, ∃ k, k < m ∧ (t (n + d)).B k = (t n).B i ∧ 0 < (t (n + d)).T k N := fun n i hi h d => by
    induction d with
    | zero => exact ⟨i, hi, rfl, h⟩
    | succ d ih =>
      obtain ⟨k, hk, e, q⟩ := ih
      have hne : k ≠ r (n + d) := fun z => by
        have := flat (n + d)
        rw [← z] at this
        grind
      obtain ⟨c, hc, hr⟩ := (hst (n + d)).rows k hk hne
      have h1 := hr N (Nat.le_refl _)
      rw [flat (n + d)] at h1
      refine ⟨k, hk, ((hst (n + d)).bi k hk hne).trans e, mul_pos_left hc ?_⟩
      have h2 := Rat.mul_pos (hst (n + d)).ps q
      have e3 : t (n + (d + 1)) = t (n + d + 1) := rfl
      rw [e3]
      grind
  have zero : ∀ n n0 i, i < m → ¬ Bas m (t n0) ((t n).B i) → (t n).T i N = 0 := fun n n0 i hi hb => by
    have := (g n).nn i hi
    refine Classical.byContradiction fun hne => ?_
    have e1 : n ≤ n0 + n * L := Nat.le_trans (Nat.le_mul_of_pos_right n hL) (Nat.le_add_left _ _)
    obtain ⟨k, hk, e, _⟩ := stay n i hi (by grind) (n0 + n * L - n)
    have e2 : n + (n0 + n * L - n) = n0 + n * L := by omega
    rw [e2, per_mul pt_ n0 n] at e
    exact hb ⟨k, hk, e⟩
  -- the greatest entering one
  obtain ⟨b, hb⟩ := has_max s N fun n => (hst n).hs
  have nbb : ¬ Bas m (t b) (s b) := fun ⟨i, hi, e⟩ => nb b i hi e
  obtain ⟨a, _, _, ha⟩ := leaves hst (j := s b) (a := b + 1) (L - 1) (bas_in (hst b)) (by
    have e : b + 1 + (L - 1) = b + L := by omega
    rw [e, pt_ b]; exact nbb)
  have hsa : s a < s b := by
    have h1 := hb a
    have h2 := nb a (r a) (hst a).hr
    rw [ha] at h2
    omega
  -- the direction at a, told at b
  obtain ⟨ca, hca, hA⟩ := tells_all hst h0 a
  obtain ⟨cb, hcb, hB⟩ := tells_all hst h0 b
  have A1 := pt_goal (x := 1) (g a) (hst a).hs (nb a) hA
  have A0 := pt_goal (x := 0) (g a) (hst a).hs (nb a) hA
  have hdiff : 0 < obj (pt N m (t a) (s a) 1) - obj (pt N m (t a) (s a) 0) := by
    refine mul_pos_left hca ?_
    have := (hst a).gs
    grind
  have B1 := hB _ (sol_ab hst (a := a) (b := b) (pt_sol (x := 1) (g a) (hst a).hs (nb a)))
  have B0 := hB _ (sol_ab hst (a := a) (b := b) (pt_sol (x := 0) (g a) (hst a).hs (nb a)))
  have hsum : 0 < sm N (fun j => (t b).G j * pt N m (t a) (s a) 1 j + (-1) * ((t b).G j * pt N m (t a) (s a) 0 j)) := by
    rw [sm_add, sm_mul]
    have := Rat.mul_pos hcb hdiff
    grind
  obtain ⟨j, hj, hpos⟩ := sm_pos hsum
  by_cases e : j = s a
  · subst e
    rw [pt_s, pt_s] at hpos
    have := (hst b).first _ hsa
    grind
  · by_cases q : Bas m (t a) j
    · obtain ⟨i, hi, rfl⟩ := q
      rw [pt_b (g a) (nb a) hi, pt_b (g a) (nb a) hi] at hpos
      have hp := (g a).pos i hi
      have hpos2 : 0 < (t b).G ((t a).B i) * (-((t a).T i (s a))) := by
        have h1 := div_mul (a := (t a).T i N - (t a).T i (s a) * 1) hp
        have h2 := div_mul (a := (t a).T i N - (t a).T i (s a) * 0) hp
        have h3 := Rat.mul_pos hp hpos
        generalize ((t a).T i N - (t a).T i (s a) * 1) / (t a).T i ((t a).B i) = u at *
        generalize ((t a).T i N - (t a).T i (s a) * 0) / (t a).T i ((t a).B i) = v at *
        have h4 : (t b).G ((t a).B i) * (-((t a).T i (s a))) = (t b).G ((t a).B i) * ((t a).T i ((t a).B i) * u - (t a).T i ((t a).B i) * v) := by rw [h1, h2]; grind
        rw [h4]; grind
      have nbj : ¬ Bas m (t b) ((t a).B i) := fun ⟨k, hk, z⟩ => by
        have := (g b).gz k hk
        rw [z] at this
        rw [this] at hpos2
        grind
      have hle : (t a).B i ≤ s b := by
        have e1 : b ≤ a + b * L := Nat.le_trans (Nat.le_mul_of_pos_right b hL) (Nat.le_add_left _ _)
        obtain ⟨k, _, _, hk⟩ := enters hst (j := (t a).B i) (a := b) (a + b * L - b) nbj (by
          have e2 : b + (a + b * L - b) = a + b * L := by omega
          rw [e2, per_mul pt_ a b]
          exact ⟨i, hi, rfl⟩)
        rw [← hk]; exact hb k
      by_cases e3 : (t a).B i = s b
      · have hir : i = r a := (g a).inj hi (hst a).hr (by rw [ha]; exact e3)
        subst hir
        rw [e3] at hpos2
        have h1 := (hst b).gs
        have h2 := (hst a).ps
        have := Rat.mul_pos h1 h2
        grind
      · have hlt : (t a).B i < s b := by omega
        have h1 := (hst b).first _ hlt
        have h2 : 0 < (t a).T i (s a) := by
          refine Classical.byContradiction fun hn => ?_
          have : 0 ≤ (-((t b).G ((t a).B i))) * (-((t a).T i (s a))) := Rat.mul_nonneg (by grind) (by grind)
          grind
        have h3 := (hst a).tie i hi h2 (by rw [zero a b i hi nbj, flat a]; grind)
        rw [ha] at h3
        omega
    · rw [pt_0 e fun i hi z => q ⟨i, hi, z⟩, pt_0 e fun i hi z => q ⟨i, hi, z⟩] at hpos
      grind
end
end LP

set_option Elab.async false
set_option linter.all false
namespace LP
theorem pigeon : ∀ (k n : Nat) (f : Nat → Nat), k < n → (∀ i, i < n → f i < k) → ∃ i j, i < j ∧ j < n ∧ f i = f j
  | 0, n, f, h, hf => absurd (hf 0 (by omega)) (by omega)
  | k + 1, n, f, h, hf => by
    by_cases q : ∃ i, i < n - 1 ∧ f i = f (n - 1)
    · obtain ⟨i, hi, e⟩ := q
      exact ⟨i, n - 1, hi, by omega, e⟩
    · have hne : ∀ i, i < n - 1 → f i ≠ f (n - 1) := fun i hi e => q ⟨i, hi, e⟩
      obtain ⟨i, j, h1, h2, h3⟩ := pigeon k (n - 1) (fun i => if f i = k then f (n - 1) else f i) (by omega) (fun i hi => by
        have a := hf i (by omega)
        have b := hf (n - 1) (by omega)
        have c := hne i hi
        show (if f i = k then f (n - 1) else f i) < k
        split
        · omega
        · omega)
      refine ⟨i, j, h1, by omega, ?_⟩
      have c1 := hne i (by omega)
      have c2 := hne j (by omega)
      have h3' : (if f i = k then f (n - 1) else f i) = (if f j = k then f (n - 1) else f j) := h3
      split at h3' <;> split at h3' <;> omega
def im : Nat → (Nat → Int) → Int
  | 0, _ => 0
  | n + 1, f => im n f + f n
theorem im_congr {n : Nat} {f g : Nat → Int} (h : ∀ j, j < n → f j = g j) : im n f = im n g := by
  induction n with
  | zero => rfl
  | succ n ih => show im n f + f n = im n g + g n; rw [ih fun j hj => h j (by omega), h n (by omega)]
theorem im_add (n : Nat) (f g : Nat → Int) : im n (fun j => f j + g j) = im n f + im n g := by
  induction n with
  | zero => rfl
  | succ n ih => show im n (fun j => f j + g j) + (f n + g n) = (im n f + f n) + (im n g + g n); rw [ih]; omega
theorem im_sub (n : Nat) (f g : Nat → Int) : im n (fun j => f j - g j) = im n f - im n g := by
  induction n with
  | zero => rfl
  | succ n ih => show im n (fun j => f j - g j) + (f n - g n) = (im n f + f n) - (im n g + g n); rw [ih]; omega
theorem im_mul (n : Nat) (a : Int) (f : Nat → Int) : im n (fun j => a * f j) = a * im n f := by
  induction n with
  | zero => show (0 : Int) = a * 0; simp
  | succ n ih => show im n (fun j => a * f j) + a * f n = a * (im n f + f n); rw [ih, Int.mul_add]
theorem im_zero {n : Nat} {f : Nat → Int} (h : ∀ j, j < n → f j = 0) : im n f = 0 := by
  induction n with
  | zero => rfl
  | succ n ih => show im n f + f n = 0; rw [ih fun j hj => h j (by omega), h n (by omega)]; rfl
theorem im_one {n : Nat} {f : Nat → Int} (a : Nat) (ha : a < n) (h : ∀ j, j < n → j ≠ a → f j = 0) : im n f = f a := by
  induction n with
  | zero => omega
  | succ n ih =>
    show im n f + f n = f a
    by_cases e : a = n
    · subst e
      rw [im_zero fun j hj => h j (by omega) (by omega)]; omega
    · rw [ih (by omega) fun j hj hn => h j (by omega) hn, h n (by omega) (by omega)]; omega
theorem im_le {n b : Nat} {f : Nat → Int} (h : ∀ j, j < n → (f j).natAbs ≤ b) : (im n f).natAbs ≤ n * b := by
  induction n with
  | zero => show (0 : Int).natAbs ≤ _; simp
  | succ n ih =>
    show (im n f + f n).natAbs ≤ _
    have a := ih fun j hj => h j (by omega)
    have c := h n (by omega)
    rw [Nat.succ_mul]
    omega
/-- the k-th digit -/
def dg (b x k : Nat) : Nat := x / b ^ k % b
theorem dg_lt {b x k : Nat} (hb : 0 < b) : dg b x k < b := Nat.mod_lt _ hb
theorem dg_eq {b : Nat} (hb : 0 < b) : ∀ (K x y : Nat), x < b ^ K → y < b ^ K → (∀ k, k < K → dg b x k = dg b y k) → x = y
  | 0, x, y, hx, hy, _ => by simp at hx hy; omega
  | K + 1, x, y, hx, hy, h => by
    have h0 := h 0 (by omega)
    unfold dg at h0
    simp at h0
    have e : x / b = y / b := dg_eq hb K (x / b) (y / b) (by rw [Nat.div_lt_iff_lt_mul hb]; rw [Nat.pow_succ] at hx; exact hx) (by rw [Nat.div_lt_iff_lt_mul hb]; rw [Nat.pow_succ] at hy; exact hy) fun k hk => by
      have := h (k + 1) (by omega)
      unfold dg at this ⊢
      rw [Nat.div_div_eq_div_mul, Nat.div_div_eq_div_mul]
      rw [Nat.pow_succ, Nat.mul_comm] at this
      exact this
    have a := Nat.div_add_mod x b
    have c := Nat.div_add_mod y b
    rw [e, h0] at a
    omega
/-- values as one number -/
def enc (S : Nat) (e : Nat → Nat) : List Nat → Nat
  | [] => 0
  | z :: zs => e z + S * enc S e zs
theorem enc_lt {S : Nat} {e : Nat → Nat} : ∀ {zs : List Nat}, (∀ z ∈ zs, e z < S) → enc S e zs < S ^ zs.length
  | [], _ => by show 0 < S ^ 0; simp
  | z :: zs, h => by
    have a := h z (by simp)
    have b := enc_lt (zs := zs) fun y hy => h y (by simp [hy])
    show e z + S * enc S e zs < S ^ (zs.length + 1)
    rw [Nat.pow_succ, Nat.mul_comm (S ^ zs.length) S]
    have : S * (enc S e zs + 1) ≤ S * S ^ zs.length := Nat.mul_le_mul_left _ b
    rw [Nat.mul_add] at this
    omega
theorem enc_eq {S : Nat} {e f : Nat → Nat} : ∀ {zs : List Nat}, (∀ z ∈ zs, e z < S) → (∀ z ∈ zs, f z < S) → enc S e zs = enc S f zs → ∀ z ∈ zs, e z = f z
  | [], _, _, _, z, hz => by cases hz
  | y :: zs, he, hf, h, z, hz => by
    have a := he y (by simp)
    have b := hf y (by simp)
    have h' : e y + S * enc S e zs = f y + S * enc S f zs := h
    have m1 : (e y + S * enc S e zs) % S = e y := by rw [Nat.add_mul_mod_self_left, Nat.mod_eq_of_lt a]
    have m2 : (f y + S * enc S f zs) % S = f y := by rw [Nat.add_mul_mod_self_left, Nat.mod_eq_of_lt b]
    have e1 : e y = f y := by rw [← m1, h', m2]
    rcases List.mem_cons.mp hz with q | q
    · rw [q]; exact e1
    · have hS : 0 < S := by omega
      have e2 : S * enc S e zs = S * enc S f zs := by omega
      exact enc_eq (fun y hy => he y (by simp [hy])) (fun y hy => hf y (by simp [hy])) (Nat.eq_of_mul_eq_mul_left hS e2) z q
theorem siegel (K : Nat) (R : Nat → Nat → Int) (M : Nat) (zs : List Nat) (hK : 0 < K) (hz : zs.length ≤ K - 1) (hR : ∀ k, k < K → ∀ j ∈ zs, (R k j).natAbs ≤ M) :
    ∃ y : Nat → Int, (∃ k, k < K ∧ y k ≠ 0) ∧ (∀ k, k < K → (y k).natAbs ≤ (2 * K * M + 1) ^ (K - 1)) ∧ ∀ j ∈ zs, im K (fun k => y k * R k j) = 0 := by
  generalize hB : (2 * K * M + 1) ^ (K - 1) = B
  have hb : 0 < B + 1 := by omega
  let val : Nat → Nat → Int := fun x z => im K (fun k => (dg (B + 1) x k : Int) * R k z)
  have hval : ∀ x, ∀ z ∈ zs, (val x z).natAbs ≤ K * (B * M) := fun x z hz => im_le fun k hk => by
    rw [Int.natAbs_mul]
    have a : dg (B + 1) x k < B + 1 := dg_lt hb
    have a2 : ((dg (B + 1) x k : Int)).natAbs ≤ B := by simp; omega
    exact Nat.mul_le_mul a2 (hR k hk z hz)
  let e : Nat → Nat → Nat := fun x z => (val x z + (K * (B * M) : Nat)).toNat
  let S := 2 * (K * (B * M)) + 1
  have he : ∀ x, ∀ z ∈ zs, e x z < S := fun x z hz => by
    have := hval x z hz
    show (val x z + (K * (B * M) : Nat)).toNat < 2 * (K * (B * M)) + 1
    omega
  have hS : S ^ zs.length < (B + 1) ^ K := by
    have h1 : S ≤ (2 * K * M + 1) * (B + 1) := by
      show 2 * (K * (B * M)) + 1 ≤ _
      have : (2 * K * M + 1) * (B + 1) = 2 * (K * (B * M)) + 2 * K * M + B + 1 := by grind
      rw [this]; omega
    have h2 : S ^ zs.length ≤ S ^ (K - 1) := Nat.pow_le_pow_right (by show 0 < 2 * (K * (B * M)) + 1; omega) hz
    have h3 : S ^ (K - 1) ≤ ((2 * K * M + 1) * (B + 1)) ^ (K - 1) := Nat.pow_le_pow_left h1 _
    rw [Nat.mul_pow, hB] at h3
    have h4 : (B + 1) ^ K = (B + 1) * (B + 1) ^ (K - 1) := by
      have : K = K - 1 + 1 := by omega
      rw [this, Nat.pow_succ]; simp [Nat.mul_comm]
    have h5 : 0 < (B + 1) ^ (K - 1) := Nat.pow_pos hb
    rw [h4, Nat.add_mul]
    omega
  obtain ⟨x1, x2, h12, hx2, heq⟩ := pigeon (S ^ zs.length) ((B + 1) ^ K) (fun x => enc S (e x) zs) hS fun x _ => enc_lt (he x)
  have hx1 : x1 < (B + 1) ^ K := by omega
  refine ⟨fun k => (dg (B + 1) x1 k : Int) - dg (B + 1) x2 k, ?_, fun k hk => ?_, fun j hj => ?_⟩
  · refine Classical.byContradiction fun hne => ?_
    have : x1 = x2 := dg_eq hb K x1 x2 hx1 hx2 fun k hk => by
      refine Classical.byContradiction fun q => hne ⟨k, hk, ?_⟩
      show (dg (B + 1) x1 k : Int) - dg (B + 1) x2 k ≠ 0
      omega
    omega
  · have a : dg (B + 1) x1 k < B + 1 := dg_lt hb
    have b : dg (B + 1) x2 k < B + 1 := dg_lt hb
    show ((dg (B + 1) x1 k : Int) - dg (B + 1) x2 k).natAbs ≤ B
    omega
  · have q := enc_eq (he x1) (he x2) heq j hj
    have a := hval x1 j hj
    have b := hval x2 j hj
    have q' : (val x1 j + (K * (B * M) : Nat)).toNat = (val x2 j + (K * (B * M) : Nat)).toNat := q
    have q2 : val x1 j = val x2 j := by omega
    have q3 : im K (fun k => ((dg (B + 1) x1 k : Int) - dg (B + 1) x2 k) * R k j) = val x1 j - val x2 j := by
      rw [← im_sub]
      exact im_congr fun k hk => Int.sub_mul _ _ _
    show im K (fun k => ((dg (B + 1) x1 k : Int) - dg (B + 1) x2 k) * R k j) = 0
    rw [q3]; omega
end LP

set_option Elab.async false
set_option linter.all false
namespace LP
structure It where
  T : Nat → Nat → Int
  G : Nat → Int
  B : Nat → Nat
def tb (N m : Nat) (x : It) : Tb := ⟨fun i j => if i < m ∧ j ≤ N then (x.T i j : Rat) else 0, fun j => if j ≤ N then (x.G j : Rat) else 0, fun i => if i < m then x.B i else 0⟩
section
variable {N m n o : Nat} {T0 : Nat → Nat → Int} {x : It}
theorem tb_T {i j : Nat} (hi : i < m) (hj : j ≤ N) : (tb N m x).T i j = (x.T i j : Rat) := if_pos ⟨hi, hj⟩
theorem tb_G {j : Nat} (hj : j ≤ N) : (tb N m x).G j = (x.G j : Rat) := if_pos hj
theorem tb_B {i : Nat} (hi : i < m) : (tb N m x).B i = x.B i := if_pos hi
/-- the first table: slacks in the columns n, n + 1, ..; the goal is the unknown o -/
structure Orig (N m n o : Nat) (T0 : Nat → Nat → Int) : Prop where
  hN : N = n + m
  slack : ∀ k, k < m → ∀ l, l < m → T0 k (n + l) = if k = l then 1 else 0
  ho : o < n
def Sol0 (N m : Nat) (T0 : Nat → Nat → Int) (w : Nat → Rat) : Prop := ∀ k, k < m → sm N (fun j => (T0 k j : Rat) * w j) = (T0 k N : Rat)
def e_ (o j : Nat) : Int := if j = o then 1 else 0
/-- nothing divides all -/
def Prim (N : Nat) (f : Nat → Int) : Prop := ∀ d q : Nat, (∀ j, j ≤ N → d ∣ q * (f j).natAbs) → d ∣ q
structure IInv (N m n o : Nat) (T0 : Nat → Nat → Int) (x : It) : Prop where
  good : Good N m (tb N m x)
  comb : ∀ i, i < m → ∀ j, j ≤ N → x.T i j = im m (fun k => x.T i (n + k) * T0 k j)
  gcomb : ∃ c : Int, 0 < c ∧ ∀ j, j ≤ N → x.G j = im m (fun k => x.G (n + k) * T0 k j) + c * e_ o j
  prim : ∀ i, i < m → Prim N (x.T i)
  gprim : Prim N x.G
  sol : ∀ w, Sol N m (tb N m x) w → Sol0 N m T0 w
theorem rc_add (a b : Int) : ((a + b : Int) : Rat) = a + b := Rat.intCast_add a b
theorem rc_mul (a b : Int) : ((a * b : Int) : Rat) = a * b := Rat.intCast_mul a b
theorem rc_zero : ((0 : Int) : Rat) = 0 := rfl
theorem rc_inj {a b : Int} (h : (a : Rat) = b) : a = b := Rat.intCast_inj.mp h
theorem comb_sol {w : Nat → Rat} (h : Sol0 N m T0 w) (b : Nat → Int) : sm N (fun j => ((im m (fun k => b k * T0 k j) : Int) : Rat) * w j) = ((im m (fun k => b k * T0 k N) : Int) : Rat) := by
  have key : ∀ q, q ≤ m → sm N (fun j => ((im q (fun k => b k * T0 k j) : Int) : Rat) * w j) = ((im q (fun k => b k * T0 k N) : Int) : Rat) := by
    intro q
    induction q with
    | zero =>
      intro _
      show sm N (fun j => ((0 : Int) : Rat) * w j) = ((0 : Int) : Rat)
      rw [sm_zero fun j hj => by rw [rc_zero]; grind]; rfl
    | succ q ih =>
      intro hq
      show sm N (fun j => ((im q (fun k => b k * T0 k j) + b q * T0 q j : Int) : Rat) * w j) = ((im q (fun k => b k * T0 k N) + b q * T0 q N : Int) : Rat)
      rw [rc_add, ← ih (by omega), rc_mul, ← h q (by omega), ← sm_mul, ← sm_add]
      refine sm_congr fun j hj => ?_
      rw [rc_add, rc_mul]; grind
  exact key m (Nat.le_refl _)
/-- a row of the first ones' span that has no basic unknown is 0 -/
theorem vanish (I : IInv N m n o T0 x) {u b : Nat → Int} (hu : ∀ j, j ≤ N → u j = im m (fun k => b k * T0 k j)) (hz : ∀ i, i < m → u (x.B i) = 0) : ∀ j, j ≤ N → u j = 0 := by
  have g := I.good
  have hz' : ∀ i, i < m → ((u ((tb N m x).B i) : Int) : Rat) = 0 := fun i hi => by rw [tb_B hi, hz i hi]; rfl
  have go : ∀ w, Sol N m (tb N m x) w → sm N (fun j => (u j : Rat) * w j) = (u N : Rat) := fun w S => by
    rw [hu N (Nat.le_refl _), ← comb_sol (I.sol w S) b]
    exact sm_congr fun j hj => by rw [hu j (by omega)]
  -- the last
  have hN0 : u N = 0 := by
    have S : Sol N m (tb N m x) (pt N m (tb N m x) N 0) := by
      intro i hi
      have hs : ∀ k, k < m → (tb N m x).B k ≠ N := fun k hk e => by have := g.lt k hk; omega
      rw [sm_one ((tb N m x).B i) (g.lt i hi) fun j hj h2 => ?_, pt_b g hs hi, div_mul (g.pos i hi)]
      · grind
      · by_cases h : ∃ k, k < m ∧ (tb N m x).B k = j
        · obtain ⟨k, hk, rfl⟩ := h
          rw [g.zero i hi k hk (fun e => h2 (by rw [e]))]; grind
        · rw [pt_0 (by omega) fun k hk e => h ⟨k, hk, e⟩]; grind
    have q := go _ S
    rw [sm_zero fun j hj => ?_] at q
    · exact (rc_inj (q.trans rfl : ((0 : Int) : Rat) = u N)).symm
    · by_cases h : ∃ k, k < m ∧ (tb N m x).B k = j
      · obtain ⟨k, hk, rfl⟩ := h
        rw [hz' k hk]; grind
      · rw [pt_0 (by omega) fun k hk e => h ⟨k, hk, e⟩]; grind
  intro j hj
  by_cases e : j = N
  · rw [e]; exact hN0
  · by_cases h : ∃ k, k < m ∧ (tb N m x).B k = j
    · obtain ⟨k, hk, rfl⟩ := h
      exact rc_inj (hz' k hk)
    · have hs : ∀ i, i < m → (tb N m x).B i ≠ j := fun i hi z => h ⟨i, hi, z⟩
      have q := go _ (pt_sol (x := 1) g (by omega) hs)
      rw [sm_pt (u := fun j => (u j : Rat)) g (by omega) hz', hN0] at q
      have q2 : (u j : Rat) = ((0 : Int) : Rat) := by rw [rc_zero] at q ⊢; grind
      exact rc_inj q2
/-- what a primitive row is bounded by -/
theorem prim_le {f v : Nat → Int} {c d : Int} (hf : Prim N f) (hc : c ≠ 0) (hd : d ≠ 0) (h : ∀ j, j ≤ N → c * v j = d * f j) : ∀ j, j ≤ N → (f j).natAbs ≤ (v j).natAbs := by
  have h1 : c.natAbs ∣ d.natAbs := hf _ _ fun j hj => by
    rw [← Int.natAbs_mul, ← h j hj, Int.natAbs_mul]; exact Nat.dvd_mul_right _ _
  intro j hj
  have h2 := congrArg Int.natAbs (h j hj)
  rw [Int.natAbs_mul, Int.natAbs_mul] at h2
  obtain ⟨q, hq⟩ := h1
  rw [hq, Nat.mul_assoc] at h2
  have hc' : 0 < c.natAbs := by omega
  have h3 := Nat.eq_of_mul_eq_mul_left hc' h2
  have hq0 : 0 < q := by
    refine Nat.pos_of_ne_zero fun e => ?_
    rw [e, Nat.mul_zero] at hq
    omega
  rw [h3]
  exact Nat.le_mul_of_pos_left _ hq0
def bnd (K M : Nat) : Nat := K * ((2 * K * M + 1) ^ (K - 1) * M)
theorem im_slack (O : Orig N m n o T0) (y : Nat → Int) {l : Nat} (hl : l < m) : im m (fun k => y k * T0 k (n + l)) = y l := by
  rw [im_one l hl fun k hk hne => by rw [O.slack k hk l hl, if_neg hne]; simp, O.slack l hl l hl, if_pos rfl]; simp
theorem row_le (O : Orig N m n o T0) (I : IInv N m n o T0 x) {M : Nat} (hM : ∀ k, k < m → ∀ j, j ≤ N → (T0 k j).natAbs ≤ M) {i : Nat} (hi : i < m) : ∀ j, j ≤ N → (x.T i j).natAbs ≤ bnd m M := by
  have g := I.good
  have hlt : ∀ k, k < m → x.B k < N := fun k hk => by have := g.lt k hk; rwa [tb_B hk] at this
  let zs := ((List.range m).filter (· ≠ i)).map x.B
  have hzl : zs.length ≤ m - 1 := by
    show (((List.range m).filter (· ≠ i)).map x.B).length ≤ m - 1
    rw [List.length_map]
    have h1 : ((List.range m).filter (· ≠ i)).length < (List.range m).length := by
      refine Nat.lt_of_le_of_ne (List.length_filter_le _ _) fun e => ?_
      have := (List.length_filter_eq_length_iff.mp e) i (by simpa using hi)
      simp at this
    rw [List.length_range] at h1
    omega
  have hzm : ∀ k, k < m → k ≠ i → x.B k ∈ zs := fun k hk hne => List.mem_map.mpr ⟨k, List.mem_filter.mpr ⟨by simpa using hk, by simpa using hne⟩, rfl⟩
  obtain ⟨y, ⟨k0, hk0, hy0⟩, hyb, hyz⟩ := siegel m T0 M zs (by omega) hzl (fun k hk j hj => by
    obtain ⟨l, hl, rfl⟩ := List.mem_map.mp hj
    have := (List.mem_filter.mp hl).1
    exact hM k hk _ (Nat.le_of_lt (hlt l (by simpa using this))))
  let v : Nat → Int := fun j => im m (fun k => y k * T0 k j)
  have hp : 0 < x.T i (x.B i) := by
    have := g.pos i hi
    rw [tb_B hi, tb_T hi (Nat.le_of_lt (hlt i hi))] at this
    exact Rat.intCast_lt_intCast.mp this
  have hz0 : ∀ k, k < m → k ≠ i → x.T i (x.B k) = 0 := fun k hk hne => by
    have := g.zero i hi k hk (fun e => hne e.symm)
    rw [tb_B hk, tb_T hi (Nat.le_of_lt (hlt k hk))] at this
    exact rc_inj this
  have van := vanish I (u := fun j => x.T i (x.B i) * v j - v (x.B i) * x.T i j) (b := fun k => x.T i (x.B i) * y k - v (x.B i) * x.T i (n + k)) (fun j hj => by
    show x.T i (x.B i) * v j - v (x.B i) * x.T i j = _
    rw [I.comb i hi j hj, ← im_mul, ← im_mul, ← im_sub]
    refine im_congr fun k hk => ?_
    rw [Int.sub_mul]; simp [Int.mul_assoc]) (fun k hk => by
    show x.T i (x.B i) * v (x.B k) - v (x.B i) * x.T i (x.B k) = 0
    by_cases e : k = i
    · subst e; rw [Int.mul_comm]; omega
    · have e1 : v (x.B k) = 0 := hyz _ (hzm k hk e)
      rw [e1, hz0 k hk e]; simp)
  have prop : ∀ j, j ≤ N → x.T i (x.B i) * v j = v (x.B i) * x.T i j := fun j hj => by
    have := van j hj
    have h : x.T i (x.B i) * v j - v (x.B i) * x.T i j = 0 := this
    omega
  have hvk : ∀ l, l < m → v (n + l) = y l := fun l hl => im_slack O y hl
  have hd : v (x.B i) ≠ 0 := fun e => by
    have := prop (n + k0) (by have := O.hN; omega)
    rw [e, hvk k0 hk0, Int.zero_mul] at this
    rcases Int.mul_eq_zero.mp this with h | h
    · omega
    · exact hy0 h
  intro j hj
  refine Nat.le_trans (prim_le (I.prim i hi) (by omega) hd prop j hj) ?_
  exact im_le fun k hk => by
    rw [Int.natAbs_mul]
    exact Nat.mul_le_mul (hyb k hk) (hM k hk j hj)
theorem goal_le (O : Orig N m n o T0) (I : IInv N m n o T0 x) {M : Nat} (hM1 : 1 ≤ M) (hM : ∀ k, k < m → ∀ j, j ≤ N → (T0 k j).natAbs ≤ M) : ∀ j, j ≤ N → (x.G j).natAbs ≤ bnd (m + 1) M := by
  have g := I.good
  have hlt : ∀ k, k < m → x.B k < N := fun k hk => by have := g.lt k hk; rwa [tb_B hk] at this
  obtain ⟨c, hc, hG⟩ := I.gcomb
  let R : Nat → Nat → Int := fun k j => if k < m then T0 k j else e_ o j
  have hR : ∀ k, k < m + 1 → ∀ j, j ≤ N → (R k j).natAbs ≤ M := fun k hk j hj => by
    show (if k < m then T0 k j else e_ o j).natAbs ≤ M
    split
    · rename_i q; exact hM k q j hj
    · unfold e_; split <;> simp <;> omega
  let zs := (List.range m).map x.B
  obtain ⟨y, ⟨k0, hk0, hy0⟩, hyb, hyz⟩ := siegel (m + 1) R M zs (by omega) (by show ((List.range m).map x.B).length ≤ _; simp) (fun k hk j hj => by
    obtain ⟨l, hl, rfl⟩ := List.mem_map.mp hj
    exact hR k hk _ (Nat.le_of_lt (hlt l (by simpa using hl))))
  let v : Nat → Int := fun j => im (m + 1) (fun k => y k * R k j)
  have hv : ∀ j, v j = im m (fun k => y k * T0 k j) + y m * e_ o j := fun j => by
    show im m (fun k => y k * (if k < m then T0 k j else e_ o j)) + y m * (if m < m then T0 m j else e_ o j) = _
    rw [if_neg (by omega)]
    congr 1
    exact im_congr fun k hk => by rw [if_pos hk]
  have hgz : ∀ i, i < m → x.G (x.B i) = 0 := fun i hi => by
    have := g.gz i hi
    rw [tb_B hi, tb_G (Nat.le_of_lt (hlt i hi))] at this
    exact rc_inj this
  have van := vanish I (u := fun j => c * v j - y m * x.G j) (b := fun k => c * y k - y m * x.G (n + k)) (fun j hj => by
    show c * v j - y m * x.G j = _
    have e1 := hG j hj
    rw [hv j, e1]
    have : im m (fun k => (c * y k - y m * x.G (n + k)) * T0 k j) = c * im m (fun k => y k * T0 k j) - y m * im m (fun k => x.G (n + k) * T0 k j) := by
      rw [← im_mul, ← im_mul, ← im_sub]
      refine im_congr fun k hk => ?_
      rw [Int.sub_mul]; simp [Int.mul_assoc]
    rw [this]
    have e2 : c * (y m * e_ o j) = y m * (c * e_ o j) := by rw [← Int.mul_assoc, Int.mul_comm c, Int.mul_assoc]
    rw [Int.mul_add, Int.mul_add, e2]
    omega) (fun k hk => by
    show c * v (x.B k) - y m * x.G (x.B k) = 0
    have e1 : v (x.B k) = 0 := hyz _ (List.mem_map.mpr ⟨k, by simpa using hk, rfl⟩)
    rw [e1, hgz k hk]; simp)
  have prop : ∀ j, j ≤ N → c * v j = y m * x.G j := fun j hj => by
    have h : c * v j - y m * x.G j = 0 := van j hj
    omega
  have hN := O.hN
  have ho := O.ho
  have hd : y m ≠ 0 := fun e => by
    have hall : ∀ l, l < m → y l = 0 := fun l hl => by
      have h1 := prop (n + l) (by omega)
      rw [hv, im_slack O y hl, e, Int.zero_mul, Int.zero_mul, Int.add_zero] at h1
      rcases Int.mul_eq_zero.mp h1 with h | h
      · omega
      · exact h
    by_cases q : k0 = m
    · rw [q] at hy0; exact hy0 e
    · exact hy0 (hall k0 (by omega))
  intro j hj
  refine Nat.le_trans (prim_le I.gprim (by omega) hd prop j hj) ?_
  exact im_le fun k hk => by
    rw [Int.natAbs_mul]
    exact Nat.mul_le_mul (hyb k hk) (hR k hk j hj)
end
end LP

set_option Elab.async false
set_option linter.all false
namespace LP
/-! ### lists -/
def gcdL : List Int → Nat
  | [] => 0
  | x :: xs => Nat.gcd x.natAbs (gcdL xs)
def part (xs : List Int) : Int := if 0 < gcdL xs then (gcdL xs : Int) else 1
def neatL (xs : List Int) : List Int := xs.map (· / part xs)
theorem gcdL_dvd : ∀ {xs : List Int} {x : Int}, x ∈ xs → gcdL xs ∣ x.natAbs
  | y :: ys, x, h => by
    rcases List.mem_cons.mp h with e | h
    · rw [e]; exact Nat.gcd_dvd_left _ _
    · exact Nat.dvd_trans (Nat.gcd_dvd_right _ _) (gcdL_dvd h)
theorem dvd_gcdL {d q : Nat} : ∀ {xs : List Int}, (∀ x ∈ xs, d ∣ q * x.natAbs) → d ∣ q * gcdL xs
  | [], _ => by show d ∣ q * 0; simp
  | x :: xs, h => by
    show d ∣ q * Nat.gcd x.natAbs (gcdL xs)
    rw [← Nat.gcd_mul_left]
    exact Nat.dvd_gcd (h x (by simp)) (dvd_gcdL fun y hy => h y (by simp [hy]))
theorem part_pos (xs : List Int) : 0 < part xs := by unfold part; split <;> omega
theorem part_dvd {xs : List Int} {x : Int} (h : x ∈ xs) : part xs ∣ x := by
  unfold part
  split
  · exact Int.ofNat_dvd_left.mpr (gcdL_dvd h)
  · exact Int.one_dvd x
theorem part_div {xs : List Int} {x : Int} (h : x ∈ xs) : part xs * (x / part xs) = x := Int.mul_ediv_cancel' (part_dvd h)
theorem gcdL_pos {xs : List Int} {x : Int} (h : x ∈ xs) (hx : x ≠ 0) : 0 < gcdL xs := by
  refine Nat.pos_of_ne_zero fun e => ?_
  have := gcdL_dvd h
  rw [e] at this
  have := Nat.eq_zero_of_zero_dvd this
  omega
def at_ (l : List Int) (j : Nat) : Int := l.getD j 0
theorem at_mem {l : List Int} {j : Nat} (h : j < l.length) : at_ l j ∈ l := by
  unfold at_
  rw [List.getD_eq_getElem?_getD, List.getElem?_eq_getElem h]
  simp
theorem neat_at {xs : List Int} {j : Nat} (h : j < xs.length) : part xs * at_ (neatL xs) j = at_ xs j := by
  unfold at_ neatL
  rw [List.getD_eq_getElem?_getD, List.getD_eq_getElem?_getD, List.getElem?_map, List.getElem?_eq_getElem h]
  exact part_div (by simp)
theorem neat_prim {N : Nat} {xs : List Int} (hl : xs.length = N + 1) (hx : ∃ x ∈ xs, x ≠ 0) : Prim N (at_ (neatL xs)) := by
  obtain ⟨x, hx, hne⟩ := hx
  have hg := gcdL_pos hx hne
  have hp : part xs = (gcdL xs : Int) := if_pos hg
  intro d q h
  have h1 : d * gcdL xs ∣ q * gcdL xs := dvd_gcdL fun y hy => by
    obtain ⟨j, hj, e⟩ := List.mem_iff_getElem.mp hy
    have e1 : at_ xs j = y := by
      show xs.getD j 0 = y
      rw [List.getD_eq_getElem?_getD, List.getElem?_eq_getElem hj, e]; rfl
    have h2 := neat_at hj
    rw [hp, e1] at h2
    have h3 : y.natAbs = gcdL xs * (at_ (neatL xs) j).natAbs := by rw [← h2, Int.natAbs_mul]; simp
    rw [h3]
    obtain ⟨z, hz⟩ := h j (by omega)
    refine ⟨z, ?_⟩
    have : q * (gcdL xs * (at_ (neatL xs) j).natAbs) = gcdL xs * (q * (at_ (neatL xs) j).natAbs) := by grind
    rw [this, hz]; grind
  exact Nat.dvd_of_mul_dvd_mul_right hg h1
def crossL (line pivot : List Int) (s : Nat) : List Int := List.zipWith (fun a b => a * at_ pivot s - b * at_ line s) line pivot
def clearedL (line pivot : List Int) (s : Nat) : List Int := if at_ line s = 0 then line else neatL (crossL line pivot s)
theorem cross_at {line pivot : List Int} {s j : Nat} (h1 : j < line.length) (h2 : j < pivot.length) : at_ (crossL line pivot s) j = at_ line j * at_ pivot s - at_ pivot j * at_ line s := by
  unfold crossL at_
  simp only [List.getD_eq_getElem?_getD]
  rw [List.getElem?_zipWith, List.getElem?_eq_getElem h1, List.getElem?_eq_getElem h2]
  rfl
theorem cross_len {line pivot : List Int} {s n : Nat} (h1 : line.length = n) (h2 : pivot.length = n) : (crossL line pivot s).length = n := by
  unfold crossL; rw [List.length_zipWith, h1, h2, Nat.min_self]
theorem cleared_len {line pivot : List Int} {s n : Nat} (h1 : line.length = n) (h2 : pivot.length = n) : (clearedL line pivot s).length = n := by
  unfold clearedL
  split
  · exact h1
  · unfold neatL; rw [List.length_map]; exact cross_len h1 h2
/-- a cleared line: up to a factor -/
theorem cleared_eq {line pivot : List Int} {s n : Nat} (h1 : line.length = n) (h2 : pivot.length = n) (hp : 0 < at_ pivot s) : ∃ e : Int, 0 < e ∧ ∀ j, j < n → e * at_ (clearedL line pivot s) j = at_ pivot s * at_ line j - at_ line s * at_ pivot j := by
  unfold clearedL
  split
  · rename_i z
    exact ⟨at_ pivot s, hp, fun j hj => by rw [z]; simp⟩
  · refine ⟨part (crossL line pivot s), part_pos _, fun j hj => ?_⟩
    rw [neat_at (by rw [cross_len h1 h2]; exact hj), cross_at (by omega) (by omega)]
    rw [Int.mul_comm (at_ line j), Int.mul_comm (at_ pivot j)]
theorem cleared_prim {line pivot : List Int} {s N : Nat} (h1 : line.length = N + 1) (h2 : pivot.length = N + 1) (hl : Prim N (at_ line)) (hne : ∃ j, j ≤ N ∧ at_ (clearedL line pivot s) j ≠ 0) : Prim N (at_ (clearedL line pivot s)) := by
  unfold clearedL at hne ⊢
  split
  · exact hl
  · rename_i z
    rw [if_neg z] at hne
    obtain ⟨j, hj, q⟩ := hne
    refine neat_prim (cross_len h1 h2) ⟨at_ (crossL line pivot s) j, at_mem (by rw [cross_len h1 h2]; omega), ?_⟩
    intro e
    have := neat_at (xs := crossL line pivot s) (j := j) (by rw [cross_len h1 h2]; omega)
    rw [e] at this
    rcases Int.mul_eq_zero.mp this with h | h
    · have := part_pos (crossL line pivot s); omega
    · exact q h
/-! ### states -/
structure Ls where
  tab : List (List Int)
  bas : List Nat
  goal : List Int
def rw_ (t : List (List Int)) (i : Nat) : List Int := t.getD i []
def itOf (x : Ls) : It := ⟨fun i j => at_ (rw_ x.tab i) j, at_ x.goal, fun i => x.bas.getD i 0⟩
structure Shape (N m : Nat) (x : Ls) : Prop where
  tl : x.tab.length = m
  rl : ∀ i, i < m → (rw_ x.tab i).length = N + 1
  bl : x.bas.length = m
  gl : x.goal.length = N + 1
/-- the leaving equation among the first k -/
def leaveU (t : List (List Int)) (b : List Nat) (N s : Nat) : Nat → Option Nat
  | 0 => none
  | k + 1 => match leaveU t b N s k with
    | none => if 0 < at_ (rw_ t k) s then some k else none
    | some f => if 0 < at_ (rw_ t k) s ∧ (at_ (rw_ t k) N * at_ (rw_ t f) s < at_ (rw_ t f) N * at_ (rw_ t k) s ∨ at_ (rw_ t k) N * at_ (rw_ t f) s = at_ (rw_ t f) N * at_ (rw_ t k) s ∧ b.getD k 0 < b.getD f 0) then some k else some f
theorem le_of_mul {a b c : Int} (hc : 0 < c) (h : c * a ≤ c * b) : a ≤ b := Int.le_of_mul_le_mul_left h hc
theorem leave_none {t : List (List Int)} {b : List Nat} {N s : Nat} : ∀ {k : Nat}, leaveU t b N s k = none → ∀ i, i < k → ¬ 0 < at_ (rw_ t i) s
  | 0, _, i, hi => by omega
  | k + 1, h, i, hi => by
    unfold leaveU at h
    split at h
    · rename_i q
      split at h
      · cases h
      · rename_i z
        by_cases e : i = k
        · rw [e]; exact z
        · exact leave_none q i (by omega)
    · split at h <;> cases h
theorem leave_some {t : List (List Int)} {b : List Nat} {N s : Nat} : ∀ {k r : Nat}, leaveU t b N s k = some r → r < k ∧ 0 < at_ (rw_ t r) s ∧ ∀ i, i < k → 0 < at_ (rw_ t i) s →
    at_ (rw_ t r) N * at_ (rw_ t i) s ≤ at_ (rw_ t i) N * at_ (rw_ t r) s ∧ (at_ (rw_ t i) N * at_ (rw_ t r) s = at_ (rw_ t r) N * at_ (rw_ t i) s → b.getD r 0 ≤ b.getD i 0)
  | 0, r, h => by cases h
  | k + 1, r, h => by
    unfold leaveU at h
    split at h
    · rename_i q
      split at h
      · rename_i z
        cases h
        refine ⟨by omega, z, fun i hi hp => ?_⟩
        have e : i = k := Classical.byContradiction fun ne => leave_none q i (by omega) hp
        subst e
        exact ⟨Int.le_refl _, fun _ => Nat.le_refl _⟩
      · cases h
    · rename_i f q
      obtain ⟨h1, h2, h3⟩ := leave_some q
      split at h
      · rename_i z
        cases h
        obtain ⟨zp, z⟩ := z
        refine ⟨by omega, zp, fun i hi hp => ?_⟩
        by_cases e : i = k
        · subst e
          exact ⟨Int.le_refl _, fun _ => Nat.le_refl _⟩
        · obtain ⟨a1, a2⟩ := h3 i (by omega) hp
          generalize at_ (rw_ t k) N = kN at *
          generalize at_ (rw_ t k) s = ks at *
          generalize at_ (rw_ t f) N = fN at *
          generalize at_ (rw_ t f) s = fs at *
          generalize at_ (rw_ t i) N = iN at *
          generalize at_ (rw_ t i) s = is at *
          have zle : kN * fs ≤ fN * ks := by rcases z with z | z <;> omega
          have m1 : is * (kN * fs) ≤ is * (fN * ks) := Int.mul_le_mul_of_nonneg_left zle (by omega)
          have m2 : ks * (fN * is) ≤ ks * (iN * fs) := Int.mul_le_mul_of_nonneg_left a1 (by omega)
          have key : fs * (kN * is) ≤ fs * (iN * ks) := by grind
          refine ⟨le_of_mul h2 key, fun he => ?_⟩
          rcases z with z | ⟨z1, z2⟩
          · have m3 : is * (kN * fs) < is * (fN * ks) := Int.mul_lt_mul_of_pos_left z hp
            have : fs * (iN * ks) = fs * (kN * is) := by rw [he]
            grind
          · have : ks * (iN * fs) = ks * (fN * is) := by
              have : fs * (iN * ks) = fs * (kN * is) := by rw [he]
              have : is * (kN * fs) = is * (fN * ks) := by rw [z1]
              grind
            have h5 : iN * fs = fN * is := Int.eq_of_mul_eq_mul_left (by omega) this
            have := a2 h5
            omega
      · rename_i z
        cases h
        refine ⟨by omega, h2, fun i hi hp => ?_⟩
        by_cases e : i = k
        · subst e
          refine ⟨?_, fun he => ?_⟩
          · refine Int.not_lt.mp fun q2 => z ⟨hp, .inl q2⟩
          · refine Nat.not_lt.mp fun q2 => z ⟨hp, .inr ⟨he, q2⟩⟩
        · exact h3 i (by omega) hp
/-- one pivot -/
def pivotL (x : Ls) (s r : Nat) : Ls where
  tab := (List.range x.tab.length).map fun i => if i = r then rw_ x.tab r else clearedL (rw_ x.tab i) (rw_ x.tab r) s
  bas := x.bas.set r s
  goal := clearedL x.goal (rw_ x.tab r) s
theorem piv_row {x : Ls} {s r i : Nat} (hi : i < x.tab.length) : rw_ (pivotL x s r).tab i = if i = r then rw_ x.tab r else clearedL (rw_ x.tab i) (rw_ x.tab r) s := by
  show ((List.range x.tab.length).map _).getD i [] = _
  rw [List.getD_eq_getElem?_getD, List.getElem?_map, List.getElem?_range hi]
  rfl
theorem piv_shape {N m : Nat} {x : Ls} (S : Shape N m x) {s r : Nat} (hr : r < m) : Shape N m (pivotL x s r) := by
  refine ⟨by show ((List.range x.tab.length).map _).length = m; simp [S.tl], fun i hi => ?_, by show (x.bas.set r s).length = m; simp [S.bl], cleared_len S.gl (S.rl r hr)⟩
  rw [piv_row (by rw [S.tl]; exact hi)]
  split
  · exact S.rl r hr
  · exact cleared_len (S.rl i hi) (S.rl r hr)
section
variable {N m n o : Nat} {T0 : Nat → Nat → Int} {x : Ls}
theorem rlt {a b : Int} : (a : Rat) < b ↔ a < b := Rat.intCast_lt_intCast
theorem rle {a b : Int} : (a : Rat) ≤ b ↔ a ≤ b := Rat.intCast_le_intCast
theorem rc_sub (a b : Int) : ((a - b : Int) : Rat) = a - b := Rat.intCast_sub a b
theorem step_of (S : Shape N m x) {s r : Nat} (hs : s < N) (hg : 0 < at_ x.goal s) (hf : ∀ j, j < s → at_ x.goal j ≤ 0) (hl : leaveU x.tab x.bas N s m = some r) : Step N m (tb N m (itOf x)) (tb N m (itOf (pivotL x s r))) s r := by
  obtain ⟨h1, h2, h3⟩ := leave_some hl
  have hsN : s ≤ N := by omega
  have gT : ∀ i, i < m → ∀ j, j ≤ N → (tb N m (itOf x)).T i j = ((at_ (rw_ x.tab i) j : Int) : Rat) := fun i hi j hj => tb_T hi hj
  have gT' : ∀ i, i < m → ∀ j, j ≤ N → (tb N m (itOf (pivotL x s r))).T i j = ((at_ (rw_ (pivotL x s r).tab i) j : Int) : Rat) := fun i hi j hj => tb_T hi hj
  have gG : ∀ j, j ≤ N → (tb N m (itOf x)).G j = ((at_ x.goal j : Int) : Rat) := fun j hj => tb_G hj
  have gG' : ∀ j, j ≤ N → (tb N m (itOf (pivotL x s r))).G j = ((at_ (pivotL x s r).goal j : Int) : Rat) := fun j hj => tb_G hj
  have gB : ∀ i, i < m → (tb N m (itOf x)).B i = x.bas.getD i 0 := fun i hi => tb_B hi
  have gB' : ∀ i, i < m → (tb N m (itOf (pivotL x s r))).B i = (x.bas.set r s).getD i 0 := fun i hi => tb_B hi
  refine ⟨hs, h1, ?_, fun j hj => ?_, ?_, fun i hi hp => ?_, fun i hi hp he => ?_, fun j hj => ?_, ?_, fun i hi hne => ?_, fun i hi hne => ?_, ?_⟩
  · rw [gG s hsN]; exact rlt.mpr hg
  · rw [gG j (by omega)]; exact rle.mpr (hf j hj)
  · rw [gT r h1 s hsN]; exact rlt.mpr h2
  · rw [gT i hi s hsN] at hp
    rw [gT r h1 N (Nat.le_refl _), gT i hi s hsN, gT i hi N (Nat.le_refl _), gT r h1 s hsN, ← rc_mul, ← rc_mul]
    exact rle.mpr (h3 i hi (rlt.mp hp)).1
  · rw [gT i hi s hsN] at hp
    rw [gT i hi N (Nat.le_refl _), gT r h1 s hsN, gT r h1 N (Nat.le_refl _), gT i hi s hsN, ← rc_mul, ← rc_mul] at he
    rw [gB r h1, gB i hi]
    exact (h3 i hi (rlt.mp hp)).2 (rc_inj he)
  · rw [gT' r h1 j hj, gT r h1 j hj, piv_row (by rw [S.tl]; exact h1), if_pos rfl]
  · rw [gB' r h1, List.getD_eq_getElem?_getD, List.getElem?_set_self (by rw [S.bl]; exact h1)]; rfl
  · rw [gB' i hi, gB i hi, List.getD_eq_getElem?_getD, List.getElem?_set_ne (fun e => hne e.symm), List.getD_eq_getElem?_getD]
  · obtain ⟨e, he, h⟩ := cleared_eq (s := s) (S.rl i hi) (S.rl r h1) h2
    refine ⟨(e : Rat), rlt.mpr he, fun j hj => ?_⟩
    rw [gT' i hi j hj, piv_row (by rw [S.tl]; exact hi), if_neg hne, gT r h1 s hsN, gT i hi j hj, gT i hi s hsN, gT r h1 j hj, ← rc_mul, ← rc_mul, ← rc_mul, ← rc_sub, h j (by omega)]
  · obtain ⟨e, he, h⟩ := cleared_eq (s := s) S.gl (S.rl r h1) h2
    refine ⟨(e : Rat), rlt.mpr he, fun j hj => ?_⟩
    rw [gG' j hj, gT r h1 s hsN, gG j hj, gG s hsN, gT r h1 j hj, ← rc_mul, ← rc_mul, ← rc_mul, ← rc_sub]
    exact congrArg _ (h j (by omega))
theorem tells_of (O : Orig N m n o T0) (I : IInv N m n o T0 (itOf x)) : Tells N m (tb N m (itOf x)) (fun w => w o) := by
  obtain ⟨c, hc, hG⟩ := I.gcomb
  have hN := O.hN
  have ho := O.ho
  refine ⟨(c : Rat), rlt.mpr hc, fun w S => ?_⟩
  have h0 := I.sol w S
  have h1 := comb_sol h0 (fun k => (itOf x).G (n + k))
  have h2 : sm N (fun j => (tb N m (itOf x)).G j * w j) = sm N (fun j => ((im m (fun k => (itOf x).G (n + k) * T0 k j) : Int) : Rat) * w j) + sm N (fun j => (c : Rat) * (((e_ o j : Int) : Rat) * w j)) := by
    rw [← sm_add]
    refine sm_congr fun j hj => ?_
    rw [tb_G (by omega), hG j (by omega), rc_add, rc_mul]; grind
  have h3 : sm N (fun j => (c : Rat) * (((e_ o j : Int) : Rat) * w j)) = (c : Rat) * w o := by
    rw [sm_mul, sm_one o (by omega) fun j hj hne => ?_]
    · show (c : Rat) * (((e_ o o : Int) : Rat) * w o) = _
      have : e_ o o = 1 := if_pos rfl
      rw [this]
      have : ((1 : Int) : Rat) = 1 := rfl
      rw [this]; grind
    · have : e_ o j = 0 := if_neg hne
      rw [this, rc_zero]; grind
  have h4 : (tb N m (itOf x)).G N = ((im m (fun k => (itOf x).G (n + k) * T0 k N) : Int) : Rat) := by
    rw [tb_G (Nat.le_refl _), hG N (Nat.le_refl _)]
    have : e_ o N = 0 := if_neg (by omega)
    rw [this, Int.mul_zero, Int.add_zero]
  rw [h2, h1, h3, h4]
  show (c : Rat) * w o = _
  grind
theorem inv_step (O : Orig N m n o T0) (S : Shape N m x) (I : IInv N m n o T0 (itOf x)) {s r : Nat} (hr : r < m) (hp : 0 < at_ (rw_ x.tab r) s) (st : Step N m (tb N m (itOf x)) (tb N m (itOf (pivotL x s r))) s r) : IInv N m n o T0 (itOf (pivotL x s r)) := by
  have hN := O.hN
  have ho := O.ho
  have good' := st.good I.good
  have hBlt : ∀ i, i < m → (itOf (pivotL x s r)).B i < N := fun i hi => by have := good'.lt i hi; rwa [tb_B hi] at this
  have rowr : rw_ (pivotL x s r).tab r = rw_ x.tab r := by rw [piv_row (by rw [S.tl]; exact hr), if_pos rfl]
  have rowi : ∀ i, i < m → i ≠ r → rw_ (pivotL x s r).tab i = clearedL (rw_ x.tab i) (rw_ x.tab r) s := fun i hi hne => by rw [piv_row (by rw [S.tl]; exact hi), if_neg hne]
  have hG0 : ∃ c : Int, 0 < c ∧ ∀ j, j ≤ N → (itOf (pivotL x s r)).G j = im m (fun k => (itOf (pivotL x s r)).G (n + k) * T0 k j) + c * e_ o j := by
    obtain ⟨c, hc, hG⟩ := I.gcomb
    obtain ⟨e, he, h⟩ := cleared_eq (s := s) S.gl (S.rl r hr) hp
    let q : Nat → Int := fun j => (itOf (pivotL x s r)).G j - im m (fun k => (itOf (pivotL x s r)).G (n + k) * T0 k j)
    have h' : ∀ j, j ≤ N → e * (itOf (pivotL x s r)).G j = at_ (rw_ x.tab r) s * (itOf x).G j - at_ x.goal s * (itOf x).T r j := fun j hj => h j (by omega)
    have hq : ∀ j, j ≤ N → e * q j = at_ (rw_ x.tab r) s * (c * e_ o j) := fun j hj => by
      show e * ((itOf (pivotL x s r)).G j - im m (fun k => (itOf (pivotL x s r)).G (n + k) * T0 k j)) = _
      rw [Int.mul_sub, ← im_mul, h' j hj]
      have e1 : im m (fun k => e * ((itOf (pivotL x s r)).G (n + k) * T0 k j)) = at_ (rw_ x.tab r) s * im m (fun k => (itOf x).G (n + k) * T0 k j) - at_ x.goal s * im m (fun k => (itOf x).T r (n + k) * T0 k j) := by
        rw [← im_mul, ← im_mul, ← im_sub]
        refine im_congr fun k hk => ?_
        have := h' (n + k) (by omega)
        rw [← Int.mul_assoc, this]
        grind
      have e2 := hG j hj
      have e3 := I.comb r hr j hj
      rw [e1, ← e3]
      rw [e2]
      grind
    have hqo := hq o (by omega)
    have eo : e_ o o = 1 := if_pos rfl
    rw [eo, Int.mul_one] at hqo
    refine ⟨q o, ?_, fun j hj => ?_⟩
    · have : 0 < e * q o := by rw [hqo]; exact Int.mul_pos hp hc
      exact Int.pos_of_mul_pos_right this he |> fun z => z
    · have h1 : e * q j = e * (q o * e_ o j) := by
        rw [hq j hj, ← Int.mul_assoc, ← Int.mul_assoc, hqo]
      have h2 : q j = q o * e_ o j := Int.eq_of_mul_eq_mul_left (by omega) h1
      show _ = _ + q o * e_ o j
      rw [← h2]
      show _ = _ + ((itOf (pivotL x s r)).G j - im m (fun k => (itOf (pivotL x s r)).G (n + k) * T0 k j))
      omega
  refine ⟨good', fun i hi j hj => ?_, hG0, fun i hi => ?_, ?_, fun w h => I.sol w ((st.sol w).mp h)⟩
  · show at_ (rw_ (pivotL x s r).tab i) j = im m (fun k => at_ (rw_ (pivotL x s r).tab i) (n + k) * T0 k j)
    by_cases e : i = r
    · subst e
      rw [rowr]; exact I.comb i hi j hj
    · rw [rowi i hi e]
      obtain ⟨c, hc, h⟩ := cleared_eq (s := s) (S.rl i hi) (S.rl r hr) hp
      refine Int.eq_of_mul_eq_mul_left (a := c) (by omega) ?_
      rw [h j (by omega), ← im_mul]
      have e1 : im m (fun k => c * (at_ (clearedL (rw_ x.tab i) (rw_ x.tab r) s) (n + k) * T0 k j)) = at_ (rw_ x.tab r) s * im m (fun k => (itOf x).T i (n + k) * T0 k j) - at_ (rw_ x.tab i) s * im m (fun k => (itOf x).T r (n + k) * T0 k j) := by
        rw [← im_mul, ← im_mul, ← im_sub]
        refine im_congr fun k hk => ?_
        rw [← Int.mul_assoc, h (n + k) (by omega)]
        show (at_ (rw_ x.tab r) s * at_ (rw_ x.tab i) (n + k) - at_ (rw_ x.tab i) s * at_ (rw_ x.tab r) (n + k)) * T0 k j = at_ (rw_ x.tab r) s * (at_ (rw_ x.tab i) (n + k) * T0 k j) - at_ (rw_ x.tab i) s * (at_ (rw_ x.tab r) (n + k) * T0 k j)
        grind
      have e2 : at_ (rw_ x.tab i) j = im m (fun k => (itOf x).T i (n + k) * T0 k j) := I.comb i hi j hj
      have e3 : at_ (rw_ x.tab r) j = im m (fun k => (itOf x).T r (n + k) * T0 k j) := I.comb r hr j hj
      rw [e1, ← e2, ← e3]
  · show Prim N (at_ (rw_ (pivotL x s r).tab i))
    by_cases e : i = r
    · subst e
      rw [rowr]; exact I.prim i hi
    · have hpos := good'.pos i hi
      rw [tb_B hi, tb_T hi (Nat.le_of_lt (hBlt i hi))] at hpos
      have hpos' : 0 < at_ (rw_ (pivotL x s r).tab i) ((itOf (pivotL x s r)).B i) := rlt.mp hpos
      rw [rowi i hi e] at hpos' ⊢
      exact cleared_prim (S.rl i hi) (S.rl r hr) (I.prim i hi) ⟨_, Nat.le_of_lt (hBlt i hi), by omega⟩
  · obtain ⟨c, hc, h⟩ := hG0
    refine cleared_prim S.gl (S.rl r hr) I.gprim ?_
    refine Classical.byContradiction fun hne => ?_
    have hz : ∀ j, j ≤ N → (itOf (pivotL x s r)).G j = 0 := fun j hj => Classical.byContradiction fun q => hne ⟨j, hj, q⟩
    have h1 := h o (by omega)
    rw [hz o (by omega), im_zero fun k hk => by rw [hz (n + k) (by omega)]; simp] at h1
    have eo : e_ o o = 1 := if_pos rfl
    rw [eo] at h1
    omega
end
end LP

set_option Elab.async false
set_option linter.all false
namespace LP
def posL (N : Nat) (goal : List Int) : List Nat := (List.range N).filter fun j => decide (0 < at_ goal j)
def nextL (N m : Nat) (x : Ls) : Ls := match posL N x.goal with
  | [] => x
  | s :: _ => match leaveU x.tab x.bas N s m with
    | none => x
    | some r => pivotL x s r
def itr (N m : Nat) (x : Ls) : Nat → Ls
  | 0 => x
  | k + 1 => nextL N m (itr N m x k)
theorem pos_cons {N : Nat} {goal : List Int} {s : Nat} {r : List Nat} (h : posL N goal = s :: r) : s < N ∧ 0 < at_ goal s ∧ ∀ j, j < s → at_ goal j ≤ 0 := by
  have h1 : s ∈ posL N goal := by rw [h]; simp
  unfold posL at h1
  rw [List.mem_filter] at h1
  have h2 : s < N := by simpa using h1.1
  have h3 : 0 < at_ goal s := by simpa using h1.2
  refine ⟨h2, h3, fun j hj => ?_⟩
  refine Int.not_lt.mp fun q => ?_
  have h4 : j ∈ posL N goal := by
    unfold posL
    rw [List.mem_filter]
    exact ⟨by simp; omega, by simpa using q⟩
  have hs : (posL N goal).Pairwise (· < ·) := List.Pairwise.filter _ List.pairwise_lt_range
  rw [h] at h4 hs
  rcases List.mem_cons.mp h4 with e | e
  · omega
  · have := (List.pairwise_cons.mp hs).1 j e
    omega
theorem pos_nil {N : Nat} {goal : List Int} (h : posL N goal = []) : ∀ j, j < N → at_ goal j ≤ 0 := fun j hj => by
  refine Int.not_lt.mp fun q => ?_
  have h4 : j ∈ posL N goal := by
    unfold posL
    rw [List.mem_filter]
    exact ⟨by simpa using hj, by simpa using q⟩
  rw [h] at h4
  cases h4
section
variable {N m n o : Nat} {T0 : Nat → Nat → Int} {x : Ls}
/-- a state that goes on -/
theorem next_of (O : Orig N m n o T0) (S : Shape N m x) (I : IInv N m n o T0 (itOf x)) {bb : Rat} (hb : ∀ w, Sol0 N m T0 w → (∀ j, j < N → 0 ≤ w j) → w o ≤ bb) (hp : posL N x.goal ≠ []) :
    ∃ s r, Step N m (tb N m (itOf x)) (tb N m (itOf (nextL N m x))) s r ∧ nextL N m x = pivotL x s r ∧ (∃ l, posL N x.goal = s :: l) ∧ leaveU x.tab x.bas N s m = some r ∧ Shape N m (nextL N m x) ∧ IInv N m n o T0 (itOf (nextL N m x)) := by
  cases e : posL N x.goal with
  | nil => exact absurd e hp
  | cons s l =>
    obtain ⟨h1, h2, h3⟩ := pos_cons e
    have g := I.good
    have nb : ∀ i, i < m → (tb N m (itOf x)).B i ≠ s := fun i hi z => by
      have a := g.gz i hi
      rw [z, tb_G (by omega)] at a
      have : at_ x.goal s = 0 := rc_inj a
      omega
    obtain ⟨i, hi, hpi⟩ := bounded g h1 nb (tells_of O I) (by rw [tb_G (by omega)]; exact rlt.mpr h2) (b := bb) fun w Sw hw => hb w (I.sol w Sw) hw
    rw [tb_T hi (by omega)] at hpi
    have hpi' : 0 < at_ (rw_ x.tab i) s := rlt.mp hpi
    cases e2 : leaveU x.tab x.bas N s m with
    | none => exact absurd hpi' (leave_none e2 i hi)
    | some r =>
      have en : nextL N m x = pivotL x s r := by
        unfold nextL
        rw [e]
        simp only
        rw [e2]
      obtain ⟨l1, l2, _⟩ := leave_some e2
      have st := step_of S h1 h2 h3 e2
      rw [en]
      exact ⟨s, r, st, rfl, ⟨l, rfl⟩, e2, piv_shape S l1, inv_step O S I l1 l2 st⟩
/-- the state as digits -/
def digit (N m W : Nat) (x : Ls) (z : Nat) : Nat :=
  if z < m * (N + 1) then (at_ (rw_ x.tab (z / (N + 1))) (z % (N + 1)) + (W : Int)).toNat
  else if z < (m + 1) * (N + 1) then (at_ x.goal (z - m * (N + 1)) + (W : Int)).toNat
  else x.bas.getD (z - (m + 1) * (N + 1)) 0
theorem getD_ext {α : Type} {d : α} {a b : List α} (hl : a.length = b.length) (h : ∀ i, i < a.length → a.getD i d = b.getD i d) : a = b := by
  refine List.ext_getElem hl fun i h1 h2 => ?_
  have := h i h1
  rw [List.getD_eq_getElem?_getD, List.getD_eq_getElem?_getD, List.getElem?_eq_getElem h1, List.getElem?_eq_getElem h2] at this
  exact this
theorem digit_inj {W : Nat} {x y : Ls} (Sx : Shape N m x) (Sy : Shape N m y) (hx : (∀ i, i < m → ∀ j, j ≤ N → (at_ (rw_ x.tab i) j).natAbs ≤ W) ∧ ∀ j, j ≤ N → (at_ x.goal j).natAbs ≤ W)
    (hy : (∀ i, i < m → ∀ j, j ≤ N → (at_ (rw_ y.tab i) j).natAbs ≤ W) ∧ ∀ j, j ≤ N → (at_ y.goal j).natAbs ≤ W) (h : ∀ z, z < (m + 1) * (N + 1) + m → digit N m W x z = digit N m W y z) : x = y := by
  have hT : ∀ i, i < m → ∀ j, j ≤ N → at_ (rw_ x.tab i) j = at_ (rw_ y.tab i) j := fun i hi j hj => by
    have hz : i * (N + 1) + j < m * (N + 1) := by
      have : (i + 1) * (N + 1) ≤ m * (N + 1) := Nat.mul_le_mul_right _ hi
      rw [Nat.succ_mul] at this; omega
    have q := h (i * (N + 1) + j) (by rw [Nat.succ_mul]; omega)
    unfold digit at q
    rw [if_pos hz, if_pos hz] at q
    have d1 : (i * (N + 1) + j) / (N + 1) = i := by rw [Nat.mul_comm, Nat.mul_add_div (by omega), Nat.div_eq_of_lt (by omega)]; omega
    have d2 : (i * (N + 1) + j) % (N + 1) = j := by rw [Nat.mul_comm, Nat.mul_add_mod, Nat.mod_eq_of_lt (by omega)]
    rw [d1, d2] at q
    have a := hx.1 i hi j hj
    have b := hy.1 i hi j hj
    omega
  have hG : ∀ j, j ≤ N → at_ x.goal j = at_ y.goal j := fun j hj => by
    have q := h (m * (N + 1) + j) (by rw [Nat.succ_mul]; omega)
    unfold digit at q
    rw [if_neg (by omega), if_pos (by rw [Nat.succ_mul]; omega), if_neg (by omega), if_pos (by rw [Nat.succ_mul]; omega)] at q
    have e : m * (N + 1) + j - m * (N + 1) = j := by omega
    rw [e] at q
    have a := hx.2 j hj
    have b := hy.2 j hj
    omega
  have hB : ∀ i, i < m → x.bas.getD i 0 = y.bas.getD i 0 := fun i hi => by
    have q := h ((m + 1) * (N + 1) + i) (by omega)
    unfold digit at q
    have e0 : m * (N + 1) ≤ (m + 1) * (N + 1) := Nat.mul_le_mul_right _ (by omega)
    rw [if_neg (by omega), if_neg (by omega), if_neg (by omega), if_neg (by omega)] at q
    have e : (m + 1) * (N + 1) + i - (m + 1) * (N + 1) = i := by omega
    rw [e] at q
    exact q
  have e1 : x.tab = y.tab := getD_ext (d := []) (by rw [Sx.tl, Sy.tl]) fun i hi => by
    rw [Sx.tl] at hi
    exact getD_ext (d := 0) (by show (rw_ x.tab i).length = (rw_ y.tab i).length; rw [Sx.rl i hi, Sy.rl i hi]) fun j hj => hT i hi j (by have h9 := Sx.rl i hi; have h8 : j < (rw_ x.tab i).length := hj; omega)
  have e2 : x.goal = y.goal := getD_ext (d := 0) (by rw [Sx.gl, Sy.gl]) fun j hj => hG j (by have := Sx.gl; omega)
  have e3 : x.bas = y.bas := getD_ext (d := 0) (by rw [Sx.bl, Sy.bl]) fun i hi => hB i (by rw [Sx.bl] at hi; exact hi)
  cases x; cases y
  simp only at e1 e2 e3
  rw [e1, e2, e3]
/-- the pivots end -/
theorem ends (O : Orig N m n o T0) (S : Shape N m x) (I : IInv N m n o T0 (itOf x)) {bb : Rat} (hb : ∀ w, Sol0 N m T0 w → (∀ j, j < N → 0 ≤ w j) → w o ≤ bb) {M : Nat} (hM1 : 1 ≤ M) (hM : ∀ k, k < m → ∀ j, j ≤ N → (T0 k j).natAbs ≤ M) : ∃ k, posL N (itr N m x k).goal = [] := by
  refine Classical.byContradiction fun hne => ?_
  have hp : ∀ k, posL N (itr N m x k).goal ≠ [] := fun k e => hne ⟨k, e⟩
  have inv : ∀ k, Shape N m (itr N m x k) ∧ IInv N m n o T0 (itOf (itr N m x k)) := fun k => by
    induction k with
    | zero => exact ⟨S, I⟩
    | succ k ih =>
      obtain ⟨s, r, _, _, _, _, h1, h2⟩ := next_of O ih.1 ih.2 hb (hp k)
      exact ⟨h1, h2⟩
  let W := bnd m M + bnd (m + 1) M + N
  have hW : ∀ k, (∀ i, i < m → ∀ j, j ≤ N → (at_ (rw_ (itr N m x k).tab i) j).natAbs ≤ W) ∧ ∀ j, j ≤ N → (at_ (itr N m x k).goal j).natAbs ≤ W := fun k =>
    ⟨fun i hi j hj => by
      have := row_le O (inv k).2 hM hi j hj
      exact Nat.le_trans this (by show bnd m M ≤ bnd m M + bnd (m + 1) M + N; omega), fun j hj => by
      have := goal_le O (inv k).2 hM1 hM j hj
      exact Nat.le_trans this (by show bnd (m + 1) M ≤ bnd m M + bnd (m + 1) M + N; omega)⟩
  let zs := List.range ((m + 1) * (N + 1) + m)
  have hd : ∀ k, ∀ z ∈ zs, digit N m W (itr N m x k) z < 2 * W + 1 := fun k z hz => by
    have hz' : z < (m + 1) * (N + 1) + m := by simpa [zs] using hz
    unfold digit
    split
    · rename_i q
      have a := (hW k).1 (z / (N + 1)) (by rw [Nat.div_lt_iff_lt_mul (by omega)]; exact q) (z % (N + 1)) (by have := Nat.mod_lt z (show 0 < N + 1 by omega); omega)
      omega
    · split
      · rename_i q1 q2
        have a := (hW k).2 (z - m * (N + 1)) (by rw [Nat.succ_mul] at q2; omega)
        omega
      · rename_i q1 q2
        have hi : z - (m + 1) * (N + 1) < m := by omega
        have := (inv k).2.good.lt _ hi
        rw [tb_B hi] at this
        have : (itr N m x k).bas.getD (z - (m + 1) * (N + 1)) 0 < N := this
        show _ < 2 * (bnd m M + bnd (m + 1) M + N) + 1
        omega
  obtain ⟨a, b, hab, _, heq⟩ := pigeon ((2 * W + 1) ^ zs.length) ((2 * W + 1) ^ zs.length + 1) (fun k => enc (2 * W + 1) (digit N m W (itr N m x k)) zs) (by omega) fun k _ => enc_lt (hd k)
  have hdig := enc_eq (hd a) (hd b) heq
  have hst : itr N m x a = itr N m x b := digit_inj (inv a).1 (inv b).1 (hW a) (hW b) fun z hz => hdig z (by simpa [zs] using hz)
  have per : ∀ k, itr N m x (a + k) = itr N m x (b + k) := fun k => by
    induction k with
    | zero => exact hst
    | succ k ih =>
      show nextL N m (itr N m x (a + k)) = nextL N m (itr N m x (b + k))
      rw [ih]
  have sr : ∀ k, ∃ s r, Step N m (tb N m (itOf (itr N m x k))) (tb N m (itOf (itr N m x (k + 1)))) s r ∧ (∃ l, posL N (itr N m x k).goal = s :: l) := fun k => by
    obtain ⟨s, r, h1, _, h3, _⟩ := next_of O (inv k).1 (inv k).2 hb (hp k)
    exact ⟨s, r, h1, h3⟩
  let sF : Ls → Nat := fun y => (posL N y.goal).headD 0
  let rF : Ls → Nat := fun y => (leaveU y.tab y.bas N (sF y) m).getD 0
  have stp : ∀ k, Step N m (tb N m (itOf (itr N m x k))) (tb N m (itOf (itr N m x (k + 1)))) (sF (itr N m x k)) (rF (itr N m x k)) := fun k => by
    obtain ⟨s, r, h1, _, ⟨l, h3⟩, h4, _⟩ := next_of O (inv k).1 (inv k).2 hb (hp k)
    have e1 : sF (itr N m x k) = s := by show (posL N (itr N m x k).goal).headD 0 = s; rw [h3]; rfl
    have e2 : rF (itr N m x k) = r := by show (leaveU (itr N m x k).tab (itr N m x k).bas N (sF (itr N m x k)) m).getD 0 = r; rw [e1, h4]; rfl
    rw [e1, e2]
    exact h1
  refine no_cycle (L := b - a) (t := fun k => tb N m (itOf (itr N m x (a + k)))) (s := fun k => sF (itr N m x (a + k))) (r := fun k => rF (itr N m x (a + k))) (by omega) (fun k => stp (a + k)) (inv a).2.good (tells_of O (inv a).2) (fun k => ?_) (fun k => ?_)
  · have e : a + (k + (b - a)) = b + k := by omega
    show tb N m (itOf (itr N m x (a + (k + (b - a))))) = tb N m (itOf (itr N m x (a + k)))
    rw [e, per k]
  · have e : a + (k + (b - a)) = b + k := by omega
    show sF (itr N m x (a + (k + (b - a)))) = sF (itr N m x (a + k))
    rw [e, per k]
end
end LP

set_option Elab.async false
set_option linter.all false
namespace LP
/-! ### the first table -/
def unitL (m k : Nat) : List Int := (List.range m).map fun p => if p = k then 1 else 0
def rowL (m k : Nat) (l : List Int × Int) : List Int := l.1 ++ unitL m k ++ [l.2]
def tableL (lines : List (List Int × Int)) : List (List Int) := (List.range lines.length).map fun k => rowL lines.length k (lines.getD k ([], 0))
def firstL (n : Nat) (lines : List (List Int × Int)) (goal : List Int) : Ls := ⟨tableL lines, (List.range lines.length).map (n + ·), goal ++ List.replicate (lines.length + 1) 0⟩
theorem at_app_l {a b : List Int} {j : Nat} (h : j < a.length) : at_ (a ++ b) j = at_ a j := by
  unfold at_; simp only [List.getD_eq_getElem?_getD]; rw [List.getElem?_append_left h]
theorem at_app_r {a b : List Int} {j : Nat} (h : a.length ≤ j) : at_ (a ++ b) j = at_ b (j - a.length) := by
  unfold at_; simp only [List.getD_eq_getElem?_getD]; rw [List.getElem?_append_right h]
theorem at_unit {m k p : Nat} (h : p < m) : at_ (unitL m k) p = if p = k then 1 else 0 := by
  unfold at_ unitL; simp only [List.getD_eq_getElem?_getD]; rw [List.getElem?_map, List.getElem?_range h]; rfl
theorem unit_len {m k : Nat} : (unitL m k).length = m := by unfold unitL; simp
theorem at_rep {n j : Nat} : at_ (List.replicate n 0) j = 0 := by
  unfold at_; simp only [List.getD_eq_getElem?_getD]; rw [List.getElem?_replicate]; split <;> rfl
theorem table_row {lines : List (List Int × Int)} {k : Nat} (h : k < lines.length) : rw_ (tableL lines) k = rowL lines.length k (lines.getD k ([], 0)) := by
  show ((List.range lines.length).map _).getD k [] = _
  rw [List.getD_eq_getElem?_getD, List.getElem?_map, List.getElem?_range h]; rfl
section
variable {n : Nat} {lines : List (List Int × Int)} (hl : ∀ k, k < lines.length → (lines.getD k ([], 0)).1.length = n)
include hl
theorem row_len {k : Nat} (h : k < lines.length) : (rw_ (tableL lines) k).length = n + lines.length + 1 := by
  rw [table_row h]; unfold rowL
  rw [List.length_append, List.length_append, hl k h, unit_len]; rfl
theorem row_at {k j : Nat} (h : k < lines.length) (hj : j < n) : at_ (rw_ (tableL lines) k) j = at_ (lines.getD k ([], 0)).1 j := by
  rw [table_row h]; unfold rowL
  rw [List.append_assoc, at_app_l (by rw [hl k h]; exact hj)]
theorem row_slack {k p : Nat} (h : k < lines.length) (hp : p < lines.length) : at_ (rw_ (tableL lines) k) (n + p) = if p = k then 1 else 0 := by
  rw [table_row h]; unfold rowL
  rw [List.append_assoc, at_app_r (by rw [hl k h]; omega), hl k h, at_app_l (by rw [unit_len]; omega)]
  have : n + p - n = p := by omega
  rw [this, at_unit hp]
theorem row_last {k : Nat} (h : k < lines.length) : at_ (rw_ (tableL lines) k) (n + lines.length) = (lines.getD k ([], 0)).2 := by
  rw [table_row h]; unfold rowL
  have e : ((lines.getD k ([], 0)).1 ++ unitL lines.length k).length = n + lines.length := by rw [List.length_append, hl k h, unit_len]
  rw [at_app_r (by rw [e]; exact Nat.le_refl _), e, Nat.sub_self]; rfl
end
def T0of (lines : List (List Int × Int)) : Nat → Nat → Int := fun k j => at_ (rw_ (tableL lines) k) j
theorem prim_of {N : Nat} {f : Nat → Int} {j : Nat} (hj : j ≤ N) (h : f j = 1) : Prim N f := fun d q hd => by
  have := hd j hj
  rw [h] at this
  simpa using this
section
variable {n o : Nat} {lines : List (List Int × Int)}
theorem orig_of (hl : ∀ k, k < lines.length → (lines.getD k ([], 0)).1.length = n) (ho : o < n) : Orig (n + lines.length) lines.length n o (T0of lines) :=
  ⟨rfl, fun k hk l hl' => by
    show at_ (rw_ (tableL lines) k) (n + l) = _
    rw [row_slack hl hk hl']
    by_cases e : l = k
    · rw [if_pos e, if_pos e.symm]
    · rw [if_neg e, if_neg (fun z => e z.symm)], ho⟩
theorem first_goal {goal : List Int} (hg : goal.length = n) (hgo : ∀ j, j < n → at_ goal j = e_ o j) (ho : o < n) {j : Nat} : at_ (goal ++ List.replicate (lines.length + 1) 0) j = e_ o j := by
  by_cases h : j < n
  · rw [at_app_l (by omega), hgo j h]
  · rw [at_app_r (by omega), at_rep]
    exact (if_neg (by omega)).symm
theorem first_inv (hl : ∀ k, k < lines.length → (lines.getD k ([], 0)).1.length = n) (hb : ∀ k, k < lines.length → 0 ≤ (lines.getD k ([], 0)).2) (ho : o < n) {goal : List Int} (hg : goal.length = n) (hgo : ∀ j, j < n → at_ goal j = e_ o j) :
    Shape (n + lines.length) lines.length (firstL n lines goal) ∧ IInv (n + lines.length) lines.length n o (T0of lines) (itOf (firstL n lines goal)) := by
  have hB : ∀ i, i < lines.length → ((List.range lines.length).map (n + ·)).getD i 0 = n + i := fun i hi => by
    rw [List.getD_eq_getElem?_getD, List.getElem?_map, List.getElem?_range hi]; rfl
  have hBt : ∀ i, i < lines.length → (tb (n + lines.length) lines.length (itOf (firstL n lines goal))).B i = n + i := fun i hi => by rw [tb_B hi]; exact hB i hi
  have hT : ∀ i, i < lines.length → ∀ j, j ≤ n + lines.length → (tb (n + lines.length) lines.length (itOf (firstL n lines goal))).T i j = ((at_ (rw_ (tableL lines) i) j : Int) : Rat) := fun i hi j hj => tb_T hi hj
  have one : ((1 : Int) : Rat) = 1 := rfl
  refine ⟨⟨by show ((List.range lines.length).map _).length = _; simp, fun i hi => row_len hl hi, by show ((List.range lines.length).map _).length = _; simp, by show (goal ++ List.replicate (lines.length + 1) 0).length = _; simp [hg]; omega⟩, ⟨fun i hi => ?_, fun i hi => ?_, fun i hi k hk hne => ?_, fun i hi => ?_, fun i hi => ?_⟩, fun i hi j hj => ?_, ⟨1, by omega, fun j hj => ?_⟩, fun i hi => ?_, ?_, fun w S k hk => ?_⟩
  · rw [hBt i hi, hT i hi _ (by omega), row_slack hl hi hi, if_pos rfl, one]; grind
  · rw [hBt i hi]; omega
  · rw [hBt k hk, hT i hi _ (by omega), row_slack hl hi hk, if_neg (fun e => hne e.symm)]; rfl
  · rw [hBt i hi, tb_G (by omega)]
    show ((at_ (goal ++ List.replicate (lines.length + 1) 0) (n + i) : Int) : Rat) = 0
    rw [first_goal hg hgo ho]
    have : e_ o (n + i) = 0 := if_neg (by omega)
    rw [this]; rfl
  · rw [hT i hi _ (Nat.le_refl _), row_last hl hi]
    exact rle.mpr (hb i hi)
  · show at_ (rw_ (tableL lines) i) j = im lines.length (fun k => at_ (rw_ (tableL lines) i) (n + k) * at_ (rw_ (tableL lines) k) j)
    rw [im_one i hi fun k hk hne => by rw [row_slack hl hi hk, if_neg hne]; simp, row_slack hl hi hi, if_pos rfl]; simp
  · show at_ (goal ++ List.replicate (lines.length + 1) 0) j = im lines.length (fun k => at_ (goal ++ List.replicate (lines.length + 1) 0) (n + k) * at_ (rw_ (tableL lines) k) j) + 1 * e_ o j
    rw [first_goal hg hgo ho, im_zero fun k hk => ?_]
    · omega
    · rw [first_goal hg hgo ho]
      have : e_ o (n + k) = 0 := if_neg (by omega)
      rw [this]; simp
  · exact prim_of (j := n + i) (by omega) (by show at_ (rw_ (tableL lines) i) (n + i) = 1; rw [row_slack hl hi hi, if_pos rfl])
  · exact prim_of (j := o) (by omega) (by show at_ (goal ++ List.replicate (lines.length + 1) 0) o = 1; rw [first_goal hg hgo ho]; exact if_pos rfl)
  · have := S k hk
    rw [hT k hk _ (Nat.le_refl _)] at this
    show sm (n + lines.length) (fun j => ((at_ (rw_ (tableL lines) k) j : Int) : Rat) * w j) = ((at_ (rw_ (tableL lines) k) (n + lines.length) : Int) : Rat)
    rw [← this]
    exact sm_congr fun j hj => by rw [hT k hk j (by omega)]
/-! ### what the equations tell -/
def dotL (l : List Int) (w : Nat → Rat) (n : Nat) : Rat := sm n (fun j => ((at_ l j : Int) : Rat) * w j)
theorem sm_split (a b : Nat) (f : Nat → Rat) : sm (a + b) f = sm a f + sm b (fun j => f (a + j)) := by
  induction b with
  | zero => show sm a f = sm a f + 0; grind
  | succ b ih => show sm (a + b) f + f (a + b) = sm a f + (sm b (fun j => f (a + j)) + f (a + b)); rw [ih]; grind
theorem eqn (hl : ∀ k, k < lines.length → (lines.getD k ([], 0)).1.length = n) (w : Nat → Rat) {k : Nat} (hk : k < lines.length) :
    sm (n + lines.length) (fun j => (T0of lines k j : Rat) * w j) = dotL (lines.getD k ([], 0)).1 w n + w (n + k) := by
  rw [sm_split]
  congr 1
  · exact sm_congr fun j hj => by
      show ((at_ (rw_ (tableL lines) k) j : Int) : Rat) * w j = _
      rw [row_at hl hk hj]
  · rw [sm_one k hk fun p hp hne => ?_]
    · show ((at_ (rw_ (tableL lines) k) (n + k) : Int) : Rat) * w (n + k) = _
      rw [row_slack hl hk hk, if_pos rfl]
      have : ((1 : Int) : Rat) = 1 := rfl
      rw [this]; grind
    · show ((at_ (rw_ (tableL lines) k) (n + p) : Int) : Rat) * w (n + p) = 0
      rw [row_slack hl hk hp, if_neg hne, rc_zero]; grind
theorem sol0_iff (hl : ∀ k, k < lines.length → (lines.getD k ([], 0)).1.length = n) (w : Nat → Rat) : Sol0 (n + lines.length) lines.length (T0of lines) w ↔ ∀ k, k < lines.length → dotL (lines.getD k ([], 0)).1 w n + w (n + k) = ((lines.getD k ([], 0)).2 : Rat) := by
  constructor
  · intro S k hk
    rw [← eqn hl w hk, S k hk]
    show ((at_ (rw_ (tableL lines) k) (n + lines.length) : Int) : Rat) = _
    rw [row_last hl hk]
  · intro S k hk
    rw [eqn hl w hk, S k hk]
    show _ = ((at_ (rw_ (tableL lines) k) (n + lines.length) : Int) : Rat)
    rw [row_last hl hk]
end
/-! ### the basic solution -/
section
variable {N m n o : Nat} {T0 : Nat → Nat → Int} {x : Ls}
noncomputable def bsol (N m : Nat) (x : Ls) : Nat → Rat := pt N m (tb N m (itOf x)) N 0
theorem bsol_b (I : IInv N m n o T0 (itOf x)) {i : Nat} (hi : i < m) : bsol N m x (x.bas.getD i 0) = ((at_ (rw_ x.tab i) N : Int) : Rat) / ((at_ (rw_ x.tab i) (x.bas.getD i 0) : Int) : Rat) := by
  have g := I.good
  have hs : ∀ k, k < m → (tb N m (itOf x)).B k ≠ N := fun k hk e => by have := g.lt k hk; omega
  have h := pt_b (x := 0) g hs hi
  have e : (tb N m (itOf x)).B i = x.bas.getD i 0 := tb_B hi
  have hlt := g.lt i hi
  rw [e] at h hlt
  rw [tb_T hi (Nat.le_refl _), tb_T hi (Nat.le_of_lt hlt)] at h
  have e2 : ((itOf x).T i N : Rat) - ((itOf x).T i N : Rat) * 0 = ((itOf x).T i N : Rat) := by grind
  rw [e2] at h
  exact h
theorem bsol_0 {j : Nat} (hj : j < N) (h : ∀ i, i < m → x.bas.getD i 0 ≠ j) : bsol N m x j = 0 := pt_0 (by omega) fun i hi e => h i hi (by rwa [tb_B hi] at e)
theorem bsol_nn (I : IInv N m n o T0 (itOf x)) {j : Nat} (hj : j < N) : 0 ≤ bsol N m x j := by
  by_cases h : ∃ i, i < m ∧ x.bas.getD i 0 = j
  · obtain ⟨i, hi, rfl⟩ := h
    have g := I.good
    have e : (tb N m (itOf x)).B i = x.bas.getD i 0 := tb_B hi
    have hlt := g.lt i hi
    have a := g.nn i hi
    have b := g.pos i hi
    rw [e] at hlt b
    rw [tb_T hi (Nat.le_refl _)] at a
    rw [tb_T hi (Nat.le_of_lt hlt)] at b
    rw [bsol_b I hi, Rat.div_def]
    have := Rat.inv_pos.mpr b
    exact Rat.mul_nonneg a (by have h2 : 0 < ((at_ (rw_ x.tab i) (x.bas.getD i 0) : Int) : Rat)⁻¹ := this; grind)
  · rw [bsol_0 hj fun i hi e => h ⟨i, hi, e⟩]; grind
theorem bsol_sol (I : IInv N m n o T0 (itOf x)) : Sol0 N m T0 (bsol N m x) := by
  have g := I.good
  refine I.sol _ fun i hi => ?_
  have hs : ∀ k, k < m → (tb N m (itOf x)).B k ≠ N := fun k hk e => by have := g.lt k hk; omega
  show sm N (fun j => (tb N m (itOf x)).T i j * pt N m (tb N m (itOf x)) N 0 j) = _
  rw [sm_one ((tb N m (itOf x)).B i) (g.lt i hi) fun j hj h2 => ?_, pt_b g hs hi, div_mul (g.pos i hi)]
  · grind
  · by_cases h : ∃ k, k < m ∧ (tb N m (itOf x)).B k = j
    · obtain ⟨k, hk, rfl⟩ := h
      rw [g.zero i hi k hk (fun e => h2 (by rw [e]))]; grind
    · rw [pt_0 (by omega) fun k hk e => h ⟨k, hk, e⟩]; grind
/-- the goal at the basic solution -/
theorem bsol_goal (O : Orig N m n o T0) (I : IInv N m n o T0 (itOf x)) : ∃ c : Rat, 0 < c ∧ c * bsol N m x o = - ((at_ x.goal N : Int) : Rat) ∧ ((∀ j, j < N → at_ x.goal j ≤ 0) → ∀ w, Sol N m (tb N m (itOf x)) w → (∀ j, j < N → 0 ≤ w j) → c * w o ≤ - ((at_ x.goal N : Int) : Rat)) := by
  obtain ⟨c, hc, h⟩ := tells_of O I
  have g := I.good
  refine ⟨c, hc, ?_, fun hG w S hw => ?_⟩
  · have S : Sol N m (tb N m (itOf x)) (bsol N m x) := fun i hi => by
      have hs : ∀ k, k < m → (tb N m (itOf x)).B k ≠ N := fun k hk e => by have := g.lt k hk; omega
      show sm N (fun j => (tb N m (itOf x)).T i j * pt N m (tb N m (itOf x)) N 0 j) = _
      rw [sm_one ((tb N m (itOf x)).B i) (g.lt i hi) fun j hj h2 => ?_, pt_b g hs hi, div_mul (g.pos i hi)]
      · grind
      · by_cases h : ∃ k, k < m ∧ (tb N m (itOf x)).B k = j
        · obtain ⟨k, hk, rfl⟩ := h
          rw [g.zero i hi k hk (fun e => h2 (by rw [e]))]; grind
        · rw [pt_0 (by omega) fun k hk e => h ⟨k, hk, e⟩]; grind
    have h1 := h _ S
    rw [sm_zero fun j hj => ?_, tb_G (Nat.le_refl _)] at h1
    · show c * bsol N m x o = _
      have h2 : c * bsol N m x o = 0 - ((at_ x.goal N : Int) : Rat) := h1
      rw [h2]; grind
    · by_cases q : ∃ k, k < m ∧ (tb N m (itOf x)).B k = j
      · obtain ⟨k, hk, rfl⟩ := q
        rw [g.gz k hk]; grind
      · rw [show bsol N m x j = 0 from pt_0 (by omega) fun k hk e => q ⟨k, hk, e⟩]; grind
  · have := optimal (t := tb N m (itOf x)) (fun j hj => by rw [tb_G (by omega)]; exact rle.mpr (hG j hj)) hc h S hw
    rw [tb_G (Nat.le_refl _)] at this
    exact this
end
end LP

set_option Elab.async false
set_option linter.all false
namespace LP
abbrev Row := List Int × Bool
def negL (l : List Int) : List Int := l.map fun z => -z
def sysLine (r : Row) : List Int × Int := (negL r.1 ++ [if r.2 then 1 else 0], 0)
def sysLines (rows : List Row) (many : Nat) : List (List Int × Int) := rows.map sysLine ++ [(List.replicate many 0 ++ [-1, 1], 0), (List.replicate (many + 1) 1 ++ [0], 1)]
def sysGoal (many : Nat) : List Int := List.replicate (many + 1) 0 ++ [1]
def val (l : List Int) (many : Nat) (x : Nat → Rat) : Rat := dotL l x many + ((at_ l many : Int) : Rat)
structure Feas (rows : List Row) (many : Nat) (x : Nat → Rat) : Prop where
  nn : ∀ j, j < many → 0 ≤ x j
  row : ∀ r ∈ rows, 0 ≤ val r.1 many x ∧ (r.2 = true → 0 < val r.1 many x)
theorem at_neg {l : List Int} {j : Nat} : at_ (negL l) j = - at_ l j := by
  unfold at_ negL; simp only [List.getD_eq_getElem?_getD]; rw [List.getElem?_map]
  cases l[j]? <;> rfl
theorem dot2 (l : List Int) (w : Nat → Rat) (many : Nat) : dotL l w (many + 2) = dotL l w many + ((at_ l many : Int) : Rat) * w many + ((at_ l (many + 1) : Int) : Rat) * w (many + 1) := rfl
theorem rc_neg (a : Int) : ((-a : Int) : Rat) = -(a : Rat) := Rat.intCast_neg a
theorem sys_len {rows : List Row} {many : Nat} : (sysLines rows many).length = rows.length + 2 := by unfold sysLines; simp
section
variable {rows : List Row} {many : Nat}
theorem sys_get (k : Nat) (hk : k < rows.length) : (sysLines rows many).getD k ([], 0) = sysLine (rows.getD k ([], false)) := by
  unfold sysLines
  rw [List.getD_eq_getElem?_getD, List.getElem?_append_left (by simpa using hk), List.getElem?_map, List.getD_eq_getElem?_getD, List.getElem?_eq_getElem hk]
  rfl
theorem sys_get1 : (sysLines rows many).getD rows.length ([], 0) = (List.replicate many 0 ++ [-1, 1], 0) := by
  unfold sysLines
  rw [List.getD_eq_getElem?_getD, List.getElem?_append_right (by simp)]
  simp
theorem sys_get2 : (sysLines rows many).getD (rows.length + 1) ([], 0) = (List.replicate (many + 1) 1 ++ [0], 1) := by
  unfold sysLines
  rw [List.getD_eq_getElem?_getD, List.getElem?_append_right (by simp)]
  simp
theorem get_mem {k : Nat} (hk : k < rows.length) : rows.getD k ([], false) ∈ rows := by
  rw [List.getD_eq_getElem?_getD, List.getElem?_eq_getElem hk]; simp
theorem sys_rows (hr : ∀ r ∈ rows, r.1.length = many + 1) : ∀ k, k < (sysLines rows many).length → ((sysLines rows many).getD k ([], 0)).1.length = many + 2 := by
  intro k hk
  rw [sys_len] at hk
  by_cases h : k < rows.length
  · rw [sys_get k h]
    have := hr _ (get_mem h)
    unfold sysLine negL
    simp only [List.length_append, List.length_map, List.length_cons, List.length_nil]
    omega
  · by_cases h2 : k = rows.length
    · subst h2; rw [sys_get1]; simp
    · have : k = rows.length + 1 := by omega
      subst this; rw [sys_get2]; simp
theorem sys_nn : ∀ k, k < (sysLines rows many).length → 0 ≤ ((sysLines rows many).getD k ([], 0)).2 := by
  intro k hk
  rw [sys_len] at hk
  by_cases h : k < rows.length
  · rw [sys_get k h]; exact Int.le_refl 0
  · by_cases h2 : k = rows.length
    · subst h2; rw [sys_get1]; exact Int.le_refl 0
    · have : k = rows.length + 1 := by omega
      subst this; rw [sys_get2]; exact (by decide : (0 : Int) ≤ 1)
theorem goal_at {j : Nat} : at_ (sysGoal many) j = e_ (many + 1) j := by
  unfold sysGoal e_
  by_cases h : j < many + 1
  · rw [at_app_l (by simpa using h), at_rep, if_neg (by omega)]
  · rw [at_app_r (by simpa using h)]
    simp only [List.length_replicate]
    by_cases e : j = many + 1
    · subst e; simp [at_]
    · rw [if_neg e]
      unfold at_
      rw [List.getD_eq_getElem?_getD, List.getElem?_eq_none (by simp; omega)]; rfl
theorem goal_len : (sysGoal many).length = many + 2 := by unfold sysGoal; simp
/-- a row's equation -/
theorem line_dot (hr : ∀ r ∈ rows, r.1.length = many + 1) {r : Row} (h : r ∈ rows) (w : Nat → Rat) : dotL (sysLine r).1 w (many + 2) = -(dotL r.1 w many + ((at_ r.1 many : Int) : Rat) * w many) + (if r.2 then 1 else 0) * w (many + 1) := by
  have hl := hr r h
  have hn : (negL r.1).length = many + 1 := by unfold negL; rw [List.length_map, hl]
  rw [dot2]
  have e1 : dotL (sysLine r).1 w many = - dotL r.1 w many := by
    unfold dotL
    have : sm many (fun j => ((at_ (sysLine r).1 j : Int) : Rat) * w j) = sm many (fun j => (-1) * (((at_ r.1 j : Int) : Rat) * w j)) := sm_congr fun j hj => by
      show ((at_ (negL r.1 ++ _) j : Int) : Rat) * w j = _
      rw [at_app_l (by omega), at_neg, rc_neg]; grind
    rw [this, sm_mul]; grind
  have e2 : at_ (sysLine r).1 many = - at_ r.1 many := by
    show at_ (negL r.1 ++ _) many = _
    rw [at_app_l (by omega), at_neg]
  have e3 : at_ (sysLine r).1 (many + 1) = if r.2 then 1 else 0 := by
    show at_ (negL r.1 ++ _) (many + 1) = _
    rw [at_app_r (by omega), hn, Nat.sub_self]
    rfl
  rw [e1, e2, e3, rc_neg]
  have e4 : (((if r.2 then 1 else 0 : Int)) : Rat) = if r.2 then 1 else 0 := by split <;> rfl
  rw [e4]; grind
theorem line1_dot (w : Nat → Rat) : dotL (List.replicate many 0 ++ [-1, 1]) w (many + 2) = - w many + w (many + 1) := by
  rw [dot2]
  have e1 : dotL (List.replicate many 0 ++ [-1, 1]) w many = 0 := sm_zero fun j hj => by
    rw [at_app_l (by simpa using hj), at_rep, rc_zero]; grind
  have e2 : at_ (List.replicate many 0 ++ [-1, 1]) many = -1 := by rw [at_app_r (by simp)]; simp [at_]
  have e3 : at_ (List.replicate many 0 ++ [-1, 1]) (many + 1) = 1 := by rw [at_app_r (by simp)]; simp [at_]
  rw [e1, e2, e3]
  have a : ((-1 : Int) : Rat) = -1 := rfl
  have b : ((1 : Int) : Rat) = 1 := rfl
  rw [a, b]; grind
theorem line2_dot (w : Nat → Rat) : dotL (List.replicate (many + 1) 1 ++ [0]) w (many + 2) = sm many w + w many := by
  rw [dot2]
  have b : ((1 : Int) : Rat) = 1 := rfl
  have hat : ∀ j, j < many + 1 → at_ (List.replicate (many + 1) 1 ++ [0]) j = 1 := fun j hj => by
    rw [at_app_l (by simpa using hj)]
    unfold at_
    rw [List.getD_eq_getElem?_getD, List.getElem?_replicate, if_pos hj]; rfl
  have e1 : dotL (List.replicate (many + 1) 1 ++ [0]) w many = sm many w := sm_congr fun j hj => by
    rw [hat j (by omega), b]; grind
  have e3 : at_ (List.replicate (many + 1) 1 ++ [0]) (many + 1) = 0 := by rw [at_app_r (by simp)]; simp [at_]
  rw [e1, hat many (by omega), e3, b, rc_zero]; grind
theorem sys_bound (hr : ∀ r ∈ rows, r.1.length = many + 1) (w : Nat → Rat) (S : Sol0 (many + 2 + (sysLines rows many).length) (sysLines rows many).length (T0of (sysLines rows many)) w) (hw : ∀ j, j < many + 2 + (sysLines rows many).length → 0 ≤ w j) : w (many + 1) ≤ 1 := by
  have h := (sol0_iff (sys_rows hr) w).mp S
  have h1 := h rows.length (by rw [sys_len]; omega)
  have h2 := h (rows.length + 1) (by rw [sys_len]; omega)
  rw [sys_get1] at h1
  rw [sys_get2] at h2
  have a1 := hw (many + 2 + rows.length) (by rw [sys_len]; omega)
  have a2 := hw (many + 2 + (rows.length + 1)) (by rw [sys_len]; omega)
  have a3 : 0 ≤ sm many w := sm_nonneg fun j hj => hw j (by omega)
  have b1 : dotL (List.replicate many 0 ++ [-1, 1]) w (many + 2) + w (many + 2 + rows.length) = ((0 : Int) : Rat) := h1
  have b2 : dotL (List.replicate (many + 1) 1 ++ [0]) w (many + 2) + w (many + 2 + (rows.length + 1)) = ((1 : Int) : Rat) := h2
  rw [line1_dot] at b1
  rw [line2_dot] at b2
  have b : ((1 : Int) : Rat) = 1 := rfl
  rw [rc_zero] at b1
  rw [b] at b2
  grind
theorem sol_of0 {N m n o : Nat} {T0 : Nat → Nat → Int} {x : Ls} (I : IInv N m n o T0 (itOf x)) {w : Nat → Rat} (h : Sol0 N m T0 w) : Sol N m (tb N m (itOf x)) w := by
  intro i hi
  rw [tb_T hi (Nat.le_refl _), I.comb i hi N (Nat.le_refl _), ← comb_sol h (fun k => (itOf x).T i (n + k))]
  exact sm_congr fun j hj => by rw [tb_T hi (by omega), I.comb i hi j (by omega)]
/-- the least of what strict rows leave -/
theorem strict_gap (y : Nat → Rat) : ∀ (rows : List Row), (∀ r ∈ rows, r.2 = true → 0 < val r.1 many y) → ∃ d : Rat, 0 < d ∧ d ≤ 1 ∧ ∀ r ∈ rows, r.2 = true → d ≤ val r.1 many y
  | [], _ => ⟨1, by grind, by grind, fun _ h => by cases h⟩
  | r :: rs, h => by
    obtain ⟨d, h1, h2, h3⟩ := strict_gap y rs fun q hq => h q (by simp [hq])
    by_cases e : r.2 = true ∧ val r.1 many y < d
    · refine ⟨val r.1 many y, h r (by simp) e.1, by grind, fun q hq hs => ?_⟩
      rcases List.mem_cons.mp hq with z | z
      · rw [z]; grind
      · have := h3 q z hs; grind
    · refine ⟨d, h1, h2, fun q hq hs => ?_⟩
      rcases List.mem_cons.mp hq with z | z
      · subst z
        have := fun z => e ⟨hs, z⟩
        grind
      · exact h3 q z hs
variable {x : Ls}
/-- none: there is no point -/
theorem sys_none (hr : ∀ r ∈ rows, r.1.length = many + 1) (I : IInv (many + 2 + (sysLines rows many).length) (sysLines rows many).length (many + 2) (many + 1) (T0of (sysLines rows many)) (itOf x))
    (hp : posL (many + 2 + (sysLines rows many).length) x.goal = []) (h0 : bsol (many + 2 + (sysLines rows many).length) (sysLines rows many).length x (many + 1) = 0) (y : Nat → Rat) : ¬ Feas rows many y := by
  intro F
  have hrows := sys_rows (many := many) hr
  have O := orig_of (o := many + 1) hrows (by omega)
  obtain ⟨c, hc, hg, hopt⟩ := bsol_goal O I
  obtain ⟨d, hd, hd1, hds⟩ := strict_gap y rows fun r hr hs => (F.row r hr).2 hs
  have hsum : 0 ≤ sm many y := sm_nonneg F.nn
  have ht : 0 < (1 + sm many y)⁻¹ := Rat.inv_pos.mpr (by grind)
  have htt : (1 + sm many y)⁻¹ * (1 + sm many y) = 1 := Rat.inv_mul_cancel _ (by grind)
  generalize (1 + sm many y)⁻¹ = τ at ht htt
  let u : Nat → Rat := fun j => if j < many then τ * y j else if j = many then τ else τ * d
  let w : Nat → Rat := fun j => if j < many + 2 then u j else ((((sysLines rows many).getD (j - (many + 2)) ([], 0)).2 : Int) : Rat) - dotL ((sysLines rows many).getD (j - (many + 2)) ([], 0)).1 u (many + 2)
  have wu : ∀ l : List Int, dotL l w (many + 2) = dotL l u (many + 2) := fun l => sm_congr fun j hj => by
    show _ * (if j < many + 2 then u j else _) = _
    rw [if_pos hj]
  have wk : ∀ k, w (many + 2 + k) = ((((sysLines rows many).getD k ([], 0)).2 : Int) : Rat) - dotL ((sysLines rows many).getD k ([], 0)).1 u (many + 2) := fun k => by
    show (if many + 2 + k < many + 2 then u (many + 2 + k) else ((((sysLines rows many).getD (many + 2 + k - (many + 2)) ([], 0)).2 : Int) : Rat) - dotL ((sysLines rows many).getD (many + 2 + k - (many + 2)) ([], 0)).1 u (many + 2)) = _
    have : many + 2 + k - (many + 2) = k := by omega
    rw [if_neg (by omega), this]
  have S0 : Sol0 (many + 2 + (sysLines rows many).length) (sysLines rows many).length (T0of (sysLines rows many)) w := (sol0_iff hrows w).mpr fun k hk => by
    rw [wu, wk]; grind
  have um : u many = τ := by show (if many < many then _ else if many = many then τ else _) = τ; rw [if_neg (by omega), if_pos rfl]
  have uo : u (many + 1) = τ * d := by show (if many + 1 < many then _ else if many + 1 = many then _ else τ * d) = _; rw [if_neg (by omega), if_neg (by omega)]
  have uj : ∀ j, j < many → u j = τ * y j := fun j hj => if_pos hj
  have hτd : 0 < τ * d := Rat.mul_pos ht hd
  have wnn : ∀ j, j < many + 2 + (sysLines rows many).length → 0 ≤ w j := by
    intro j hj
    by_cases h1 : j < many + 2
    · show 0 ≤ (if j < many + 2 then u j else _)
      rw [if_pos h1]
      by_cases h2 : j < many
      · rw [uj j h2]; exact Rat.mul_nonneg (by grind) (F.nn j h2)
      · by_cases h3 : j = many
        · subst h3; rw [um]; grind
        · have : j = many + 1 := by omega
          subst this; rw [uo]; grind
    · obtain ⟨k, rfl⟩ : ∃ k, j = many + 2 + k := ⟨j - (many + 2), by omega⟩
      rw [wk]
      rw [sys_len] at hj
      by_cases h2 : k < rows.length
      · rw [sys_get k h2]
        have hm := get_mem h2
        rw [line_dot hr hm, um, uo]
        have e1 : dotL (rows.getD k ([], false)).1 u many = τ * dotL (rows.getD k ([], false)).1 y many := by
          unfold dotL
          rw [← sm_mul]
          exact sm_congr fun j hj => by rw [uj j hj]; grind
        rw [e1]
        obtain ⟨f1, f2⟩ := F.row _ hm
        have f3 := hds _ hm
        have hv : τ * dotL (rows.getD k ([], false)).1 y many + ((at_ (rows.getD k ([], false)).1 many : Int) : Rat) * τ = τ * val (rows.getD k ([], false)).1 many y := by unfold val; grind
        show (0 : Rat) ≤ ((0 : Int) : Rat) - (-(τ * dotL (rows.getD k ([], false)).1 y many + ((at_ (rows.getD k ([], false)).1 many : Int) : Rat) * τ) + (if (rows.getD k ([], false)).2 then 1 else 0) * (τ * d))
        rw [hv, rc_zero]
        cases hs : (rows.getD k ([], false)).2 with
        | true =>
          have : 0 ≤ τ * (val (rows.getD k ([], false)).1 many y - d) := Rat.mul_nonneg (by grind) (by have := f3 hs; grind)
          simp only [if_true]
          grind
        | false =>
          have : 0 ≤ τ * val (rows.getD k ([], false)).1 many y := Rat.mul_nonneg (by grind) f1
          simp only [if_false, Bool.false_eq_true]
          grind
      · by_cases h3 : k = rows.length
        · subst h3
          rw [sys_get1]
          show (0 : Rat) ≤ ((0 : Int) : Rat) - dotL (List.replicate many 0 ++ [-1, 1]) u (many + 2)
          rw [line1_dot, um, uo, rc_zero]
          have : 0 ≤ τ * (1 - d) := Rat.mul_nonneg (by grind) (by grind)
          grind
        · have : k = rows.length + 1 := by omega
          subst this
          rw [sys_get2]
          show (0 : Rat) ≤ ((1 : Int) : Rat) - dotL (List.replicate (many + 1) 1 ++ [0]) u (many + 2)
          rw [line2_dot, um]
          have e1 : sm many u = τ * sm many y := by rw [← sm_mul]; exact sm_congr fun j hj => uj j hj
          rw [e1]
          have b : ((1 : Int) : Rat) = 1 := rfl
          rw [b]; grind
  have q := hopt (pos_nil hp) w (sol_of0 I S0) wnn
  rw [← hg, h0] at q
  have : w (many + 1) = τ * d := by
    show (if many + 1 < many + 2 then u (many + 1) else _) = _
    rw [if_pos (by omega), uo]
  rw [this] at q
  have := Rat.mul_pos hc hτd
  grind
/-- some: the point is one -/
theorem sys_some (hr : ∀ r ∈ rows, r.1.length = many + 1) (I : IInv (many + 2 + (sysLines rows many).length) (sysLines rows many).length (many + 2) (many + 1) (T0of (sysLines rows many)) (itOf x))
    (h0 : 0 < bsol (many + 2 + (sysLines rows many).length) (sysLines rows many).length x (many + 1)) :
    0 < bsol (many + 2 + (sysLines rows many).length) (sysLines rows many).length x many ∧ Feas rows many (fun j => bsol (many + 2 + (sysLines rows many).length) (sysLines rows many).length x j / bsol (many + 2 + (sysLines rows many).length) (sysLines rows many).length x many) := by
  have hrows := sys_rows (many := many) hr
  have S := (sol0_iff hrows _).mp (bsol_sol I)
  have nn : ∀ j, j < many + 2 + (sysLines rows many).length → 0 ≤ bsol (many + 2 + (sysLines rows many).length) (sysLines rows many).length x j := fun j hj => bsol_nn I hj
  generalize bsol (many + 2 + (sysLines rows many).length) (sysLines rows many).length x = w at *
  have h1 := S rows.length (by rw [sys_len]; omega)
  rw [sys_get1] at h1
  have b1 : dotL (List.replicate many 0 ++ [-1, 1]) w (many + 2) + w (many + 2 + rows.length) = ((0 : Int) : Rat) := h1
  rw [line1_dot, rc_zero] at b1
  have a1 := nn (many + 2 + rows.length) (by rw [sys_len]; omega)
  have hm : 0 < w many := by grind
  have hi : 0 < (w many)⁻¹ := Rat.inv_pos.mpr hm
  refine ⟨hm, fun j hj => ?_, fun r hrm => ?_⟩
  · rw [Rat.div_def]; exact Rat.mul_nonneg (nn j (by omega)) (by grind)
  · obtain ⟨k, hk, ek⟩ := List.mem_iff_getElem.mp hrm
    have hS := S k (by rw [sys_len]; omega)
    have er : rows.getD k ([], false) = r := by rw [List.getD_eq_getElem?_getD, List.getElem?_eq_getElem hk, ek]; rfl
    rw [sys_get k hk, er, line_dot hr hrm] at hS
    have a2 := nn (many + 2 + k) (by rw [sys_len]; omega)
    have hv : val r.1 many (fun j => w j / w many) * w many = dotL r.1 w many + ((at_ r.1 many : Int) : Rat) * w many := by
      unfold val
      have : dotL r.1 (fun j => w j / w many) many = (w many)⁻¹ * dotL r.1 w many := by
        unfold dotL
        rw [← sm_mul]
        exact sm_congr fun j hj => by
          show ((at_ r.1 j : Int) : Rat) * (w j / w many) = _
          rw [Rat.div_def]; grind
      rw [this]
      have : (w many)⁻¹ * w many = 1 := Rat.inv_mul_cancel _ (by grind)
      grind
    have hz : (((sysLine r).2 : Int) : Rat) = 0 := rfl
    rw [hz] at hS
    generalize val r.1 many (fun j => w j / w many) = v at *
    refine ⟨?_, fun hs => ?_⟩
    · refine mul_nn_left hm ?_
      have : 0 ≤ (if r.2 then (1 : Rat) else 0) * w (many + 1) := Rat.mul_nonneg (by split <;> grind) (by grind)
      grind
    · refine mul_pos_left hm ?_
      rw [if_pos hs] at hS
      grind
theorem sys_stop (hr : ∀ r ∈ rows, r.1.length = many + 1) (I : IInv (many + 2 + (sysLines rows many).length) (sysLines rows many).length (many + 2) (many + 1) (T0of (sysLines rows many)) (itOf x))
    (h : at_ x.goal (many + 2 + (sysLines rows many).length) < 0) : 0 < bsol (many + 2 + (sysLines rows many).length) (sysLines rows many).length x (many + 1) := by
  obtain ⟨c, hc, hg, _⟩ := bsol_goal (orig_of (o := many + 1) (sys_rows hr) (by omega)) I
  refine mul_pos_left hc ?_
  rw [hg]
  have : ((at_ x.goal (many + 2 + (sysLines rows many).length) : Int) : Rat) < ((0 : Int) : Rat) := rlt.mpr h
  rw [rc_zero] at this
  grind
end
end LP

set_option Elab.async false
set_option linter.all false
set_option maxRecDepth 100000
namespace K14
open PySem L2 Lite LP
/-- Euclid's turns -/
theorem while_gcd (μ : Store) (a d2 : Option D) (d1 : D) : ∀ (n : Nat) (x y : Nat), y < n → ∃ k, whileN Q_divisor_1 B_divisor_2 k [a, some d1, d2, some (.int x), some (.int y)] μ = .nx [a, some d1, d2, some (.int (Nat.gcd x y)), some (.int 0)] μ
  | 0, _, _, h => by omega
  | n + 1, x, y, h => by
    by_cases hy : y = 0
    · subst hy
      exact ⟨1, by rw [while_stop (μ1 := μ) (by simp [Q_divisor_1])]; simp⟩
    · obtain ⟨k, hk⟩ := while_gcd μ a d2 d1 n y (x % y) (by have := Nat.mod_lt x (by omega : 0 < y); omega)
      refine ⟨k + 1, ?_⟩
      have hy' : (0 : Int) < (y : Int) := by omega
      have g : Nat.gcd x y = Nat.gcd y (x % y) := by rw [Nat.gcd_comm, Nat.gcd_rec, Nat.gcd_comm]
      rw [g, ← hk]
      refine while_nx (μ1 := μ) (by simp [Q_divisor_1]; omega) ?_
      simp [B_divisor_2, mod_int hy']
theorem run_divisor (xs : List Int) (d : D) (μ : Store) (hd : d = .lst (ilD xs) ∨ d = .tup (ilD xs)) : F_divisor.run [d] μ = .ok (.int (part xs)) μ := by
  show runF N_divisor G_divisor [d] μ = _
  refine runF_rt ?_ rfl
  have hloop : ∀ (l : List Int) (g : Nat) (d2 d3 d4 : Option D), ∃ e2 e3 e4, forGo (tgName 2) B_divisor_3 [] (ilD l) [some d, some (.int g), d2, d3, d4] μ = .nx [some d, some (.int (l.foldl (fun a b => Nat.gcd a b.natAbs) g : Nat)), e2, e3, e4] μ := by
    intro l
    induction l with
    | nil => intro g d2 d3 d4; exact ⟨d2, d3, d4, forGo_nil⟩
    | cons x l ih =>
      intro g d2 d3 d4
      obtain ⟨k, hk⟩ := while_gcd μ (some d) (some (.int x)) (.int g) (x.natAbs + 1) g x.natAbs (by omega)
      have hw := ssWhile_eq hk (by simp)
      obtain ⟨e2, e3, e4, h⟩ := ih (Nat.gcd g x.natAbs) (some (.int x)) (some (.int (Nat.gcd g x.natAbs))) (some (.int 0))
      refine ⟨e2, e3, e4, ?_⟩
      show forGo _ _ [] (.int x :: ilD l) _ μ = _
      rw [forGo_nx rfl (ρ2 := [some d, some (.int (Nat.gcd g x.natAbs)), some (.int x), some (.int (Nat.gcd g x.natAbs)), some (.int 0)]) (μ2 := μ) (by simp [B_divisor_3, hw])]
      exact h
  have hfold : ∀ (l : List Int) (g : Nat), l.foldl (fun a b => Nat.gcd a b.natAbs) g = Nat.gcd g (gcdL l) := by
    intro l
    induction l with
    | nil => intro g; show g = Nat.gcd g 0; simp
    | cons x l ih => intro g; show l.foldl _ (Nat.gcd g x.natAbs) = Nat.gcd g (Nat.gcd x.natAbs (gcdL l)); rw [ih, Nat.gcd_assoc]
  obtain ⟨e2, e3, e4, h⟩ := hloop xs 0 none none none
  rw [hfold, Nat.gcd_zero_left, show ((0 : Nat) : Int) = 0 from rfl] at h
  have hs : itmOf d μ = .ok ⟨ilD xs, []⟩ μ := by
    rcases hd with rfl | rfl <;> rfl
  unfold G_divisor part
  simp [N_divisor, hs]
  rw [h]
  by_cases q : 0 < gcdL xs
  · simp [q]
  · simp [q]
def lowP (t b : Int) : Int × Int := (t / part [t, b], b / part [t, b])
def frD (p : Int × Int) : D := .tup [.int p.1, .int p.2]
theorem part_le {t b : Int} (hb : 0 < b) : (part [t, b]).natAbs ≤ b.natAbs := by
  have h : part [t, b] ∣ b := part_dvd (by simp)
  exact Nat.le_of_dvd (by omega) (Int.natAbs_dvd_natAbs.mpr h)
theorem run_lowest {t b : Int} (μ : Store) (hb : 0 < b) (hs : Sz 8999 b) : F_lowest.run [.int t, .int b] μ = .ok (frD (lowP t b)) μ := by
  show runF N_lowest G_lowest [.int t, .int b] μ = _
  refine runF_rt ?_ rfl
  have hp := part_pos [t, b]
  have hz : Sz 8999 (part [t, b]) := Nat.lt_of_le_of_lt (part_le hb) hs
  have hd := run_divisor [t, b] (.lst [.int t, .int b]) μ (.inl rfl)
  unfold G_lowest
  have har : (1 : Nat) = F_divisor.ar := rfl
  simp [N_lowest, hd, ← har, hb, divZ hp hz]
  rfl
theorem run_plus {a b c d f : Int} (μ : Store) {s : Nat} (hb : 0 < b) (hd : 0 < d) (ha : Sz s a) (hb' : Sz s b) (hc : Sz s c) (hd' : Sz s d) (hf : Sz s f) (hs : 4 * s ≤ 999998) (hs2 : Sz 8999 (b * d)) :
    F_plus.run [frD (a, b), frD (c, d), .int f] μ = .ok (frD (lowP (a * d + f * c * b) (b * d))) μ := by
  show runF N_plus G_plus [frD (a, b), frD (c, d), .int f] μ = _
  refine runF_rt ?_ rfl
  have hl := run_lowest (t := a * d + f * c * b) μ (Int.mul_pos hb hd) hs2
  unfold G_plus
  have har : (2 : Nat) = F_lowest.ar := rfl
  simp [N_plus, frD, mulZ ha hd' (by omega), mulZ hf hc (by omega), mulZ (hf.mul hc) hb' (by omega), mulZ hb' hd' (by omega), ← har, hl]
theorem run_is_less {a b c d : Int} (μ : Store) {s : Nat} (ha : Sz s a) (hb' : Sz s b) (hc : Sz s c) (hd' : Sz s d) (hs : 2 * s ≤ 999998) : F_is_less.run [frD (a, b), frD (c, d)] μ = .ok (.bl (decide (a * d < c * b))) μ := by
  show runF N_is_less G_is_less [frD (a, b), frD (c, d)] μ = _
  refine runF_rt ?_ rfl
  unfold G_is_less
  simp [N_is_less, frD, mulZ ha hd' (by omega), mulZ hc hb' (by omega)]
theorem run_neat {xs : List Int} (μ : Store) (hl : xs.length ≤ sizeLine) (hs : Sz 8999 (part xs)) : F_neat.run [.lst (ilD xs)] μ = .ok (.lst (ilD (neatL xs))) μ := by
  show runF N_neat G_neat [.lst (ilD xs)] μ = _
  refine runF_rt ?_ (by simp)
  have hp := part_pos xs
  have hd := run_divisor xs (.lst (ilD xs)) μ (.inl rfl)
  have har : (1 : Nat) = F_divisor.ar := rfl
  unfold G_neat
  simp [N_neat, hd, ← har]
  rw [lc_map (g := fun x : Int => .int (x / part xs)) hl fun x hx => ⟨_, rfl, by simp [E_neat_1, divZ hp hs]⟩]
  simp [neatL]
theorem zip_len {A B : Type} {xs : List A} {ys : List B} {n : Nat} (h : xs.length ≤ n) : (xs.zip ys).length ≤ n := by
  rw [List.length_zip]; exact Nat.le_trans (Nat.min_le_left _ _) h
theorem run_cleared {line pivot : List Int} {s : Nat} (μ : Store) {w : Nat} (hl : line.length ≤ sizeLine) (h1 : s < line.length) (h2 : s < pivot.length) (hw : ∀ x ∈ line, Sz w x) (hw2 : ∀ x ∈ pivot, Sz w x) (hb : 2 * w ≤ 999998) (hs : Sz 8999 (part (crossL line pivot s))) :
    F_cleared.run [.lst (ilD line), .lst (ilD pivot), .int (s : Int)] μ = .ok (.lst (ilD (clearedL line pivot s))) μ := by
  show runF N_cleared G_cleared [.lst (ilD line), .lst (ilD pivot), .int (s : Int)] μ = _
  refine runF_rt ?_ (by simp)
  have e1 : atI (ilD line) (s : Int) = some (.int (at_ line s)) := by
    rw [Lite.atI_nat, List.getElem?_map]; unfold at_; rw [List.getD_eq_getElem?_getD, List.getElem?_eq_getElem h1]; rfl
  have e2 : atI (ilD pivot) (s : Int) = some (.int (at_ pivot s)) := by
    rw [Lite.atI_nat, List.getElem?_map]; unfold at_; rw [List.getD_eq_getElem?_getD, List.getElem?_eq_getElem h2]; rfl
  have z1 : Sz w (at_ line s) := hw _ (at_mem h1)
  have z2 : Sz w (at_ pivot s) := hw2 _ (at_mem h2)
  unfold G_cleared clearedL
  by_cases q : at_ line s = 0
  · simp [N_cleared, e1, q]
  · have hn := run_neat (xs := crossL line pivot s) μ (by unfold crossL; rw [List.length_zipWith]; exact Nat.le_trans (Nat.min_le_left _ _) hl) hs
    have har : (1 : Nat) = F_neat.ar := rfl
    have hz := zip_map (en := D.int) (fn := D.int) (xs := line) (ys := pivot)
    simp only [ilD] at e1 e2 hn
    simp [N_cleared, e1, q, hz]
    rw [lc_map (g := fun p : Int × Int => .int (p.1 * at_ pivot s - p.2 * at_ line s)) (zip_len hl) fun p hp => ⟨_, rfl, by
      have m1 : Sz w p.1 := hw _ (List.of_mem_zip hp).1
      have m2 : Sz w p.2 := hw2 _ (List.of_mem_zip hp).2
      simp [E_cleared_1, e1, e2, mulZ m1 z2 (by omega), mulZ m2 z1 (by omega)]⟩]
    have e3 : (line.zip pivot).map (fun p : Int × Int => D.int (p.1 * at_ pivot s - p.2 * at_ line s)) = (crossL line pivot s).map .int := by
      unfold crossL
      rw [List.zip, List.map_zipWith, List.map_zipWith]
    simp [e3, ← har, hn]
end K14

set_option Elab.async false
set_option linter.all false
set_option maxRecDepth 100000
namespace K14
open PySem L2 Lite LP
def lnD (l : List Int × Int) : D := .tup [.lst (ilD l.1), .int l.2]
def mxD (t : List (List Int)) : List D := t.map fun r => .lst (ilD r)
theorem below_mx {n : Nat} {t : List (List Int)} : belowL n (mxD t) = true := belowL_map fun r _ => by simp
theorem slack_lc (n k : Nat) (μ : Store) (ρ : Lite.Frame) (hn : n ≤ 40) (h3 : ∀ v, (ρ.set 9 v)[9]? = some v) (hk : ∀ v, (ρ.set 9 v)[3]? = some (some (D.int k))) :
    lcGo (tgName 9) stYes E_table_of_1 ρ [] ((List.range n).map fun i : Nat => D.int (i : Int)) [] μ = .ok (ilD (unitL n k)) μ := by
  rw [lc_map (en := fun i : Nat => D.int (i : Int)) (g := fun i : Nat => D.int (if i = k then 1 else 0)) (sl_le (by rw [List.length_range]; omega)) fun i hi => ⟨_, rfl, by
    by_cases q : i = k
    · subst q; simp [E_table_of_1, h3, hk]
    · have q2 : ¬ ((i : Int) = (k : Int)) := by omega
      simp [E_table_of_1, h3, hk, q, q2]⟩]
  unfold unitL; simp [ilD]
theorem body_table (L : D) (n k : Nat) (μ : Store) (T : List (List Int)) (x : List Int × Int) (d5 d6 d7 d8 d9 : Option D) (hn : n ≤ 40) (hT : T.length ≤ 40) (hx : x.1.length ≤ 40) :
    B_table_of_2 [some L, some (.int n), some (.lst (mxD T)), some (.int k), some (lnD x), d5, d6, d7, d8, d9] μ
      = .nx [some L, some (.int n), some (.lst (mxD (T ++ [rowL n k x]))), some (.int k), some (lnD x), some (.lst (ilD x.1)), some (.int x.2), some (.lst (ilD (unitL n k))), d8, d9] μ := by
  unfold B_table_of_2
  have hs := slack_lc n k μ [some L, some (.int n), some (.lst (mxD T)), some (.int k), some (lnD x), some (.lst (ilD x.1)), some (.int x.2), d7, none, none] hn (fun v => rfl) (fun v => rfl)
  unfold lnD at hs ⊢
  simp [rng_nat (μ := μ) (show n ≤ 100 by omega), hs]
  rw [add_lst (sl_le (by rw [List.length_map, List.length_map, unit_len]; omega))]
  simp
  rw [add_lst (sl_le (by rw [List.length_append, List.length_map, List.length_map, unit_len]; simp; omega))]
  simp
  rw [add_lst (sl_le (by unfold mxD; rw [List.length_map]; simp; omega))]
  simp [mxD, rowL]
theorem loop_table (L : D) (n : Nat) (μ : Store) (hn : n ≤ 40) : ∀ (xs : List (List Int × Int)) (k : Nat) (T : List (List Int)) (d3 d4 d5 d6 d7 d8 d9 : Option D), T.length + xs.length ≤ 40 → (∀ l ∈ xs, l.1.length ≤ 40) →
      ∃ e3 e4 e5 e6 e7 e8 e9, forGo (tgTup 2 (tgCons (tgName 3) (tgCons (tgName 4) tgNil))) B_table_of_2 [] ((xs.zipIdx k).map fun p => .tup [.int (p.2 : Nat), lnD p.1]) [some L, some (.int n), some (.lst (mxD T)), d3, d4, d5, d6, d7, d8, d9] μ
        = .nx [some L, some (.int n), some (.lst (mxD (T ++ (xs.zipIdx k).map fun p => rowL n p.2 p.1))), e3, e4, e5, e6, e7, e8, e9] μ
  | [], k, T, d3, d4, d5, d6, d7, d8, d9, _, _ => ⟨d3, d4, d5, d6, d7, d8, d9, by simp⟩
  | x :: xs, k, T, d3, d4, d5, d6, d7, d8, d9, hT, hx => by
    have hT' : T.length + (xs.length + 1) ≤ 40 := hT
    obtain ⟨e3, e4, e5, e6, e7, e8, e9, h⟩ := loop_table L n μ hn xs (k + 1) (T ++ [rowL n k x]) (some (.int k)) (some (lnD x)) (some (.lst (ilD x.1))) (some (.int x.2)) (some (.lst (ilD (unitL n k)))) d8 d9 (by rw [List.length_append]; simp; omega) fun l hl => hx l (by simp [hl])
    refine ⟨e3, e4, e5, e6, e7, e8, e9, ?_⟩
    rw [List.zipIdx_cons, List.map_cons, List.map_cons]
    rw [forGo_nx (ρ1 := [some L, some (.int n), some (.lst (mxD T)), some (.int k), some (lnD x), d5, d6, d7, d8, d9]) (by simp) (body_table L n k μ T x d5 d6 d7 d8 d9 hn (by omega) (hx x (by simp))), h]
    simp
theorem run_table_of {lines : List (List Int × Int)} (μ : Store) (hn : lines.length ≤ 40) (hl : ∀ l ∈ lines, l.1.length ≤ 40) : F_table_of.run [.lst (lines.map lnD)] μ = .ok (.lst (mxD (tableL lines))) μ := by
  show runF N_table_of G_table_of [.lst (lines.map lnD)] μ = _
  refine runF_rt ?_ (by show belowL _ _ = true; exact below_mx)
  obtain ⟨e3, e4, e5, e6, e7, e8, e9, h⟩ := loop_table (.lst (lines.map lnD)) lines.length μ hn lines 0 [] none none none none none none none (by simpa using hn) hl
  have e : [] ++ (lines.zipIdx 0).map (fun p => rowL lines.length p.2 p.1) = tableL lines := by
    rw [List.nil_append]
    unfold tableL
    refine List.ext_getElem (by simp) fun i h1 h2 => ?_
    have hi : i < lines.length := by simpa using h1
    simp [List.getElem?_eq_getElem hi]
  rw [e] at h
  have h0 : mxD [] = [] := rfl
  rw [h0] at h
  unfold G_table_of
  simp [N_table_of, enum_map, h]
/-- what leaving has found -/
def fndD : Option Nat → D
  | none => .non
  | some r => .int (r : Nat)
theorem mx_at {t : List (List Int)} {i : Nat} (h : i < t.length) : atI (mxD t) (i : Int) = some (.lst (ilD (rw_ t i))) := by
  rw [Lite.atI_nat]
  unfold mxD rw_
  rw [List.getElem?_map, List.getD_eq_getElem?_getD, List.getElem?_eq_getElem h]; rfl
theorem il_at {l : List Int} {j : Nat} (h : j < l.length) : atI (l.map D.int) (j : Int) = some (.int (at_ l j)) := by
  rw [Lite.atI_nat, List.getElem?_map]; unfold at_; rw [List.getD_eq_getElem?_getD, List.getElem?_eq_getElem h]; rfl
theorem il_last {l : List Int} {n : Nat} (h : l.length = n + 1) : atI (l.map D.int) (-1) = some (.int (at_ l n)) := by
  have hne : l.map D.int ≠ [] := fun e => by have := congrArg List.length e; rw [List.length_map, h] at this; simp at this
  have e : n + 1 - 1 = n := by omega
  rw [Lite.atI_last hne, List.length_map, h, e, List.getElem?_map]; unfold at_; rw [List.getD_eq_getElem?_getD, List.getElem?_eq_getElem (by omega)]; rfl
def basD (b : List Nat) : List D := b.map fun i => .int (i : Nat)
theorem bas_at {b : List Nat} {i : Nat} (h : i < b.length) : atI (basD b) (i : Int) = some (.int (b[i]?.getD 0 : Nat)) := by
  rw [Lite.atI_nat]; unfold basD; rw [List.getElem?_map, List.getElem?_eq_getElem h]; rfl
theorem body_leaving {N m : Nat} {x : Ls} (S : Shape N m x) {s k : Nat} (μ : Store) {w : Nat} (hk : k < m) (hs : s ≤ N) (hw : ∀ i, i < m → ∀ j, j ≤ N → Sz w (at_ (rw_ x.tab i) j)) (hb : 2 * w ≤ 999998) (d6 d7 : Option D) :
    ∃ e6 e7, B_leaving_1 [some (.lst (mxD x.tab)), some (.lst (basD x.bas)), some (.int (s : Nat)), some (fndD (leaveU x.tab x.bas N s k)), some (.int (k : Nat)), some (.lst (ilD (rw_ x.tab k))), d6, d7] μ
      = .nx [some (.lst (mxD x.tab)), some (.lst (basD x.bas)), some (.int (s : Nat)), some (fndD (leaveU x.tab x.bas N s (k + 1))), some (.int (k : Nat)), some (.lst (ilD (rw_ x.tab k))), e6, e7] μ := by
  have e1 := il_at (l := rw_ x.tab k) (j := s) (by rw [S.rl k hk]; omega)
  have e2 := il_last (S.rl k hk)
  unfold B_leaving_1
  have hL : leaveU x.tab x.bas N s (k + 1) = match leaveU x.tab x.bas N s k with
    | none => if 0 < at_ (rw_ x.tab k) s then some k else none
    | some f => if 0 < at_ (rw_ x.tab k) s ∧ (at_ (rw_ x.tab k) N * at_ (rw_ x.tab f) s < at_ (rw_ x.tab f) N * at_ (rw_ x.tab k) s ∨ at_ (rw_ x.tab k) N * at_ (rw_ x.tab f) s = at_ (rw_ x.tab f) N * at_ (rw_ x.tab k) s ∧ x.bas.getD k 0 < x.bas.getD f 0) then some k else some f := rfl
  rw [hL]
  by_cases q : 0 < at_ (rw_ x.tab k) s
  · cases hf : leaveU x.tab x.bas N s k with
    | none =>
      refine ⟨d6, d7, ?_⟩
      simp [e1, q, fndD, isNon]
    | some f =>
      obtain ⟨hfk, _, _⟩ := leave_some hf
      have hfm : f < m := by omega
      have f1 := mx_at (t := x.tab) (i := f) (by rw [S.tl]; exact hfm)
      have f2 := il_at (l := rw_ x.tab f) (j := s) (by rw [S.rl f hfm]; omega)
      have f3 := il_last (S.rl f hfm)
      have b1 := bas_at (b := x.bas) (i := k) (by rw [S.bl]; exact hk)
      have b2 := bas_at (b := x.bas) (i := f) (by rw [S.bl]; exact hfm)
      have m1 := mulZ (μ := μ) (hw k hk N (Nat.le_refl _)) (hw f hfm s hs) (by omega)
      have m2 := mulZ (μ := μ) (hw f hfm N (Nat.le_refl _)) (hw k hk s hs) (by omega)
      refine ⟨some (.int (at_ (rw_ x.tab k) N * at_ (rw_ x.tab f) s)), some (.int (at_ (rw_ x.tab f) N * at_ (rw_ x.tab k) s)), ?_⟩
      simp only [ilD] at f1
      simp [e1, e2, q, fndD, isNon, f1, f2, f3, m1, m2]
      by_cases c1 : at_ (rw_ x.tab k) N * at_ (rw_ x.tab f) s < at_ (rw_ x.tab f) N * at_ (rw_ x.tab k) s
      · simp [c1]
      · by_cases c2 : at_ (rw_ x.tab k) N * at_ (rw_ x.tab f) s = at_ (rw_ x.tab f) N * at_ (rw_ x.tab k) s
        · by_cases c3 : x.bas[k]?.getD 0 < x.bas[f]?.getD 0
          · simp [c1, c2, b1, b2, c3]
          · simp [c1, c2, b1, b2, c3]
        · simp [c1, c2]
  · refine ⟨d6, d7, ?_⟩
    cases hf : leaveU x.tab x.bas N s k <;> simp [e1, q, fndD]
theorem loop_leaving {N m : Nat} {x : Ls} (S : Shape N m x) {s : Nat} (μ : Store) {w : Nat} (hs : s ≤ N) (hw : ∀ i, i < m → ∀ j, j ≤ N → Sz w (at_ (rw_ x.tab i) j)) (hb : 2 * w ≤ 999998) : ∀ (n k : Nat) (d4 d5 d6 d7 : Option D), k + n = m →
    ∃ e4 e5 e6 e7, forGo (tgTup 2 (tgCons (tgName 4) (tgCons (tgName 5) tgNil))) B_leaving_1 [] (((x.tab.drop k).zipIdx k).map fun p => .tup [.int (p.2 : Nat), .lst (ilD p.1)]) [some (.lst (mxD x.tab)), some (.lst (basD x.bas)), some (.int (s : Nat)), some (fndD (leaveU x.tab x.bas N s k)), d4, d5, d6, d7] μ
      = .nx [some (.lst (mxD x.tab)), some (.lst (basD x.bas)), some (.int (s : Nat)), some (fndD (leaveU x.tab x.bas N s m)), e4, e5, e6, e7] μ
  | 0, k, d4, d5, d6, d7, h => by
    have e : k = m := by omega
    subst e
    rw [List.drop_eq_nil_of_le (by rw [S.tl]; exact Nat.le_refl _)]
    exact ⟨d4, d5, d6, d7, by simp⟩
  | n + 1, k, d4, d5, d6, d7, h => by
    have hk : k < x.tab.length := by rw [S.tl]; omega
    have hd : x.tab.drop k = rw_ x.tab k :: x.tab.drop (k + 1) := by
      rw [List.drop_eq_getElem_cons hk]
      congr 1
      unfold rw_; rw [List.getD_eq_getElem?_getD, List.getElem?_eq_getElem hk]; rfl
    obtain ⟨e6, e7, hb1⟩ := body_leaving S (s := s) (k := k) μ (by omega) hs hw hb d6 d7
    obtain ⟨f4, f5, f6, f7, hr⟩ := loop_leaving S μ hs hw hb n (k + 1) (some (.int (k : Nat))) (some (.lst (ilD (rw_ x.tab k)))) e6 e7 (by omega)
    refine ⟨f4, f5, f6, f7, ?_⟩
    rw [hd, List.zipIdx_cons, List.map_cons]
    rw [forGo_nx (ρ1 := [some (.lst (mxD x.tab)), some (.lst (basD x.bas)), some (.int (s : Nat)), some (fndD (leaveU x.tab x.bas N s k)), some (.int (k : Nat)), some (.lst (ilD (rw_ x.tab k))), d6, d7]) (by simp) hb1, hr]
theorem run_leaving {N m : Nat} {x : Ls} (S : Shape N m x) {s : Nat} (μ : Store) {w : Nat} (hs : s ≤ N) (hw : ∀ i, i < m → ∀ j, j ≤ N → Sz w (at_ (rw_ x.tab i) j)) (hb : 2 * w ≤ 999998) :
    F_leaving.run [.lst (mxD x.tab), .lst (basD x.bas), .int (s : Nat)] μ = .ok (fndD (leaveU x.tab x.bas N s m)) μ := by
  show runF N_leaving G_leaving [.lst (mxD x.tab), .lst (basD x.bas), .int (s : Nat)] μ = _
  refine runF_rt ?_ (by cases leaveU x.tab x.bas N s m <;> rfl)
  obtain ⟨e4, e5, e6, e7, h⟩ := loop_leaving S (s := s) μ hs hw hb m 0 none none none none (by omega)
  have h0 : fndD (leaveU x.tab x.bas N s 0) = .non := rfl
  rw [h0, List.drop_zero] at h
  have he : enumD (mxD x.tab) = (x.tab.zipIdx 0).map fun p => .tup [.int (p.2 : Nat), .lst (ilD p.1)] := enum_map (en := fun r => D.lst (ilD r))
  unfold G_leaving
  simp [N_leaving, he, h]
end K14

set_option Elab.async false
set_option linter.all false
set_option maxRecDepth 100000
namespace K14
open PySem L2 Lite LP
/-! ### numbers_of -/
def comU (t : List (List Int)) (b : List Nat) : Nat → Int
  | 0 => 1
  | k + 1 => comU t b k * (at_ (rw_ t k) (b[k]?.getD 0) / part [comU t b k, at_ (rw_ t k) (b[k]?.getD 0)])
theorem comU_pos {t : List (List Int)} {b : List Nat} : ∀ {k : Nat}, (∀ i, i < k → 0 < at_ (rw_ t i) (b[i]?.getD 0)) → 0 < comU t b k
  | 0, _ => by show (0 : Int) < 1; decide
  | k + 1, h => by
    have ih := comU_pos (k := k) fun i hi => h i (by omega)
    have hp := h k (by omega)
    refine Int.mul_pos ih ?_
    have h1 := part_pos [comU t b k, at_ (rw_ t k) (b[k]?.getD 0)]
    have h2 := part_div (xs := [comU t b k, at_ (rw_ t k) (b[k]?.getD 0)]) (x := at_ (rw_ t k) (b[k]?.getD 0)) (by simp)
    refine Int.pos_of_mul_pos_right (a := part [comU t b k, at_ (rw_ t k) (b[k]?.getD 0)]) ?_ h1
    rw [h2]; exact hp
theorem comU_dvd {t : List (List Int)} {b : List Nat} : ∀ {k i : Nat}, i < k → at_ (rw_ t i) (b[i]?.getD 0) ∣ comU t b k
  | k + 1, i, h => by
    show _ ∣ comU t b k * _
    by_cases e : i = k
    · subst e
      have h2 := part_div (xs := [comU t b i, at_ (rw_ t i) (b[i]?.getD 0)]) (x := at_ (rw_ t i) (b[i]?.getD 0)) (by simp)
      have h3 : part [comU t b i, at_ (rw_ t i) (b[i]?.getD 0)] ∣ comU t b i := part_dvd (by simp)
      obtain ⟨z, hz⟩ := h3
      refine ⟨z, ?_⟩
      generalize part [comU t b i, at_ (rw_ t i) (b[i]?.getD 0)] = g at *
      generalize at_ (rw_ t i) (b[i]?.getD 0) = p at *
      rw [hz]
      have : g * z * (p / g) = (g * (p / g)) * z := by grind
      rw [this, h2]
    · exact Int.dvd_trans (comU_dvd (by omega)) (Int.dvd_mul_right _ _)
theorem comU_sz {t : List (List Int)} {b : List Nat} {w : Nat} : ∀ {k : Nat}, (∀ i, i < k → Sz w (at_ (rw_ t i) (b[i]?.getD 0))) → Sz (w * k + 1) (comU t b k)
  | 0, _ => by show (1 : Int).natAbs < 2 ^ (w * 0 + 1); simp
  | k + 1, h => by
    have ih := comU_sz (k := k) fun i hi => h i (by omega)
    have hp := h k (by omega)
    have := ih.mul (hp.div (part_pos [comU t b k, at_ (rw_ t k) (b[k]?.getD 0)]))
    exact this.mono (by rw [Nat.mul_succ]; omega)
/-- what is told of one unknown -/
def numZ (zb : List (List Int × Nat)) (com : Int) (N j : Nat) : Int := ((zb.find? fun p => decide (p.2 = j)).map fun p => at_ p.1 N * (com / at_ p.1 p.2)).getD 0
def zpD (p : List Int × Nat) : D := .tup [.lst (ilD p.1), .int (p.2 : Nat)]
theorem putD_new {kvs : List (Key × D)} {k : Key} {v : D} (h : k ∉ kvs.map (·.1)) : putD kvs k v = kvs ++ [(k, v)] := by
  unfold putD
  rw [if_neg]
  intro q
  obtain ⟨kv, h1, h2⟩ := List.any_eq_true.mp q
  exact h (List.mem_map.mpr ⟨kv, h1, by simpa using h2⟩)
theorem mergeD_new : ∀ (more kvs : List (Key × D)), ((kvs ++ more).map (·.1)).Nodup → mergeD kvs more = kvs ++ more
  | [], kvs, _ => by unfold mergeD; simp
  | p :: more, kvs, h => by
    have h1 : p.1 ∉ kvs.map (·.1) := by
      rw [List.map_append, List.nodup_append] at h
      intro q
      exact h.2.2 p.1 q p.1 (by simp) rfl
    have e : mergeD kvs (p :: more) = mergeD (putD kvs p.1 p.2) more := rfl
    rw [e, putD_new h1, mergeD_new more _ (by simpa using h)]
    simp
theorem pairs_ints {A : Type} {f g : A → Int} : ∀ l : List A, asPairs (l.map fun a => .tup [.int (f a), .int (g a)]) = some (l.map fun a => ((.inl (f a) : Key), D.int (g a)))
  | [] => rfl
  | a :: l => by
    show asPairs (.tup [.int (f a), .int (g a)] :: l.map _) = _
    unfold asPairs
    simp [pairs_ints l, keyD]
theorem zb_get {N m : Nat} {x : Ls} (S : Shape N m x) {k : Nat} (hk : k < m) : (x.tab.zip x.bas)[k]? = some (rw_ x.tab k, x.bas[k]?.getD 0) := by
  rw [List.getElem?_zip_eq_some]
  unfold rw_
  rw [List.getD_eq_getElem?_getD, List.getElem?_eq_getElem (by rw [S.tl]; exact hk), List.getElem?_eq_getElem (by rw [S.bl]; exact hk)]
  exact ⟨rfl, rfl⟩
theorem zb_mem {N m : Nat} {x : Ls} (S : Shape N m x) {p : List Int × Nat} (h : p ∈ x.tab.zip x.bas) : ∃ k, k < m ∧ p = (rw_ x.tab k, x.bas[k]?.getD 0) := by
  obtain ⟨k, hk⟩ := List.getElem?_of_mem h
  have hl := (List.getElem?_eq_some_iff.mp hk).1
  have hm : k < m := by rw [List.length_zip, S.tl, S.bl, Nat.min_self] at hl; exact hl
  rw [zb_get S hm] at hk
  exact ⟨k, hm, (Option.some.inj hk).symm⟩
theorem zb_len {N m : Nat} {x : Ls} (S : Shape N m x) : (x.tab.zip x.bas).length = m := by rw [List.length_zip, S.tl, S.bl, Nat.min_self]
section
variable {N m : Nat} {x : Ls} {w : Nat}
theorem loop_common (S : Shape N m x) (μ : Store) (T B M : D) (hlt : ∀ i, i < m → x.bas[i]?.getD 0 < N) (hpos : ∀ i, i < m → 0 < at_ (rw_ x.tab i) (x.bas[i]?.getD 0)) (hw : ∀ i, i < m → ∀ j, j ≤ N → Sz w (at_ (rw_ x.tab i) j)) (hb : w * m + 1 + w ≤ 8999) : ∀ (n k : Nat) (d4 d5 : Option D), k + n = m →
    ∃ e4 e5, forGo (tgTup 2 (tgCons (tgName 4) (tgCons (tgName 5) tgNil))) B_numbers_of_1 [] (((x.tab.zip x.bas).drop k).map zpD) [some T, some B, some M, some (.int (comU x.tab x.bas k)), d4, d5, none, none] μ
      = .nx [some T, some B, some M, some (.int (comU x.tab x.bas m)), e4, e5, none, none] μ
  | 0, k, d4, d5, h => by
    have e : k = m := by omega
    subst e
    rw [List.drop_eq_nil_of_le (by rw [zb_len S]; exact Nat.le_refl _)]
    exact ⟨d4, d5, by simp⟩
  | n + 1, k, d4, d5, h => by
    have hk : k < m := by omega
    have hd : (x.tab.zip x.bas).drop k = (rw_ x.tab k, x.bas[k]?.getD 0) :: (x.tab.zip x.bas).drop (k + 1) := by
      have hl : k < (x.tab.zip x.bas).length := by rw [zb_len S]; exact hk
      have := zb_get S hk
      rw [List.getElem?_eq_getElem hl] at this
      rw [List.drop_eq_getElem_cons hl, Option.some.inj this]
    obtain ⟨f4, f5, hr⟩ := loop_common S μ T B M hlt hpos hw hb n (k + 1) (some (.lst (ilD (rw_ x.tab k)))) (some (.int (x.bas[k]?.getD 0 : Nat))) (by omega)
    refine ⟨f4, f5, ?_⟩
    have e1 := il_at (l := rw_ x.tab k) (j := x.bas[k]?.getD 0) (by have := hlt k hk; rw [S.rl k hk]; omega)
    have z1 := hw k hk (x.bas[k]?.getD 0) (Nat.le_of_lt (hlt k hk))
    have hc := comU_sz (t := x.tab) (b := x.bas) (w := w) (k := k) fun i hi => hw i (by omega) _ (Nat.le_of_lt (hlt i (by omega)))
    have hcp := comU_pos (t := x.tab) (b := x.bas) (k := k) fun i hi => hpos i (by omega)
    have hp := hpos k hk
    have hm1 : w * k + w ≤ w * m := by rw [← Nat.mul_succ]; exact Nat.mul_le_mul_left w hk
    have hdv := run_divisor [comU x.tab x.bas k, at_ (rw_ x.tab k) (x.bas[k]?.getD 0)] (.lst [.int (comU x.tab x.bas k), .int (at_ (rw_ x.tab k) (x.bas[k]?.getD 0))]) μ (.inl rfl)
    have hpp := part_pos [comU x.tab x.bas k, at_ (rw_ x.tab k) (x.bas[k]?.getD 0)]
    have hps : Sz 8999 (part [comU x.tab x.bas k, at_ (rw_ x.tab k) (x.bas[k]?.getD 0)]) := Sz.mono (Nat.lt_of_le_of_lt (part_le hp) z1) (by omega)
    have har : (1 : Nat) = F_divisor.ar := rfl
    have hbody : B_numbers_of_1 [some T, some B, some M, some (.int (comU x.tab x.bas k)), some (.lst (ilD (rw_ x.tab k))), some (.int (x.bas[k]?.getD 0 : Nat)), none, none] μ
        = .nx [some T, some B, some M, some (.int (comU x.tab x.bas (k + 1))), some (.lst (ilD (rw_ x.tab k))), some (.int (x.bas[k]?.getD 0 : Nat)), none, none] μ := by
      have hu : comU x.tab x.bas (k + 1) = comU x.tab x.bas k * (at_ (rw_ x.tab k) (x.bas[k]?.getD 0) / part [comU x.tab x.bas k, at_ (rw_ x.tab k) (x.bas[k]?.getD 0)]) := rfl
      rw [hu]
      generalize at_ (rw_ x.tab k) (x.bas[k]?.getD 0) = p at *
      generalize comU x.tab x.bas k = c at *
      unfold B_numbers_of_1
      simp [e1, ← har, hdv, divZ hpp hps, mulZ hc (z1.div hpp) (by omega)]
    rw [hd, List.map_cons]
    rw [forGo_nx (ρ1 := [some T, some B, some M, some (.int (comU x.tab x.bas k)), some (.lst (ilD (rw_ x.tab k))), some (.int (x.bas[k]?.getD 0 : Nat)), none, none]) (by simp [zpD]) hbody, hr]
theorem run_numbers_of (S : Shape N m x) (μ : Store) (many : Nat) (hm : m ≤ 40) (hmany : many ≤ 40) (hlt : ∀ i, i < m → x.bas[i]?.getD 0 < N) (hpos : ∀ i, i < m → 0 < at_ (rw_ x.tab i) (x.bas[i]?.getD 0)) (hnd : x.bas.Nodup) (hw : ∀ i, i < m → ∀ j, j ≤ N → Sz w (at_ (rw_ x.tab i) j)) (hb : w * m + 1 + w ≤ 8999) :
    F_numbers_of.run [.lst (mxD x.tab), .lst (basD x.bas), .int (many : Nat)] μ = .ok (.tup [.lst (ilD ((List.range many).map (numZ (x.tab.zip x.bas) (comU x.tab x.bas m) N))), .int (comU x.tab x.bas m)]) μ := by
  show runF N_numbers_of G_numbers_of [.lst (mxD x.tab), .lst (basD x.bas), .int (many : Nat)] μ = _
  refine runF_rt ?_ (by rw [below_tup, belowL_cons, below_lst, below_ilD, belowL_cons, below_int, belowL_nil]; rfl)
  obtain ⟨e4, e5, h⟩ := loop_common S μ (.lst (mxD x.tab)) (.lst (basD x.bas)) (.int (many : Nat)) hlt hpos hw hb m 0 none none (by omega)
  have h0 : comU x.tab x.bas 0 = 1 := rfl
  rw [h0, List.drop_zero] at h
  have hz : zipD (mxD x.tab) (basD x.bas) = (x.tab.zip x.bas).map zpD := zip_map (en := fun r => D.lst (ilD r)) (fn := fun i : Nat => D.int (i : Int))
  have hcz := comU_sz (t := x.tab) (b := x.bas) (w := w) (k := m) fun i hi => hw i hi _ (Nat.le_of_lt (hlt i hi))
  generalize comU x.tab x.bas m = c at *
  have hl1 := lc_map (t := tgTup 2 (tgCons (tgName 4) (tgCons (tgName 5) tgNil))) (f := E_numbers_of_2) (μ := μ) (ρ := [some (.lst (mxD x.tab)), some (.lst (basD x.bas)), some (.int (many : Nat)), some (.int c), none, none, none, none]) (en := zpD) (g := fun p : List Int × Nat => .tup [.int (p.2 : Nat), .int (at_ p.1 N * (c / at_ p.1 p.2))]) (xs := x.tab.zip x.bas) (sl_le (by rw [zb_len S]; omega)) fun p hp => by
    obtain ⟨k, hk, rfl⟩ := zb_mem S hp
    refine ⟨[some (.lst (mxD x.tab)), some (.lst (basD x.bas)), some (.int (many : Nat)), some (.int c), some (.lst (ilD (rw_ x.tab k))), some (.int (x.bas[k]?.getD 0 : Nat)), none, none], by simp [zpD], ?_⟩
    have e1 := il_at (l := rw_ x.tab k) (j := x.bas[k]?.getD 0) (by have := hlt k hk; rw [S.rl k hk]; omega)
    have e2 := il_last (S.rl k hk)
    have p0 := hpos k hk
    have z1 := hw k hk (x.bas[k]?.getD 0) (Nat.le_of_lt (hlt k hk))
    have z2 := hw k hk N (Nat.le_refl _)
    have dz : Sz 8999 (at_ (rw_ x.tab k) (x.bas[k]?.getD 0)) := z1.mono (by omega)
    unfold E_numbers_of_2
    simp [e1, e2, divZ p0 dz, mulZ z2 (hcz.div p0) (by omega)]
  have hkeys : ((x.tab.zip x.bas).map fun p => ((.inl (p.2 : Int) : Key), D.int (at_ p.1 N * (c / at_ p.1 p.2)))).map (·.1) = x.bas.map fun i : Nat => (.inl (i : Int) : Key) := by
    rw [List.map_map]
    have : x.bas = (x.tab.zip x.bas).map (·.2) := by rw [List.map_snd_zip (by rw [S.tl, S.bl]; exact Nat.le_refl _)]
    conv => rhs; rw [this, List.map_map]
    rfl
  have hmg := mergeD_new ((x.tab.zip x.bas).map fun p => ((.inl (p.2 : Int) : Key), D.int (at_ p.1 N * (c / at_ p.1 p.2)))) [] (by
    rw [List.nil_append, hkeys]
    refine List.pairwise_map.mpr (hnd.imp fun {a b} hne e => hne ?_)
    have : (a : Int) = (b : Int) := Sum.inl.inj e
    omega)
  rw [List.nil_append] at hmg
  have hdict : biDict [.lst ((x.tab.zip x.bas).map fun p => .tup [.int (p.2 : Nat), .int (at_ p.1 N * (c / at_ p.1 p.2))])] μ = .ok (.dct (((x.tab.zip x.bas).map fun p => ((.inl (p.2 : Int) : Key), D.int (at_ p.1 N * (c / at_ p.1 p.2)))).map (·.1)) (((x.tab.zip x.bas).map fun p => ((.inl (p.2 : Int) : Key), D.int (at_ p.1 N * (c / at_ p.1 p.2)))).map (·.2))) μ := by
    unfold biDict biOf
    have : seeLst (.lst ((x.tab.zip x.bas).map fun p => .tup [.int (p.2 : Nat), .int (at_ p.1 N * (c / at_ p.1 p.2))])) μ = some ((x.tab.zip x.bas).map fun p => .tup [.int (p.2 : Nat), .int (at_ p.1 N * (c / at_ p.1 p.2))]) := rfl
    simp only [this, Option.bind_some]
    rw [pairs_ints (f := fun p : List Int × Nat => (p.2 : Int)) (g := fun p => at_ p.1 N * (c / at_ p.1 p.2))]
    simp only [Option.map_some, hmg]
  generalize hkv : ((x.tab.zip x.bas).map fun p => ((.inl (p.2 : Int) : Key), D.int (at_ p.1 N * (c / at_ p.1 p.2)))) = kvs at *
  have hval : ∀ j : Nat, (valD ((kvs.map (·.1)).zip (kvs.map (·.2))) (.inl (j : Int))).getD (.int 0) = .int (numZ (x.tab.zip x.bas) c N j) := fun j => by
    have e1 : (kvs.map (·.1)).zip (kvs.map (·.2)) = kvs := by
      rw [List.zip_map']; simp
    rw [e1, ← hkv]
    unfold valD numZ
    rw [List.find?_map]
    have e2 : ((fun kv : Key × D => decide (kv.1 = .inl (j : Int))) ∘ fun p : List Int × Nat => ((.inl (p.2 : Int) : Key), D.int (at_ p.1 N * (c / at_ p.1 p.2)))) = fun p : List Int × Nat => decide (p.2 = j) := by
      funext p
      show decide ((.inl (p.2 : Int) : Key) = .inl (j : Int)) = decide (p.2 = j)
      congr 1
      refine propext ⟨fun e => ?_, fun e => by rw [e]⟩
      have : (p.2 : Int) = (j : Int) := Sum.inl.inj e
      omega
    rw [e2]
    cases (x.tab.zip x.bas).find? fun p => decide (p.2 = j) <;> rfl
  have hl2 := lc_map (t := tgName 5) (f := E_numbers_of_3) (μ := μ) (ρ := [some (.lst (mxD x.tab)), some (.lst (basD x.bas)), some (.int (many : Nat)), some (.int c), e4, none, some (.dct (kvs.map (·.1)) (kvs.map (·.2))), none]) (en := fun i : Nat => D.int (i : Int)) (g := fun j : Nat => .int (numZ (x.tab.zip x.bas) c N j)) (xs := List.range many) (sl_le (by rw [List.length_range]; omega)) fun j hj => by
    refine ⟨_, rfl, ?_⟩
    have := hval j
    unfold E_numbers_of_3 sGet
    simp [tyChk, see, opGet, keyD, this]
  unfold G_numbers_of
  simp [N_numbers_of, hz, h, hl1, hdict, rng_nat (μ := μ) (show many ≤ 100 by omega), hl2]
end
end K14

set_option Elab.async false
set_option linter.all false
set_option maxRecDepth 100000
namespace Lite
open PySem L2
theorem cut_to {ds : List D} {k : Nat} : cutD ds none (some (k : Int)) = ds.take k := by
  unfold cutD
  rw [HT.sIx_none, HT.sIx_nat, List.drop_zero, Nat.sub_zero]
  by_cases h : k ≤ ds.length
  · rw [Nat.min_eq_left h]
  · rw [Nat.min_eq_right (by omega), List.take_length, List.take_of_length_le (by omega)]
theorem cut_from {ds : List D} {k : Nat} : cutD ds (some (k : Int)) none = ds.drop k := by
  unfold cutD
  rw [HT.sIx_none, HT.sIx_nat]
  by_cases h : k ≤ ds.length
  · rw [Nat.min_eq_left h, List.take_of_length_le (by rw [List.length_drop]; omega)]
  · rw [Nat.min_eq_right (by omega), List.drop_length, List.drop_eq_nil_of_le (by omega)]; simp
theorem cut_from1 {ds : List D} {k : Nat} : cutD ds (some ((k : Int) + 1)) none = ds.drop (k + 1) := by
  have : ((k : Int) + 1) = ((k + 1 : Nat) : Int) := by omega
  rw [this, cut_from]
@[simp] theorem ev_partN {ρ : Lite.Frame} {μ : Store} : sPartN ρ μ = .ok none μ := by rfl
def partR (d : D) (μ : Store) : R (Option Int) := match d with
  | .int i => .ok (some i) μ
  | _ => .no
@[simp] theorem partR_int {i : Int} {μ : Store} : partR (.int i) μ = .ok (some i) μ := by rfl
@[simp] theorem ev_part {f : SE} {ρ : Lite.Frame} {μ : Store} : sPart f ρ μ = (f ρ μ).bind partR := by rfl
@[simp] theorem ev_slice {f : SE} {l h : SO} {ρ : Lite.Frame} {μ : Store} : sSlice f l h ρ μ = (f ρ μ).bind fun x μ1 => (l ρ μ1).bind fun lo μ2 => (h ρ μ2).bind fun hi μ3 => opSlice x lo hi μ3 := by rfl
@[simp] theorem slice_lst {ds : List D} {lo hi : Option Int} {μ : Store} : opSlice (.lst ds) lo hi μ = .ok (.lst (cutD ds lo hi)) μ := by rfl
@[simp] theorem slice_tup {ds : List D} {lo hi : Option Int} {μ : Store} : opSlice (.tup ds) lo hi μ = .ok (.tup (cutD ds lo hi)) μ := by rfl
end Lite
namespace K14
open PySem L2 Lite LP
/-- a state that the program can work with -/
structure Fit (N m w : Nat) (x : Ls) : Prop extends Shape N m x where
  tz : ∀ i, i < m → ∀ j, j ≤ N → Sz w (at_ (rw_ x.tab i) j)
  gz : ∀ j, j ≤ N → Sz w (at_ x.goal j)
  blt : ∀ i, i < m → x.bas[i]?.getD 0 < N
  bpos : ∀ i, i < m → 0 < at_ (rw_ x.tab i) (x.bas[i]?.getD 0)
  bnd : x.bas.Nodup
def frG (L wd : D) (n : Nat) (x : Ls) (d6 d7 d8 d9 d10 d11 d12 : Option D) : Lite.Frame := [some L, some (.lst (ilD x.goal)), some wd, some (.int (n : Nat)), some (.lst (mxD x.tab)), some (.lst (basD x.bas)), d6, d7, d8, d9, d10, d11, d12]
section
variable {N m w n : Nat} {x : Ls} {μ : Store}
theorem g_some (F : Fit N m w x) (hN : N ≤ 90) (L wd : D) (d6 d7 d8 d9 d10 d11 d12 : Option D) :
    sLC [9, 10] (siRange1 (sBin opSub (sBi biLen (sCons (sVar 1) (sNil))) (sCon (.int 1)))) (tgName 10) (Q_greatest_4) (E_greatest_3) (frG L wd n x d6 d7 d8 d9 d10 d11 d12) μ = .ok (.lst (basD (posL N x.goal))) μ := by
  have hl := F.gl
  have e : ((x.goal.length : Nat) : Int) - 1 = (N : Nat) := by rw [hl]; omega
  have h := lc_go (t := tgName 10) (cond := Q_greatest_4) (f := E_greatest_3) (μ := μ) (ρ := frG L wd n x d6 d7 d8 none none d11 d12) (en := fun i : Nat => D.int (i : Int)) (p := fun i : Nat => decide (0 < at_ x.goal i)) (g := fun i : Nat => D.int (i : Int)) (List.range N) [] (sl_le (by simp; omega)) fun i hi => by
    have hi' : i < N := by simpa using hi
    have e1 := il_at (l := x.goal) (j := i) (by omega)
    refine ⟨_, rfl, ?_, fun _ => ?_⟩
    · unfold Q_greatest_4 frG
      simp [e1]
    · unfold E_greatest_3 frG
      simp
  rw [List.nil_append] at h
  unfold frG at h ⊢
  simp [e, rng_nat (μ := μ) (show N ≤ 100 by omega), h]
  rfl
theorem bas_ints {l : List Nat} : basD l = (l.map fun i : Nat => (i : Int)).map D.int := by unfold basD; simp
theorem bas_nil {l : List Nat} : cmpEq (.lst (basD l)) (.lst []) μ = some (decide (l = [])) := by
  have := eq_lstI (μ := μ) (a := l.map fun i : Nat => (i : Int)) (b := [])
  rw [bas_ints]
  rw [List.map_nil] at this
  rw [this]
  cases l <;> simp
theorem bas_hd {s : Nat} {l : List Nat} : atI (basD (s :: l)) 0 = some (.int (s : Nat)) := by rw [Lite.atI_0]; rfl
theorem bas_hd0 {s : Nat} {l : List Nat} : (basD (s :: l))[0]? = some (.int (s : Nat)) := by rfl
theorem sz_mem {l : List Int} {k : Nat} (hl : l.length = k + 1) (h : ∀ j, j ≤ k → Sz w (at_ l j)) : ∀ z ∈ l, Sz w z := fun z hz => by
  obtain ⟨j, hj, e⟩ := List.mem_iff_getElem.mp hz
  have := h j (by omega)
  unfold at_ at this
  rw [List.getD_eq_getElem?_getD, List.getElem?_eq_getElem hj, e] at this
  exact this
theorem sl90 {k : Nat} (h : k ≤ 91) : k ≤ sizeLine := sl_le (by omega)
theorem cross_sz {a b : List Int} {s : Nat} (ha : a.length = N + 1) (hb : b.length = N + 1) (hs : s ≤ N) (h1 : ∀ j, j ≤ N → Sz w (at_ a j)) (h2 : ∀ j, j ≤ N → Sz w (at_ b j)) (hw : 2 * w + 1 ≤ 8999) (hne : ∃ j, j ≤ N ∧ at_ (crossL a b s) j ≠ 0 ∨ part (crossL a b s) = 1) : Sz 8999 (part (crossL a b s)) := by
  obtain ⟨j, ⟨hj, q⟩ | q⟩ := hne
  · have hlen : (crossL a b s).length = N + 1 := cross_len ha hb
    have hd : part (crossL a b s) ∣ at_ (crossL a b s) j := part_dvd (at_mem (by omega))
    have hle := Nat.le_of_dvd (by omega) (Int.natAbs_dvd_natAbs.mpr hd)
    have hz : Sz (w + w + 1) (at_ (crossL a b s) j) := by
      rw [cross_at (by omega) (by omega)]
      exact ((h1 j hj).mul (h2 s hs)).sub ((h2 j hj).mul (h1 s hs))
    exact Sz.mono (Nat.lt_of_le_of_lt hle hz) (by omega)
  · rw [q]; show (1 : Int).natAbs < 2 ^ 8999; exact Nat.one_lt_two_pow (by decide)
theorem part_sz {a b : List Int} {s : Nat} (ha : a.length = N + 1) (hb : b.length = N + 1) (hs : s ≤ N) (h1 : ∀ j, j ≤ N → Sz w (at_ a j)) (h2 : ∀ j, j ≤ N → Sz w (at_ b j)) (hw : 2 * w + 1 ≤ 8999) : Sz 8999 (part (crossL a b s)) := by
  refine cross_sz ha hb hs h1 h2 hw ?_
  by_cases q : ∃ j, j ≤ N ∧ at_ (crossL a b s) j ≠ 0
  · obtain ⟨j, h⟩ := q; exact ⟨j, .inl h⟩
  · refine ⟨0, .inr ?_⟩
    have hlen : (crossL a b s).length = N + 1 := cross_len ha hb
    have hz : ∀ z ∈ crossL a b s, z = 0 := fun z hz => by
      obtain ⟨j, hj, e⟩ := List.mem_iff_getElem.mp hz
      refine Classical.byContradiction fun hne => q ⟨j, by omega, ?_⟩
      unfold at_
      rw [List.getD_eq_getElem?_getD, List.getElem?_eq_getElem hj, e]; exact hne
    have : gcdL (crossL a b s) = 0 := by
      have hd := dvd_gcdL (d := 0) (q := 1) (xs := crossL a b s) fun z h => by rw [hz z h]; simp
      rw [Nat.one_mul] at hd
      exact Nat.eq_zero_of_zero_dvd hd
    unfold part
    rw [this]; rfl
theorem g_table (F : Fit N m w x) (hN : N ≤ 90) (hm : m ≤ 40) (hw : 2 * w + 1 ≤ 8999) {s r : Nat} (hs : s < N) (hr : r < m) (L wd : D) (l : List Nat) (d9 d10 d11 d12 : Option D) :
    sLC [9, 11, 12] (siEnum (sVar 4)) (tgTup 2 (tgCons (tgName 11) (tgCons (tgName 12) (tgNil)))) (stYes) (E_greatest_5) (frG L wd n x (some (.lst (basD (s :: l)))) (some (.int (r : Nat))) (some (.lst (ilD (rw_ x.tab r)))) d9 d10 d11 d12) μ = .ok (.lst (mxD (pivotL x s r).tab)) μ := by
  have he : enumD (mxD x.tab) = (x.tab.zipIdx 0).map fun p => .tup [.int (p.2 : Nat), .lst (ilD p.1)] := enum_map (en := fun r => D.lst (ilD r))
  have h := lc_map (t := tgTup 2 (tgCons (tgName 11) (tgCons (tgName 12) (tgNil)))) (f := E_greatest_5) (μ := μ) (ρ := frG L wd n x (some (.lst (basD (s :: l)))) (some (.int (r : Nat))) (some (.lst (ilD (rw_ x.tab r)))) none d10 none none) (en := fun p : List Int × Nat => .tup [.int (p.2 : Nat), .lst (ilD p.1)]) (g := fun p : List Int × Nat => .lst (ilD (if p.2 = r then rw_ x.tab r else clearedL (rw_ x.tab p.2) (rw_ x.tab r) s))) (xs := x.tab.zipIdx 0) (sl_le (by rw [List.length_zipIdx, F.tl]; omega)) fun p hp => by
    obtain ⟨row, k⟩ := p
    have hk := List.mem_zipIdx_iff_getElem?.mp hp
    have hkl : k < x.tab.length := (List.getElem?_eq_some_iff.mp hk).1
    have hrow : rw_ x.tab k = row := by
      unfold rw_; rw [List.getD_eq_getElem?_getD]
      have hk' : x.tab[k]? = some row := hk
      rw [hk']; rfl
    have hkm : k < m := by rw [← F.tl]; exact hkl
    refine ⟨frG L wd n x (some (.lst (basD (s :: l)))) (some (.int (r : Nat))) (some (.lst (ilD (rw_ x.tab r)))) none d10 (some (.int (k : Nat))) (some (.lst (ilD row))), by unfold frG; simp, ?_⟩
    by_cases q : k = r
    · subst q
      unfold E_greatest_5 frG
      simp
    · have q2 : ¬ ((k : Int) = (r : Int)) := by omega
      have hc := run_cleared (line := row) (pivot := rw_ x.tab r) (s := s) μ (w := w) (sl90 (by rw [← hrow, F.rl k hkm]; omega)) (by rw [← hrow, F.rl k hkm]; omega) (by rw [F.rl r hr]; omega)
        (by rw [← hrow]; exact sz_mem (F.rl k hkm) (F.tz k hkm)) (sz_mem (F.rl r hr) (F.tz r hr)) (by omega) (by rw [← hrow]; exact part_sz (F.rl k hkm) (F.rl r hr) (by omega) (F.tz k hkm) (F.tz r hr) hw)
      have har : (3 : Nat) = F_cleared.ar := rfl
      simp only [ilD] at hc
      unfold E_greatest_5 frG
      simp [q2, q, hrow, bas_hd0, ← har, hc]
  unfold frG at h ⊢
  simp only [ilD] at h ⊢
  simp [he, h]
  unfold mxD pivotL
  rw [List.map_map]
  refine List.ext_getElem (by simp) fun i h1 h2 => ?_
  simp
theorem g_goal (F : Fit N m w x) (hN : N ≤ 90) (hw : 2 * w + 1 ≤ 8999) {s r : Nat} (hs : s < N) (hr : r < m) : F_cleared.run [.lst (ilD x.goal), .lst (ilD (rw_ x.tab r)), .int (s : Nat)] μ = .ok (.lst (ilD (pivotL x s r).goal)) μ :=
  run_cleared (line := x.goal) (pivot := rw_ x.tab r) (s := s) μ (w := w) (sl90 (by rw [F.gl]; omega)) (by rw [F.gl]; omega) (by rw [F.rl r hr]; omega) (sz_mem F.gl F.gz) (sz_mem (F.rl r hr) (F.tz r hr)) (by omega) (part_sz F.gl (F.rl r hr) (by omega) F.gz (F.tz r hr) hw)
theorem bas_set {b : List Nat} {s r : Nat} (hr : r < b.length) : (basD b).take r ++ [.int (s : Nat)] ++ (basD b).drop (r + 1) = basD (b.set r s) := by
  unfold basD
  rw [List.map_set, List.set_eq_take_append_cons_drop, if_pos (by simpa using hr)]
  simp
/-- a turn that pivots -/
theorem g_turn (F : Fit N m w x) (hN : N ≤ 90) (hm : m ≤ 40) (hw : 2 * w + 1 ≤ 8999) {s r : Nat} {l : List Nat} (hp : posL N x.goal = s :: l) (hl : leaveU x.tab x.bas N s m = some r) (L wd : D) (hwd : isNon wd = true ∨ ¬ at_ x.goal N < 0) (d6 d7 d8 d9 d10 d11 d12 : Option D) :
    ∃ e6 e7 e8 e9 e10 e11 e12, B_greatest_6 (frG L wd n x d6 d7 d8 d9 d10 d11 d12) μ = .nx (frG L wd n (pivotL x s r) e6 e7 e8 e9 e10 e11 e12) μ := by
  obtain ⟨hs, _, _⟩ := pos_cons hp
  obtain ⟨hr, _, _⟩ := leave_some hl
  have h1 := g_some (n := n) (μ := μ) F hN L wd d6 d7 d8 d9 d10 d11 d12
  rw [hp] at h1
  have hlv := run_leaving F.toShape (s := s) μ (by omega) F.tz (by omega : 2 * w ≤ 999998)
  rw [hl] at hlv
  have har3 : (3 : Nat) = F_leaving.ar := rfl
  have har4 : (3 : Nat) = F_cleared.ar := rfl
  have hpv := mx_at (t := x.tab) (i := r) (by rw [F.tl]; exact hr)
  have ht := g_table (n := n) (μ := μ) F hN hm hw hs hr L wd l d9 d10 d11 d12
  have hg := g_goal (μ := μ) F hN hw hs hr
  have hlast := il_last F.gl
  have hb := bas_set (b := x.bas) (s := s) (r := r) (by rw [F.bl]; exact hr)
  refine ⟨some (.lst (basD (s :: l))), some (.int (r : Nat)), some (.lst (ilD (rw_ x.tab r))), d9, d10, d11, d12, ?_⟩
  have hne : cmpEq (.lst (basD (s :: l))) (.lst []) μ = some false := by rw [bas_nil]; rfl
  unfold B_greatest_6
  rw [ev_seq, ev_asg, h1]
  unfold frG at ht ⊢
  simp only [ilD] at hg hlv ht hpv
  have hlen1 : ((basD x.bas).take r ++ [D.int (s : Nat)]).length ≤ 41 := by
    have := F.bl
    rw [List.length_append, List.length_take]; unfold basD; rw [List.length_map]; simp; omega
  have hlen2 : ((basD x.bas).take r).length + [D.int (s : Nat)].length ≤ 100 := by
    have := F.bl
    rw [List.length_take]; unfold basD; rw [List.length_map]; simp; omega
  have hlen3 : ((basD x.bas).drop (r + 1)).length ≤ 40 := by
    have := F.bl
    rw [List.length_drop]; unfold basD; rw [List.length_map]; omega
  have a1 := add_lst (μ := μ) (sl_le hlen2)
  have a2 := add_lst (μ := μ) (ds := (basD x.bas).take r ++ [D.int (s : Nat)]) (es := (basD x.bas).drop (r + 1)) (sl_le (by omega))
  have hr1 : ((r : Int) + 1) = ((r + 1 : Nat) : Int) := by omega
  have hcond : ∀ z : Bool, (isNon wd = true → z = true) → True := fun _ _ => trivial
  rcases hwd with hwd | hwd
  · simp [-ev_lc, hne, hwd, bas_hd0, ← har3, ← har4, hlv, fndD, hpv, ht, hg, cut_to, cut_from1, a1, a2, hb, pivotL]
  · cases hnn : isNon wd with
    | true => simp [-ev_lc, hne, hnn, bas_hd0, ← har3, ← har4, hlv, fndD, hpv, ht, hg, cut_to, cut_from1, a1, a2, hb, pivotL]
    | false => simp [-ev_lc, hne, hnn, hlast, hwd, bas_hd0, ← har3, ← har4, hlv, fndD, hpv, ht, hg, cut_to, cut_from1, a1, a2, hb, pivotL]
end
end K14

set_option Elab.async false
set_option linter.all false
set_option maxRecDepth 100000
namespace Lite
open PySem L2
theorem mul_lst {ds : List D} {k : Int} {μ : Store} (h0 : 0 ≤ k) (h1 : k < 1000000) (hl : ds.length * k.toNat ≤ sizeLine) : opMul (.lst ds) (.int k) μ = .ok (.lst (List.replicate k.toNat ds).flatten) μ := by
  have c : -(2 ^ 63) ≤ k ∧ k < 2 ^ 63 ∧ ds.length * k.toNat ≤ sizeLine := ⟨by omega, by omega, hl⟩
  unfold opMul
  simp only [see]
  rw [if_pos c]
end Lite
namespace K14
open PySem L2 Lite LP
def numR (N m n : Nat) (x : Ls) : D := .tup [.lst (ilD ((List.range n).map (numZ (x.tab.zip x.bas) (comU x.tab x.bas m) N))), .int (comU x.tab x.bas m)]
section
variable {N m w n : Nat} {x : Ls} {μ : Store}
/-- the turn that ends -/
theorem g_stop (F : Fit N m w x) (hN : N ≤ 90) (hm : m ≤ 40) (hn : n ≤ 40) (hw : w * m + 1 + w ≤ 8999) (L wd : D) (hst : posL N x.goal = [] ∨ (isNon wd = false ∧ at_ x.goal N < 0)) (d6 d7 d8 d9 d10 d11 d12 : Option D) :
    B_greatest_6 (frG L wd n x d6 d7 d8 d9 d10 d11 d12) μ = .rt (numR N m n x) μ := by
  have h1 := g_some (n := n) (μ := μ) F hN L wd d6 d7 d8 d9 d10 d11 d12
  have hr := run_numbers_of F.toShape μ n hm hn F.blt F.bpos F.bnd F.tz hw
  have har : (3 : Nat) = F_numbers_of.ar := rfl
  have hlast := il_last F.gl
  have hnil := bas_nil (μ := μ) (l := posL N x.goal)
  unfold B_greatest_6 numR
  rw [ev_seq, ev_asg, h1]
  unfold frG
  by_cases q : posL N x.goal = []
  · rw [q] at hnil
    simp [-ev_lc, q, hnil, ← har, hr]
  · rcases hst with z | ⟨z1, z2⟩
    · exact absurd z q
    · simp [-ev_lc, q, hnil, z1, z2, hlast, ← har, hr]
theorem g_loop (hN : N ≤ 90) (hm : m ≤ 40) (hn : n ≤ 40) (hw : w * m + 1 + w ≤ 8999) (hw2 : 2 * w + 1 ≤ 8999) (L wd : D) (x : Ls) : ∀ (d k : Nat) (d6 d7 d8 d9 d10 d11 d12 : Option D),
    (∀ j, j ≤ d → Fit N m w (itr N m x (k + j))) →
    (∀ j, j < d → ∃ s l r, posL N (itr N m x (k + j)).goal = s :: l ∧ leaveU (itr N m x (k + j)).tab (itr N m x (k + j)).bas N s m = some r ∧ (isNon wd = true ∨ ¬ at_ (itr N m x (k + j)).goal N < 0)) →
    (posL N (itr N m x (k + d)).goal = [] ∨ (isNon wd = false ∧ at_ (itr N m x (k + d)).goal N < 0)) →
    whileN Q_greatest_2 B_greatest_6 (d + 1) (frG L wd n (itr N m x k) d6 d7 d8 d9 d10 d11 d12) μ = .rt (numR N m n (itr N m x (k + d))) μ
  | 0, k, d6, d7, d8, d9, d10, d11, d12, hF, hG, hS => by
    refine while_rt (μ1 := μ) (by unfold Q_greatest_2; simp) (g_stop (hF 0 (Nat.le_refl _)) hN hm hn hw L wd hS d6 d7 d8 d9 d10 d11 d12)
  | d + 1, k, d6, d7, d8, d9, d10, d11, d12, hF, hG, hS => by
    obtain ⟨s, l, r, h1, h2, h3⟩ := hG 0 (by omega)
    have hF0 := hF 0 (by omega)
    rw [Nat.add_zero] at h1 h2 h3 hF0
    obtain ⟨e6, e7, e8, e9, e10, e11, e12, hb⟩ := g_turn (n := n) (μ := μ) hF0 hN hm hw2 h1 h2 L wd h3 d6 d7 d8 d9 d10 d11 d12
    have hnx : itr N m x (k + 1) = pivotL (itr N m x k) s r := by
      show nextL N m (itr N m x k) = _
      unfold nextL
      have h1' : posL N (itr N m x k).goal = s :: l := h1
      have h2' : leaveU (itr N m x k).tab (itr N m x k).bas N s m = some r := h2
      rw [h1']
      simp only [h2']
    rw [while_nx (μ1 := μ) (by unfold Q_greatest_2; simp) hb, ← hnx]
    have e : ∀ j, k + 1 + j = k + (j + 1) := fun j => by omega
    have := g_loop hN hm hn hw hw2 L wd x d (k + 1) e6 e7 e8 e9 e10 e11 e12 (fun j hj => by rw [e]; exact hF (j + 1) (by omega)) (fun j hj => by rw [e]; exact hG (j + 1) (by omega)) (by rw [e]; exact hS)
    rw [e] at this
    exact this
end
theorem run_greatest {lines : List (List Int × Int)} {goal : List Int} {n w : Nat} (μ : Store) (wd : D) (hgl : goal.length = n) (hn : n ≤ 40) (hm : lines.length ≤ 40) (hl : ∀ l ∈ lines, l.1.length ≤ 40) (hw : w * lines.length + 1 + w ≤ 8999) (hw2 : 2 * w + 1 ≤ 8999) (d : Nat)
    (hF : ∀ j, j ≤ d → Fit (n + lines.length) lines.length w (itr (n + lines.length) lines.length (firstL n lines goal) j))
    (hG : ∀ j, j < d → ∃ s l r, posL (n + lines.length) (itr (n + lines.length) lines.length (firstL n lines goal) j).goal = s :: l ∧ leaveU (itr (n + lines.length) lines.length (firstL n lines goal) j).tab (itr (n + lines.length) lines.length (firstL n lines goal) j).bas (n + lines.length) s lines.length = some r ∧ (isNon wd = true ∨ ¬ at_ (itr (n + lines.length) lines.length (firstL n lines goal) j).goal (n + lines.length) < 0))
    (hS : posL (n + lines.length) (itr (n + lines.length) lines.length (firstL n lines goal) d).goal = [] ∨ (isNon wd = false ∧ at_ (itr (n + lines.length) lines.length (firstL n lines goal) d).goal (n + lines.length) < 0)) :
    F_greatest.run [.lst (lines.map lnD), .lst (ilD goal), wd] μ = .ok (numR (n + lines.length) lines.length n (itr (n + lines.length) lines.length (firstL n lines goal) d)) μ := by
  show runF N_greatest G_greatest [.lst (lines.map lnD), .lst (ilD goal), wd] μ = _
  refine runF_rt ?_ (by unfold numR; rw [below_tup, belowL_cons, below_lst, below_ilD, belowL_cons, below_int, belowL_nil]; rfl)
  have ht := run_table_of (lines := lines) μ hm hl
  have har : (1 : Nat) = F_table_of.ar := rfl
  have htl : (mxD (tableL lines)).length = lines.length := by unfold mxD tableL; simp
  have hlc := lc_map (t := tgName 10) (f := E_greatest_1) (μ := μ) (ρ := [some (.lst (lines.map lnD)), some (.lst (ilD goal)), some wd, some (.int (n : Nat)), some (.lst (mxD (tableL lines))), none, none, none, none, none, none, none, none]) (en := fun i : Nat => D.int (i : Int)) (g := fun i : Nat => D.int ((n + i : Nat) : Int)) (xs := List.range lines.length) (sl_le (by rw [List.length_range]; omega)) fun i hi => ⟨_, rfl, by unfold E_greatest_1; simp⟩
  have hb : (List.range lines.length).map (fun i : Nat => D.int ((n + i : Nat) : Int)) = basD ((List.range lines.length).map (n + ·)) := by unfold basD; rw [List.map_map]; rfl
  rw [hb] at hlc
  have hz : opMul (.lst [.int 0]) (.int (((lines.length : Nat) : Int) + 1)) μ = .ok (.lst (ilD (List.replicate (lines.length + 1) 0))) μ := by
    have ht : (((lines.length : Nat) : Int) + 1).toNat = lines.length + 1 := by omega
    rw [mul_lst (by omega) (by omega) (sl_le (by rw [ht]; simp; omega)), ht]
    congr 2
    rw [List.flatten_replicate_singleton]
    unfold ilD; rw [List.map_replicate]
  have hadd : opAdd (.lst (ilD goal)) (.lst (ilD (List.replicate (lines.length + 1) 0))) μ = .ok (.lst (ilD (goal ++ List.replicate (lines.length + 1) 0))) μ := by
    rw [add_lst (sl_le (by unfold ilD; rw [List.length_map, List.length_map, List.length_replicate]; omega))]
    unfold ilD; rw [List.map_append]
  have hloop := g_loop (N := n + lines.length) (m := lines.length) (w := w) (n := n) (μ := μ) (by omega) hm hn hw hw2 (.lst (lines.map lnD)) wd (firstL n lines goal) d 0 none none none none none none none (fun j hj => by rw [Nat.zero_add]; exact hF j hj) (fun j hj => by rw [Nat.zero_add]; exact hG j hj) (by rw [Nat.zero_add]; exact hS)
  rw [Nat.zero_add] at hloop
  have hwl := ssWhile_eq hloop (by simp)
  have h0 : itr (n + lines.length) lines.length (firstL n lines goal) 0 = firstL n lines goal := rfl
  rw [h0] at hwl
  unfold frG firstL at hwl
  unfold firstL
  have e1 : ((goal.length : Nat) : Int) = (n : Nat) := by rw [hgl]
  have e2 : (((mxD (tableL lines)).length : Nat) : Int) = ((lines.length : Nat) : Int) := by rw [htl]
  unfold G_greatest
  simp only [ilD] at hlc hadd hz hwl ⊢
  simp [-List.map_replicate, -List.map_append, N_greatest, e1, e2, ← har, ht, rng_nat (μ := μ) (show lines.length ≤ 100 by omega), hlc, hz, hadd, hwl]
end K14

set_option Elab.async false
set_option linter.all false
namespace LP
theorem least {P : Nat → Prop} : ∀ k, P k → ∃ d, P d ∧ ∀ j, j < d → ¬ P j := by
  intro k
  induction k using Nat.strongRecOn with
  | ind k ih =>
    intro h
    by_cases q : ∃ j, j < k ∧ P j
    · obtain ⟨j, hj, hp⟩ := q
      exact ih j hj hp
    · exact ⟨k, h, fun j hj hp => q ⟨j, hj, hp⟩⟩
theorem T0_le {n M : Nat} {lines : List (List Int × Int)} (hl : ∀ k, k < lines.length → (lines.getD k ([], 0)).1.length = n) (hM1 : 1 ≤ M) (hM : ∀ l ∈ lines, (∀ z ∈ l.1, z.natAbs ≤ M) ∧ l.2.natAbs ≤ M) : ∀ k, k < lines.length → ∀ j, j ≤ n + lines.length → (T0of lines k j).natAbs ≤ M := by
  intro k hk j hj
  have hmem : lines.getD k ([], 0) ∈ lines := by rw [List.getD_eq_getElem?_getD, List.getElem?_eq_getElem hk]; simp
  obtain ⟨h1, h2⟩ := hM _ hmem
  show (at_ (rw_ (tableL lines) k) j).natAbs ≤ M
  by_cases q : j < n
  · rw [row_at hl hk q]
    exact h1 _ (at_mem (by rw [hl k hk]; exact q))
  · by_cases q2 : j = n + lines.length
    · rw [q2, row_last hl hk]; exact h2
    · obtain ⟨p, rfl⟩ : ∃ p, j = n + p := ⟨j - n, by omega⟩
      rw [row_slack hl hk (by omega)]
      split <;> simp <;> omega
/-- the run of a system's pivots -/
theorem sys_run {rows : List Row} {many M : Nat} (hr : ∀ r ∈ rows, r.1.length = many + 1) (hM1 : 1 ≤ M) (hM : ∀ r ∈ rows, ∀ z ∈ r.1, z.natAbs ≤ M) : ∃ d,
    (∀ j, j ≤ d → Shape (many + 2 + (sysLines rows many).length) (sysLines rows many).length (itr (many + 2 + (sysLines rows many).length) (sysLines rows many).length (firstL (many + 2) (sysLines rows many) (sysGoal many)) j) ∧ IInv (many + 2 + (sysLines rows many).length) (sysLines rows many).length (many + 2) (many + 1) (T0of (sysLines rows many)) (itOf (itr (many + 2 + (sysLines rows many).length) (sysLines rows many).length (firstL (many + 2) (sysLines rows many) (sysGoal many)) j))) ∧
    (∀ j, j < d → ∃ s l r, posL (many + 2 + (sysLines rows many).length) (itr (many + 2 + (sysLines rows many).length) (sysLines rows many).length (firstL (many + 2) (sysLines rows many) (sysGoal many)) j).goal = s :: l ∧ leaveU (itr (many + 2 + (sysLines rows many).length) (sysLines rows many).length (firstL (many + 2) (sysLines rows many) (sysGoal many)) j).tab (itr (many + 2 + (sysLines rows many).length) (sysLines rows many).length (firstL (many + 2) (sysLines rows many) (sysGoal many)) j).bas (many + 2 + (sysLines rows many).length) s (sysLines rows many).length = some r ∧ ¬ at_ (itr (many + 2 + (sysLines rows many).length) (sysLines rows many).length (firstL (many + 2) (sysLines rows many) (sysGoal many)) j).goal (many + 2 + (sysLines rows many).length) < 0) ∧
    (posL (many + 2 + (sysLines rows many).length) (itr (many + 2 + (sysLines rows many).length) (sysLines rows many).length (firstL (many + 2) (sysLines rows many) (sysGoal many)) d).goal = [] ∨ at_ (itr (many + 2 + (sysLines rows many).length) (sysLines rows many).length (firstL (many + 2) (sysLines rows many) (sysGoal many)) d).goal (many + 2 + (sysLines rows many).length) < 0) ∧
    (∀ k, k < (sysLines rows many).length → ∀ j, j ≤ many + 2 + (sysLines rows many).length → (T0of (sysLines rows many) k j).natAbs ≤ M) := by
  have hrows := sys_rows (many := many) hr
  have O := orig_of (o := many + 1) hrows (by omega)
  obtain ⟨S0, I0⟩ := first_inv hrows sys_nn (show many + 1 < many + 2 by omega) (goal_len (many := many)) (fun j _ => goal_at)
  have hT := T0_le (M := M) hrows hM1 (fun l hl => by
    unfold sysLines at hl
    rcases List.mem_append.mp hl with h | h
    · obtain ⟨r, hr1, rfl⟩ := List.mem_map.mp h
      refine ⟨fun z hz => ?_, by show (0 : Int).natAbs ≤ M; simp⟩
      have hz' : z ∈ negL r.1 ++ [if r.2 then 1 else 0] := hz
      rcases List.mem_append.mp hz' with h2 | h2
      · unfold negL at h2
        obtain ⟨y, hy, rfl⟩ := List.mem_map.mp h2
        have := hM r hr1 y hy
        omega
      · have : z = if r.2 then 1 else 0 := by simpa using h2
        rw [this]; split <;> simp <;> omega
    · rcases List.mem_cons.mp h with h | h
      · subst h
        refine ⟨fun z hz => ?_, by show (0 : Int).natAbs ≤ M; simp⟩
        have hz' : z ∈ List.replicate many (0 : Int) ++ [-1, 1] := hz
        rcases List.mem_append.mp hz' with h2 | h2
        · rw [(List.mem_replicate.mp h2).2]; simp
        · rcases List.mem_cons.mp h2 with e | h2
          · rw [e]; simp; omega
          · have e : z = 1 := by simpa using h2
            rw [e]; simp; omega
      · have h' : l = (List.replicate (many + 1) 1 ++ [0], 1) := by simpa using h
        subst h'
        refine ⟨fun z hz => ?_, by show (1 : Int).natAbs ≤ M; simp; omega⟩
        have hz' : z ∈ List.replicate (many + 1) (1 : Int) ++ [0] := hz
        rcases List.mem_append.mp hz' with h2 | h2
        · rw [(List.mem_replicate.mp h2).2]; simp; omega
        · have e : z = 0 := by simpa using h2
          rw [e]; simp)
  have hbd : ∀ w, Sol0 (many + 2 + (sysLines rows many).length) (sysLines rows many).length (T0of (sysLines rows many)) w → (∀ j, j < many + 2 + (sysLines rows many).length → 0 ≤ w j) → w (many + 1) ≤ 1 := fun w h1 h2 => sys_bound hr w h1 h2
  obtain ⟨k, hk⟩ := ends O S0 I0 hbd hM1 hT
  generalize hN : many + 2 + (sysLines rows many).length = N at *
  generalize hm : (sysLines rows many).length = m at *
  generalize firstL (many + 2) (sysLines rows many) (sysGoal many) = x0 at *
  obtain ⟨d, hd, hmin⟩ := least (P := fun k => posL N (itr N m x0 k).goal = [] ∨ at_ (itr N m x0 k).goal N < 0) k (.inl hk)
  have inv : ∀ j, j ≤ d → Shape N m (itr N m x0 j) ∧ IInv N m (many + 2) (many + 1) (T0of (sysLines rows many)) (itOf (itr N m x0 j)) := by
    intro j
    induction j with
    | zero => exact fun _ => ⟨S0, I0⟩
    | succ j ih =>
      intro hj
      obtain ⟨h1, h2⟩ := ih (by omega)
      obtain ⟨s, r, _, _, _, _, a, b⟩ := next_of O h1 h2 hbd (fun e => hmin j (by omega) (.inl e))
      exact ⟨a, b⟩
  refine ⟨d, inv, fun j hj => ?_, hd, hT⟩
  obtain ⟨h1, h2⟩ := inv j (by omega)
  have hq := hmin j hj
  obtain ⟨s, r, _, _, ⟨l, e1⟩, e2, _⟩ := next_of O h1 h2 hbd (fun e => hq (.inl e))
  exact ⟨s, l, r, e1, e2, fun z => hq (.inr z)⟩
end LP

set_option Elab.async false
set_option linter.all false
set_option maxRecDepth 100000
namespace K14
open PySem L2 Lite LP
/-! ### the state's numbers -/
section
variable {N m n o w M : Nat} {T0 : Nat → Nat → Int} {x : Ls}
theorem getD0 {b : List Nat} {i : Nat} : b.getD i 0 = b[i]?.getD 0 := List.getD_eq_getElem?_getD
theorem fit_of (O : Orig N m n o T0) (S : Shape N m x) (I : IInv N m n o T0 (itOf x)) (hM1 : 1 ≤ M) (hM : ∀ k, k < m → ∀ j, j ≤ N → (T0 k j).natAbs ≤ M) (hw : bnd m M < 2 ^ w) (hw2 : bnd (m + 1) M < 2 ^ w) : Fit N m w x := by
  have g := I.good
  have hB : ∀ i, i < m → (tb N m (itOf x)).B i = x.bas[i]?.getD 0 := fun i hi => by rw [tb_B hi]; exact getD0
  have hlt : ∀ i, i < m → x.bas[i]?.getD 0 < N := fun i hi => by have := g.lt i hi; rwa [hB i hi] at this
  refine { toShape := S, tz := fun i hi j hj => Nat.lt_of_le_of_lt (row_le O I hM hi j hj) hw, gz := fun j hj => Nat.lt_of_le_of_lt (goal_le O I hM1 hM j hj) hw2, blt := hlt, bpos := fun i hi => ?_, bnd := ?_ }
  · have := g.pos i hi
    rw [hB i hi, tb_T hi (Nat.le_of_lt (hlt i hi))] at this
    exact rlt.mp this
  · rw [List.nodup_iff_pairwise_ne]
    rw [List.pairwise_iff_getElem]
    intro i k hi hk hik e
    have h1 : i < m := by rw [← S.bl]; exact hi
    have h2 : k < m := by rw [← S.bl]; exact hk
    have := g.inj h1 h2 (by rw [hB i h1, hB k h2, List.getElem?_eq_getElem hi, List.getElem?_eq_getElem hk, e])
    omega
theorem num_bsol (F : Fit N m w x) (I : IInv N m n o T0 (itOf x)) {j : Nat} (hj : j < N) : ((numZ (x.tab.zip x.bas) (comU x.tab x.bas m) N j : Int) : Rat) = (comU x.tab x.bas m : Rat) * bsol N m x j := by
  unfold numZ
  cases e : (x.tab.zip x.bas).find? fun p => decide (p.2 = j) with
  | none =>
    have hno : ∀ i, i < m → x.bas.getD i 0 ≠ j := fun i hi q => by
      have hmem : (rw_ x.tab i, x.bas[i]?.getD 0) ∈ x.tab.zip x.bas := List.mem_of_getElem? (zb_get F.toShape hi)
      have := List.find?_eq_none.mp e _ hmem
      rw [getD0] at q
      simp [q] at this
    rw [bsol_0 hj hno]
    show ((0 : Int) : Rat) = _
    rw [rc_zero]; grind
  | some p =>
    have h1 := List.mem_of_find?_eq_some e
    have h2 : p.2 = j := by simpa using List.find?_some e
    obtain ⟨i, hi, rfl⟩ := zb_mem F.toShape h1
    have h3 : x.bas[i]?.getD 0 = j := h2
    have hb := bsol_b I hi
    rw [getD0, h3] at hb
    rw [hb]
    have hp := F.bpos i hi
    rw [h3] at hp
    obtain ⟨q, hq⟩ := comU_dvd (t := x.tab) (b := x.bas) hi
    rw [h3] at hq
    show ((at_ (rw_ x.tab i) N * (comU x.tab x.bas m / at_ (rw_ x.tab i) (x.bas[i]?.getD 0)) : Int) : Rat) = _
    rw [h3, hq, Int.mul_ediv_cancel_left _ (by omega), rc_mul, rc_mul]
    have hpr : (0 : Rat) < ((at_ (rw_ x.tab i) j : Int) : Rat) := rlt.mpr hp
    have := div_mul (a := ((at_ (rw_ x.tab i) N : Int) : Rat)) hpr
    grind
theorem num_sz (F : Fit N m w x) {j : Nat} : Sz (w + (w * m + 1)) (numZ (x.tab.zip x.bas) (comU x.tab x.bas m) N j) := by
  unfold numZ
  cases e : (x.tab.zip x.bas).find? fun p => decide (p.2 = j) with
  | none => show (0 : Int).natAbs < _; simp; exact Nat.pow_pos (by decide)
  | some p =>
    obtain ⟨i, hi, rfl⟩ := zb_mem F.toShape (List.mem_of_find?_eq_some e)
    exact (F.tz i hi N (Nat.le_refl _)).mul ((comU_sz fun k hk => F.tz k hk _ (Nat.le_of_lt (F.blt k hk))).div (F.bpos i hi))
end
/-! ### solution -/
def rwD (r : Row) : D := .tup [.tup (ilD r.1), .bl r.2]
theorem sys_lines (L : D) (many : D) (rows : List Row) (μ : Store) (hn : rows.length ≤ 30) (hl : ∀ r ∈ rows, r.1.length ≤ 30) (d2 d3 d4 : Option D) :
    lcGo (tgTup 2 (tgCons (tgName 6) (tgCons (tgName 7) (tgNil)))) stYes E_solution_2 [some L, some many, d2, d3, d4, none, none, none, none, none] [] (rows.map rwD) [] μ = .ok (rows.map fun r => lnD (sysLine r)) μ := by
  refine lc_map (sl_le (by omega)) fun r hr => ⟨[some L, some many, d2, d3, d4, none, some (.tup (ilD r.1)), some (.bl r.2), none, none], by simp [rwD], ?_⟩
  have h := lc_map (t := tgName 8) (f := E_solution_1) (μ := μ) (ρ := [some L, some many, d2, d3, d4, none, some (.tup (ilD r.1)), some (.bl r.2), none, none]) (en := D.int) (g := fun z : Int => .int (-z)) (xs := r.1) (sl_le (by have := hl r hr; omega)) fun z hz => ⟨_, rfl, by unfold E_solution_1; simp⟩
  have e : r.1.map (fun z : Int => D.int (-z)) = ilD (negL r.1) := by unfold negL ilD; rw [List.map_map]; rfl
  rw [e] at h
  have ha := add_lst (μ := μ) (ds := ilD (negL r.1)) (es := [.int (if r.2 = true then 1 else 0)]) (sl_le (by unfold negL ilD; rw [List.length_map, List.length_map]; simp; have := hl r hr; omega))
  have e2 : ilD (negL r.1) ++ [D.int (if r.2 = true then 1 else 0)] = ilD (negL r.1 ++ [if r.2 = true then 1 else 0]) := by unfold ilD; rw [List.map_append]; rfl
  rw [e2] at ha
  unfold E_solution_2 lnD sysLine
  simp only [ilD] at h ha ⊢
  cases hs : r.2 with
  | true =>
    rw [hs] at ha h
    simp only [if_true] at ha
    simp [-List.map_append, -List.map_cons, h, ha]
  | false =>
    rw [hs] at ha h
    simp only [Bool.false_eq_true, if_false] at ha
    simp [-List.map_append, -List.map_cons, h, ha]
theorem mul_rep {z : Int} {k : Nat} (μ : Store) (hk : k ≤ 60) : opMul (.lst [.int z]) (.int (k : Nat)) μ = .ok (.lst (ilD (List.replicate k z))) μ := by
  have ht : ((k : Nat) : Int).toNat = k := Int.toNat_natCast k
  rw [mul_lst (by omega) (by omega) (sl_le (by rw [ht]; simp; omega)), ht]
  congr 2
  rw [List.flatten_replicate_singleton]
  unfold ilD; rw [List.map_replicate]
theorem add_il {a b : List Int} (μ : Store) (h : a.length + b.length ≤ 100) : opAdd (.lst (ilD a)) (.lst (ilD b)) μ = .ok (.lst (ilD (a ++ b))) μ := by
  rw [add_lst (sl_le (by unfold ilD; rw [List.length_map, List.length_map]; exact h))]
  unfold ilD; rw [List.map_append]
end K14

set_option Elab.async false
set_option linter.all false
set_option maxRecDepth 100000
namespace K14
open PySem L2 Lite LP
/-- what solution gives -/
def solD : Option (List (Int × Int)) → D
  | none => .non
  | some l => .lst (l.map frD)
/-- a point as fractions -/
def ptOf (l : List (Int × Int)) : Nat → Rat := fun j => ((l.getD j (0, 1)).1 : Rat) / ((l.getD j (0, 1)).2 : Rat)
theorem low_pos {t b : Int} (hb : 0 < b) : 0 < (lowP t b).2 := by
  have hp := part_pos [t, b]
  have h : part [t, b] * (b / part [t, b]) = b := part_div (by simp)
  refine Int.pos_of_mul_pos_right (a := part [t, b]) ?_ hp
  show 0 < part [t, b] * (b / part [t, b])
  rw [h]; exact hb
theorem gcd2 (g u v : Int) : gcdL [g * u, g * v] = g.natAbs * gcdL [u, v] := by
  show Nat.gcd (g * u).natAbs (Nat.gcd (g * v).natAbs 0) = g.natAbs * Nat.gcd u.natAbs (Nat.gcd v.natAbs 0)
  rw [Int.natAbs_mul, Int.natAbs_mul, Nat.gcd_zero_right, Nat.gcd_zero_right, Nat.gcd_mul_left]
theorem low_rat {t b : Int} (hb : 0 < b) : ((lowP t b).1 : Rat) / ((lowP t b).2 : Rat) = (t : Rat) / (b : Rat) := by
  have hp := part_pos [t, b]
  have h1 : part [t, b] * (t / part [t, b]) = t := part_div (by simp)
  have h2 : part [t, b] * (b / part [t, b]) = b := part_div (by simp)
  have hq := low_pos (t := t) hb
  show ((t / part [t, b] : Int) : Rat) / ((b / part [t, b] : Int) : Rat) = _
  have hq' : 0 < b / part [t, b] := hq
  generalize t / part [t, b] = u at *
  generalize b / part [t, b] = v at *
  generalize part [t, b] = g at *
  subst h1
  subst h2
  have a1 : (0 : Rat) < (v : Rat) := rlt.mpr hq'
  have a2 : (0 : Rat) < ((g * v : Int) : Rat) := rlt.mpr hb
  have e1 := div_mul (a := (u : Rat)) a1
  have e2 := div_mul (a := ((g * u : Int) : Rat)) a2
  rw [rc_mul, rc_mul] at e2
  have a3 : (0 : Rat) < (g : Rat) := rlt.mpr hp
  rw [rc_mul, rc_mul]
  refine mul_cancel_left a1 (mul_cancel_left a3 ?_)
  rw [e1]
  generalize (g : Rat) * u / (g * v) = q at *
  grind
theorem low_prim {t b : Int} (hb : 0 < b) : part [(lowP t b).1, (lowP t b).2] = 1 := by
  have hg : 0 < gcdL [t, b] := gcdL_pos (x := b) (by simp) (by omega)
  have hp : part [t, b] = (gcdL [t, b] : Int) := if_pos hg
  have h1 : part [t, b] * (t / part [t, b]) = t := part_div (by simp)
  have h2 : part [t, b] * (b / part [t, b]) = b := part_div (by simp)
  have e : gcdL [(lowP t b).1, (lowP t b).2] = 1 := by
    have h3 : gcdL [t, b] = gcdL [t, b] * gcdL [t / part [t, b], b / part [t, b]] := by
      have := gcd2 (part [t, b]) (t / part [t, b]) (b / part [t, b])
      rw [h1, h2] at this
      rw [hp, Int.natAbs_natCast, ← hp] at this
      exact this
    have h4 : gcdL [t, b] * gcdL [t / part [t, b], b / part [t, b]] = gcdL [t, b] * 1 := by omega
    exact Nat.eq_of_mul_eq_mul_left hg h4
  unfold part
  rw [e]; rfl
theorem low_sz {t b : Int} {s : Nat} (ht : Sz s t) (hb : Sz s b) : Sz s (lowP t b).1 ∧ Sz s (lowP t b).2 := ⟨ht.div (part_pos _), hb.div (part_pos _)⟩
theorem feas_congr {rows : List Row} {many : Nat} {x y : Nat → Rat} (h : ∀ j, j < many → x j = y j) (F : Feas rows many x) : Feas rows many y := by
  have hv : ∀ l, val l many x = val l many y := fun l => by
    unfold val dotL
    congr 1
    exact sm_congr fun j hj => by rw [h j hj]
  exact ⟨fun j hj => by rw [← h j hj]; exact F.nn j hj, fun r hr => by rw [← hv]; exact F.row r hr⟩
/-- a system is decided, its point given -/
theorem run_solution {rows : List Row} {many M w : Nat} (μ : Store) (hr : ∀ r ∈ rows, r.1.length = many + 1) (hM1 : 1 ≤ M) (hM : ∀ r ∈ rows, ∀ z ∈ r.1, z.natAbs ≤ M) (hn : rows.length ≤ 30) (hmany : many ≤ 20)
    (hw1 : bnd (rows.length + 2) M < 2 ^ w) (hw2 : bnd (rows.length + 3) M < 2 ^ w) (hb : w * (rows.length + 2) + 1 + w ≤ 8999) (hb2 : 2 * w + 1 ≤ 8999) :
    ∃ res : Option (List (Int × Int)), F_solution.run [.lst (rows.map rwD), .int (many : Nat)] μ = .ok (solD res) μ ∧ (res = none → ∀ y, ¬ Feas rows many y) ∧
      ∀ l, res = some l → l.length = many ∧ (∀ p ∈ l, 0 < p.2 ∧ part [p.1, p.2] = 1 ∧ Sz (w + (w * (rows.length + 2) + 1)) p.1 ∧ Sz (w + (w * (rows.length + 2) + 1)) p.2) ∧ Feas rows many (ptOf l) := by
  obtain ⟨d, inv, hgo, hstop, hT⟩ := sys_run (many := many) hr hM1 hM
  have hlen : ∀ {many : Nat}, (sysLines rows many).length = rows.length + 2 := sys_len (rows := rows)
  have hrows := sys_rows (many := many) hr
  have O := orig_of (o := many + 1) hrows (by omega)
  have hfit : ∀ j, j ≤ d → Fit (many + 2 + (sysLines rows many).length) (sysLines rows many).length w (itr (many + 2 + (sysLines rows many).length) (sysLines rows many).length (firstL (many + 2) (sysLines rows many) (sysGoal many)) j) := fun j hj =>
    fit_of O (inv j hj).1 (inv j hj).2 hM1 hT (by rw [hlen]; exact hw1) (by rw [hlen]; exact hw2)
  have hg := run_greatest (lines := sysLines rows many) (goal := sysGoal many) (n := many + 2) (w := w) μ (.int ((many + 1 : Nat) : Int)) goal_len (by omega) (by rw [hlen]; omega) (fun l hl => by
    obtain ⟨k, hk, e⟩ := List.mem_iff_getElem.mp hl
    have := hrows k hk
    rw [List.getD_eq_getElem?_getD, List.getElem?_eq_getElem hk] at this
    have h2 : (sysLines rows many)[k].1.length = many + 2 := this
    rw [e] at h2; omega) (by rw [hlen]; exact hb) hb2 d hfit
    (fun j hj => by obtain ⟨s, l, r, h1, h2, h3⟩ := hgo j hj; exact ⟨s, l, r, h1, h2, .inr h3⟩) (by
      rcases hstop with h | h
      · exact .inl h
      · exact .inr ⟨rfl, h⟩)
  have Fd := hfit d (Nat.le_refl _)
  have Id := (inv d (Nat.le_refl _)).2
  generalize itr (many + 2 + (sysLines rows many).length) (sysLines rows many).length (firstL (many + 2) (sysLines rows many) (sysGoal many)) d = x at *
  have hcom := comU_pos (t := x.tab) (b := x.bas) (k := (sysLines rows many).length) Fd.bpos
  have hnb := fun j hj => num_bsol Fd Id (j := j) hj
  have hsz : ∀ j, Sz (w + (w * (rows.length + 2) + 1)) (numZ (x.tab.zip x.bas) (comU x.tab x.bas (sysLines rows many).length) (many + 2 + (sysLines rows many).length) j) := fun j => by
    rw [← hlen (many := many)]; exact num_sz Fd
  have hlm : (sysLines rows many).length = rows.length + 2 := hlen
  unfold numR at hg
  generalize hnum : numZ (x.tab.zip x.bas) (comU x.tab x.bas (sysLines rows many).length) (many + 2 + (sysLines rows many).length) = num at *
  have hcomr : (0 : Rat) < (comU x.tab x.bas (sysLines rows many).length : Rat) := rlt.mpr hcom
  -- the program
  have hsl := fun d2 d3 d4 => sys_lines (.lst (rows.map rwD)) (.int (many : Nat)) rows μ hn (fun r h => by rw [hr r h]; omega) d2 d3 d4
  have hz0 := mul_rep (z := 0) (k := many) μ (by omega)
  have hz1 := mul_rep (z := 1) (k := many + 1) μ (by omega)
  have hz2 := mul_rep (z := 0) (k := many + 1) μ (by omega)
  have ha0 := add_il (a := List.replicate many 0) (b := [-1, 1]) μ (by simp; omega)
  have ha1 := add_il (a := List.replicate (many + 1) 1) (b := [0]) μ (by simp; omega)
  have ha2 := add_il (a := List.replicate (many + 1) 0) (b := [1]) μ (by simp; omega)
  have hall : opAdd (.lst (rows.map fun r => lnD (sysLine r))) (.lst [lnD (List.replicate many 0 ++ [-1, 1], 0), lnD (List.replicate (many + 1) 1 ++ [0], 1)]) μ = .ok (.lst ((sysLines rows many).map lnD)) μ := by
    rw [add_lst (sl_le (by simp; omega))]
    unfold sysLines
    rw [List.map_append, List.map_map]; rfl
  have hcast : ((many + 1 : Nat) : Int) = ((many : Nat) : Int) + 1 := by omega
  have hat : ∀ j, j < many + 2 → ((List.range (many + 2)).map num |>.map D.int)[j]? = some (.int (num j)) := fun j hj => by
    rw [List.getElem?_map, List.getElem?_map, List.getElem?_range hj]; rfl
  have har : (3 : Nat) = F_greatest.ar := rfl
  have har2 : (2 : Nat) = F_lowest.ar := rfl
  have e0 : ilD [-1, 1] = [D.int (-1), D.int 1] := rfl
  have e1 : ilD [0] = [D.int 0] := rfl
  have e2 : ilD [1] = [D.int 1] := rfl
  rw [e0] at ha0
  rw [e1] at ha1
  rw [e2] at ha2
  have hgl : sysGoal many = List.replicate (many + 1) 0 ++ [1] := rfl
  rw [hgl] at hg
  rw [hcast] at hg hz1 hz2
  -- the two ends
  by_cases q : num (many + 1) = 0
  · refine ⟨none, ?_, fun _ => ?_, fun l h => nomatch h⟩
    · show runF N_solution G_solution [.lst (rows.map rwD), .int (many : Nat)] μ = _
      refine runF_rt ?_ rfl
      have hix : atI (((List.range (many + 2)).map num).map D.int) ((many + 1 : Nat) : Int) = some (.int 0) := by rw [Lite.atI_nat, hat _ (by omega), q]
      rw [hcast] at hix
      show G_solution [some (.lst (rows.map rwD)), some (.int (many : Nat)), none, none, none, none, none, none, none, none] μ = _
      unfold G_solution
      simp only [ilD, lnD] at *
      simp [-List.map_append, -List.map_cons, -List.map_replicate, -List.map_map, N_solution, hsl, hz0, hcast, hz1, hz2, ha0, ha1, ha2, hall, ← har, hg, hix, solD]
    · have hz : bsol (many + 2 + (sysLines rows many).length) (sysLines rows many).length x (many + 1) = 0 := by
        have := hnb (many + 1) (by omega)
        rw [q, rc_zero] at this
        exact mul_zero_left hcomr this.symm
      rcases hstop with h | h
      · exact fun y => sys_none hr Id h hz y
      · have := sys_stop hr Id h
        grind
  · have hbo : 0 < bsol (many + 2 + (sysLines rows many).length) (sysLines rows many).length x (many + 1) := by
      have h1 := bsol_nn Id (j := many + 1) (by omega)
      have h2 := hnb (many + 1) (by omega)
      refine Classical.byContradiction fun hn => q ?_
      have h3 : bsol (many + 2 + (sysLines rows many).length) (sysLines rows many).length x (many + 1) = 0 := by grind
      rw [h3] at h2
      refine rc_inj (h2.trans ?_)
      rw [rc_zero]; grind
    obtain ⟨hbm, hF⟩ := sys_some hr Id hbo
    have hnm : 0 < num many := by
      have h2 := hnb many (by omega)
      have h3 := Rat.mul_pos hcomr hbm
      rw [← h2] at h3
      exact rlt.mp h3
    have hszm := hsz many
    have hl9 : Sz 8999 (num many) := hszm.mono (by omega)
    refine ⟨some ((List.range many).map fun j => lowP (num j) (num many)), ?_, fun h => absurd h (by simp), fun l hl => ?_⟩
    · show runF N_solution G_solution [.lst (rows.map rwD), .int (many : Nat)] μ = _
      have hix : atI (((List.range (many + 2)).map num).map D.int) ((many + 1 : Nat) : Int) = some (.int (num (many + 1))) := by rw [Lite.atI_nat, hat _ (by omega)]
      have him : atI (((List.range (many + 2)).map num).map D.int) ((many : Nat) : Int) = some (.int (num many)) := by rw [Lite.atI_nat, hat _ (by omega)]
      rw [hcast] at hix
      have htk : ((((List.range (many + 2)).map num).map D.int).take many) = (List.range many).map fun j => D.int (num j) := by
        rw [List.map_map, ← List.map_take, List.take_range, Nat.min_eq_left (by omega)]; rfl
      have hlc := fun (L lines below : D) => lc_map (t := tgName 9) (f := E_solution_3) (μ := μ) (ρ := [some L, some (.int (many : Nat)), some lines, some (.lst (((List.range (many + 2)).map num).map D.int)), some below, none, none, none, none, none]) (en := fun j : Nat => D.int (num j)) (g := fun j : Nat => frD (lowP (num j) (num many))) (xs := List.range many) (sl_le (by rw [List.length_range]; omega)) fun j hj => ⟨_, rfl, by
        have hlo := run_lowest (t := num j) (b := num many) μ hnm hl9
        unfold E_solution_3
        simp [-List.map_map, him, ← har2, hlo]⟩
      refine runF_rt ?_ ?_
      · show G_solution [some (.lst (rows.map rwD)), some (.int (many : Nat)), none, none, none, none, none, none, none, none] μ = _
        unfold G_solution
        simp only [ilD, lnD] at *
        simp [-List.map_append, -List.map_cons, -List.map_replicate, -List.map_map, N_solution, hsl, hz0, hcast, hz1, hz2, ha0, ha1, ha2, hall, ← har, hg, hix, q, cut_to, htk, hlc]
        show D.lst _ = D.lst (((List.range many).map fun j => lowP (num j) (num many)).map frD)
        rw [List.map_map]; rfl
      · show belowL _ _ = true
        exact belowL_map fun p _ => rfl
    · have hl' : (List.range many).map (fun j => lowP (num j) (num many)) = l := Option.some.inj hl
      subst hl'
      refine ⟨by simp, fun p hp => ?_, feas_congr (fun j hj => ?_) hF⟩
      · obtain ⟨j, _, rfl⟩ := List.mem_map.mp hp
        exact ⟨low_pos hnm, low_prim hnm, (low_sz (hsz j) hszm).1, (low_sz (hsz j) hszm).2⟩
      · unfold ptOf
        rw [List.getD_eq_getElem?_getD, List.getElem?_map, List.getElem?_range hj]
        show _ = ((lowP (num j) (num many)).1 : Rat) / ((lowP (num j) (num many)).2 : Rat)
        rw [low_rat hnm, hnb j (by omega), hnb many (by omega)]
        have a1 := div_mul (a := bsol (many + 2 + (sysLines rows many).length) (sysLines rows many).length x j) hbm
        have a2 : (0 : Rat) < (comU x.tab x.bas (sysLines rows many).length : Rat) * bsol (many + 2 + (sysLines rows many).length) (sysLines rows many).length x many := Rat.mul_pos hcomr hbm
        refine mul_cancel_left a2 ?_
        rw [div_mul a2]
        show (comU x.tab x.bas (sysLines rows many).length : Rat) * bsol (many + 2 + (sysLines rows many).length) (sysLines rows many).length x many * (bsol (many + 2 + (sysLines rows many).length) (sysLines rows many).length x j / bsol (many + 2 + (sysLines rows many).length) (sysLines rows many).length x many) = _
        rw [Rat.mul_assoc, a1]
end K14

set_option Elab.async false
set_option linter.all false
set_option maxRecDepth 100000
namespace K14
open PySem L2 Lite LP
theorem run_can_hold {rows : List Row} {many : Nat} (μ : Store) {res : Option (List (Int × Int))} (h : F_solution.run [.lst (rows.map rwD), .int (many : Nat)] μ = .ok (solD res) μ) : F_can_hold.run [.lst (rows.map rwD), .int (many : Nat)] μ = .ok (.bl res.isSome) μ := by
  show runF N_can_hold G_can_hold [.lst (rows.map rwD), .int (many : Nat)] μ = _
  refine runF_rt ?_ rfl
  have har : (2 : Nat) = F_solution.ar := rfl
  unfold G_can_hold
  simp [N_can_hold, ← har, h]
  cases res <;> rfl
theorem run_fits {rows : List Row} {many : Nat} (μ : Store) (hm : 0 < many) {res : Option (List (Int × Int))} (h : F_solution.run [.lst (rows.map rwD), .int (many : Nat)] μ = .ok (solD res) μ) : F_fits.run [.lst (rows.map rwD), .int (many : Nat)] μ = .ok (.bl res.isSome) μ := by
  show runF N_fits G_fits [.lst (rows.map rwD), .int (many : Nat)] μ = _
  refine runF_rt ?_ rfl
  have hc := run_can_hold μ h
  have har : (2 : Nat) = F_can_hold.ar := rfl
  have hm' : (0 : Int) < (many : Nat) := by omega
  unfold G_fits
  simp [N_fits, ← har, hc, hm]
/-! ### panels -/
abbrev Rl := List Int × Bool × Int
def wdD (same : Bool) : D := .str (if same then ("same" : PySem.Str) else ("most" : PySem.Str))
def rlD (r : Rl) : D := .tup [.tup (ilD r.1), wdD r.2.1, .int r.2.2]
def slD (p : Int × Int) : D := .tup [.int p.1, .int p.2]
/-- the rows of a rule -/
def rowsR (r : Rl) : List Row := (negL (r.1 ++ [-r.2.2]), false) :: if r.2.1 then [(r.1 ++ [-r.2.2], false)] else []
theorem eq_same {b : Bool} {μ : Store} : cmpEq (wdD b) (.str ("same" : PySem.Str)) μ = some b := by
  have h : cmpEq (wdD b) (.str ("same" : PySem.Str)) μ = cmpEq (wdD b) (.str ("same" : PySem.Str)) [] := rfl
  rw [h]
  cases b <;> decide +kernel
theorem run_rule_rows {r : Rl} {many : Nat} (μ : Store) (hl : r.1.length = many) (hm : many ≤ 20) : F_rule_rows.run [rlD r, .int 0, .int (many : Nat)] μ = .ok (.lst ((rowsR r).map rwD)) μ := by
  show runF N_rule_rows G_rule_rows [rlD r, .int 0, .int (many : Nat)] μ = _
  refine runF_rt ?_ ?_
  · show G_rule_rows [some (rlD r), some (.int 0), some (.int (many : Nat)), none, none, none, none, none, none, none] μ = _
    obtain ⟨f, same, b⟩ := r
    have hl' : f.length = many := hl
    have hz : opMul (.lst [.int 0]) (.int 0) μ = .ok (.lst (ilD [])) μ := mul_rep (k := 0) μ (by omega)
    have a1 := add_il (a := []) (b := f) μ (by simp; omega)
    have a2 := add_il (a := [] ++ f) (b := []) μ (by simp; omega)
    have a3 := add_il (a := [] ++ f ++ []) (b := [-b]) μ (by simp; omega)
    have h := lc_map (t := tgName 9) (f := E_rule_rows_1) (μ := μ) (ρ := [some (rlD (f, same, b)), some (.int 0), some (.int (many : Nat)), some (.tup (ilD f)), some (wdD same), some (.int b), some (.lst (ilD (f ++ [-b]))), none, none, none]) (en := D.int) (g := fun z : Int => .int (-z)) (xs := f ++ [-b]) (sl_le (by simp; omega)) fun z hz => ⟨_, rfl, by unfold E_rule_rows_1; simp⟩
    have e : (f ++ [-b]).map (fun z : Int => D.int (-z)) = ilD (negL (f ++ [-b])) := by unfold negL ilD; rw [List.map_map]; rfl
    rw [e] at h
    have e0 : ilD [] = [] := rfl
    have e1 : ilD [-b] = [D.int (-b)] := rfl
    simp only [List.nil_append, List.append_nil, e0, e1] at a1 a2 a3 hz
    have hsub : ((many : Nat) : Int) - 0 - ((f.length : Nat) : Int) = 0 := by omega
    have aa := add_lst (μ := μ) (ds := [rwD (negL (f ++ [-b]), false)]) (es := [rwD (f ++ [-b], false)]) (sl_le (by simp))
    unfold G_rule_rows rlD
    unfold rlD at h
    unfold rwD at aa
    simp only [ilD] at *
    cases same with
    | true =>
      simp [-List.map_append, -List.map_cons, -List.map_map, hl', hz, a1, a2, a3, h, eq_same, aa, rowsR, rwD]
      rfl
    | false =>
      simp [-List.map_append, -List.map_cons, -List.map_map, hl', hz, a1, a2, a3, h, eq_same, aa, rowsR, rwD]
      rfl
  · show belowL _ _ = true
    exact belowL_map fun p _ => by simp [rwD]
end K14

set_option Elab.async false
set_option linter.all false
set_option maxRecDepth 100000
namespace K14
open PySem L2 Lite LP
/-- a slider's two rules -/
def slR (n : Nat) (p : (Int × Int) × Nat) : List Rl := [(negL (unitL n p.2), false, -p.1.1), (unitL n p.2, false, p.1.2)]
def slRules (sl : List (Int × Int)) : List Rl := ((sl.zipIdx 0).map (slR sl.length)).flatten
theorem body_slider (P : D) (n k : Nat) (μ : Store) (T : List Rl) (x : Int × Int) (d5 d6 d7 d8 : Option D) (hn : n ≤ 20) (hT : T.length ≤ 60) :
    B_slider_rules_3 [some P, some (.lst (T.map rlD)), some (.int (n : Nat)), some (.int (k : Nat)), some (slD x), d5, d6, d7, d8] μ
      = .nx [some P, some (.lst ((T ++ slR n (x, k)).map rlD)), some (.int (n : Nat)), some (.int (k : Nat)), some (slD x), some (.tup (ilD (unitL n k))), d6, d7, d8] μ := by
  have h1 := lc_map (t := tgName 7) (f := E_slider_rules_1) (μ := μ) (ρ := [some P, some (.lst (T.map rlD)), some (.int (n : Nat)), some (.int (k : Nat)), some (slD x), d5, none, none, d8]) (en := fun i : Nat => D.int (i : Int)) (g := fun i : Nat => D.int (if i = k then 1 else 0)) (xs := List.range n) (sl_le (by rw [List.length_range]; omega)) fun i hi => ⟨_, rfl, by
    by_cases q : i = k
    · subst q; simp [E_slider_rules_1]
    · have q2 : ¬ ((i : Int) = (k : Int)) := by omega
      simp [E_slider_rules_1, q, q2]⟩
  have e1 : (List.range n).map (fun i : Nat => D.int (if i = k then 1 else 0)) = ilD (unitL n k) := by unfold unitL; simp [ilD]
  rw [e1] at h1
  have h2 := lc_map (t := tgName 8) (f := E_slider_rules_2) (μ := μ) (ρ := [some P, some (.lst (T.map rlD)), some (.int (n : Nat)), some (.int (k : Nat)), some (slD x), some (.tup (ilD (unitL n k))), none, d7, none]) (en := D.int) (g := fun z : Int => .int (-z)) (xs := unitL n k) (sl_le (by rw [unit_len]; omega)) fun z hz => ⟨_, rfl, by unfold E_slider_rules_2; simp⟩
  have e2 : (unitL n k).map (fun z : Int => D.int (-z)) = ilD (negL (unitL n k)) := by unfold negL ilD; rw [List.map_map]; rfl
  rw [e2] at h2
  have aa := add_lst (μ := μ) (ds := T.map rlD) (es := (slR n (x, k)).map rlD) (sl_le (by rw [List.length_map]; unfold slR; simp; omega))
  rw [← List.map_append] at aa
  have e3 : (slR n (x, k)).map rlD = [.tup [.tup (ilD (negL (unitL n k))), .str ("most" : PySem.Str), .int (-x.1)], .tup [.tup (ilD (unitL n k)), .str ("most" : PySem.Str), .int x.2]] := rfl
  rw [e3] at aa
  unfold B_slider_rules_3 slD
  unfold slD at h1 h2
  simp only [ilD] at *
  simp [-List.map_append, -List.map_map, rng_nat (μ := μ) (show n ≤ 100 by omega), h1, h2, aa]
theorem loop_slider (P : D) (n : Nat) (μ : Store) (hn : n ≤ 20) : ∀ (xs : List (Int × Int)) (k : Nat) (T : List Rl) (d3 d4 d5 d6 d7 d8 : Option D), T.length + 2 * xs.length ≤ 60 →
    ∃ e3 e4 e5 e6 e7 e8, forGo (tgTup 2 (tgCons (tgName 3) (tgCons (tgName 4) tgNil))) B_slider_rules_3 [] ((xs.zipIdx k).map fun p => .tup [.int (p.2 : Nat), slD p.1]) [some P, some (.lst (T.map rlD)), some (.int (n : Nat)), d3, d4, d5, d6, d7, d8] μ
      = .nx [some P, some (.lst ((T ++ ((xs.zipIdx k).map (slR n)).flatten).map rlD)), some (.int (n : Nat)), e3, e4, e5, e6, e7, e8] μ
  | [], k, T, d3, d4, d5, d6, d7, d8, _ => ⟨d3, d4, d5, d6, d7, d8, by simp⟩
  | x :: xs, k, T, d3, d4, d5, d6, d7, d8, hT => by
    have hT' : T.length + 2 * (xs.length + 1) ≤ 60 := hT
    obtain ⟨e3, e4, e5, e6, e7, e8, h⟩ := loop_slider P n μ hn xs (k + 1) (T ++ slR n (x, k)) (some (.int (k : Nat))) (some (slD x)) (some (.tup (ilD (unitL n k)))) d6 d7 d8 (by rw [List.length_append]; unfold slR; simp; omega)
    refine ⟨e3, e4, e5, e6, e7, e8, ?_⟩
    rw [List.zipIdx_cons, List.map_cons, List.map_cons]
    rw [forGo_nx (ρ1 := [some P, some (.lst (T.map rlD)), some (.int (n : Nat)), some (.int (k : Nat)), some (slD x), d5, d6, d7, d8]) (by simp) (body_slider P n k μ T x d5 d6 d7 d8 hn (by omega)), h]
    simp
/-- a panel: sliders, rules, cells, keeps -/
structure Pn where
  sl : List (Int × Int)
  rl : List Rl
  cells : List D
  keeps : List Int
def pnD (P : Pn) : D := .tup [.tup (P.sl.map slD), .tup (P.rl.map rlD), .tup P.cells, .tup (ilD P.keeps)]
def allR (P : Pn) : List Rl := slRules P.sl ++ P.rl
theorem slRules_len (sl : List (Int × Int)) : (slRules sl).length = 2 * sl.length := by
  unfold slRules
  have : ∀ (xs : List (Int × Int)) (k n : Nat), ((xs.zipIdx k).map (slR n)).flatten.length = 2 * xs.length := fun xs => by
    induction xs with
    | nil => intro k n; rfl
    | cons x xs ih => intro k n; rw [List.zipIdx_cons, List.map_cons, List.flatten_cons, List.length_append, ih]; unfold slR; simp; omega
  exact this sl 0 sl.length
theorem below_rl {n : Nat} {l : List Rl} : belowL n (l.map rlD) = true := belowL_map fun r _ => by simp [rlD, wdD]
theorem run_slider_rules (P : Pn) (μ : Store) (hn : P.sl.length ≤ 20) : F_slider_rules.run [pnD P] μ = .ok (.lst ((slRules P.sl).map rlD)) μ := by
  show runF N_slider_rules G_slider_rules [pnD P] μ = _
  refine runF_rt ?_ (by show belowL _ _ = true; exact below_rl)
  obtain ⟨e3, e4, e5, e6, e7, e8, h⟩ := loop_slider (pnD P) P.sl.length μ hn P.sl 0 [] none none none none none none (by simp; omega)
  have he : enumD (P.sl.map slD) = (P.sl.zipIdx 0).map fun p => .tup [.int (p.2 : Nat), slD p.1] := enum_map (en := slD)
  rw [List.nil_append, List.map_nil] at h
  show G_slider_rules [some (pnD P), none, none, none, none, none, none, none, none] μ = _
  unfold slRules
  unfold G_slider_rules
  unfold pnD at h ⊢
  simp [-List.map_flatten, he, h]
theorem run_all_rules (P : Pn) (μ : Store) (hn : P.sl.length ≤ 20) (hr : P.rl.length ≤ 20) : F_all_rules.run [pnD P] μ = .ok (.lst ((allR P).map rlD)) μ := by
  show runF N_all_rules G_all_rules [pnD P] μ = _
  refine runF_rt ?_ (by show belowL _ _ = true; exact below_rl)
  have hs := run_slider_rules P μ hn
  have har : (1 : Nat) = F_slider_rules.ar := rfl
  have aa := add_lst (μ := μ) (ds := (slRules P.sl).map rlD) (es := P.rl.map rlD) (sl_le (by rw [List.length_map, List.length_map, slRules_len]; omega))
  show G_all_rules [some (pnD P)] μ = _
  unfold G_all_rules allR
  unfold pnD at hs ⊢
  simp [-List.map_append, ← har, hs, aa]
  rw [List.map_append]
/-- the rows of a panel -/
def rowsP (P : Pn) : List Row := ((allR P).map rowsR).flatten
theorem below_rw {n : Nat} {l : List Row} : belowL n (l.map rwD) = true := belowL_map fun r _ => by simp [rwD]
theorem rowsR_len (r : Rl) : (rowsR r).length ≤ 2 := by unfold rowsR; split <;> simp
theorem loop_panel (P : D) (many : Nat) (μ : Store) (hm : many ≤ 20) : ∀ (xs : List Rl) (T : List Row) (d4 : Option D), T.length + 2 * xs.length ≤ 90 → (∀ r ∈ xs, r.1.length = many) →
    ∃ e4, forGo (tgName 4) B_panel_rows_1 [] (xs.map rlD) [some P, some (.int 0), some (.int (many : Nat)), some (.lst (T.map rwD)), d4] μ = .nx [some P, some (.int 0), some (.int (many : Nat)), some (.lst ((T ++ (xs.map rowsR).flatten).map rwD)), e4] μ
  | [], T, d4, _, _ => ⟨d4, by simp⟩
  | x :: xs, T, d4, hT, hx => by
    have hT' : T.length + 2 * (xs.length + 1) ≤ 90 := hT
    have hrl := rowsR_len x
    obtain ⟨e4, h⟩ := loop_panel P many μ hm xs (T ++ rowsR x) (some (rlD x)) (by rw [List.length_append]; omega) fun r hr => hx r (by simp [hr])
    refine ⟨e4, ?_⟩
    have hrr := run_rule_rows (r := x) (many := many) μ (hx x (by simp)) hm
    have har : (3 : Nat) = F_rule_rows.ar := rfl
    have aa := add_lst (μ := μ) (ds := T.map rwD) (es := (rowsR x).map rwD) (sl_le (by rw [List.length_map, List.length_map]; omega))
    have hb : B_panel_rows_1 [some P, some (.int 0), some (.int (many : Nat)), some (.lst (T.map rwD)), some (rlD x)] μ = .nx [some P, some (.int 0), some (.int (many : Nat)), some (.lst ((T ++ rowsR x).map rwD)), some (rlD x)] μ := by
      unfold B_panel_rows_1
      simp [-List.map_append, ← har, hrr, aa]
      rw [List.map_append]
    rw [List.map_cons, forGo_nx (ρ1 := [some P, some (.int 0), some (.int (many : Nat)), some (.lst (T.map rwD)), some (rlD x)]) (by simp) hb, h]
    simp
theorem run_panel_rows (P : Pn) {many : Nat} (μ : Store) (hm : many ≤ 20) (hn : P.sl.length ≤ 6) (hr : P.rl.length ≤ 6) (hl : ∀ r ∈ allR P, r.1.length = many) : F_panel_rows.run [pnD P, .int 0, .int (many : Nat)] μ = .ok (.lst ((rowsP P).map rwD)) μ := by
  show runF N_panel_rows G_panel_rows [pnD P, .int 0, .int (many : Nat)] μ = _
  refine runF_rt ?_ (by show belowL _ _ = true; exact below_rw)
  have ha := run_all_rules P μ (by omega) (by omega)
  have har : (1 : Nat) = F_all_rules.ar := rfl
  obtain ⟨e4, h⟩ := loop_panel (pnD P) many μ hm (allR P) [] none (by unfold allR; rw [List.length_append, slRules_len]; simp; omega) hl
  rw [List.nil_append, List.map_nil] at h
  show G_panel_rows [some (pnD P), some (.int 0), some (.int (many : Nat)), none, none] μ = _
  unfold G_panel_rows rowsP
  simp [-List.map_flatten, ← har, ha, h]
end K14

set_option Elab.async false
set_option linter.all false
set_option maxRecDepth 100000
namespace Lite
open PySem L2
section
variable {μ : Store} {ρ : Lite.Frame} {f : SE} {T : String} {i : Int} {ds : List D}
@[simp] theorem ev_isi : sIsi T f ρ μ = (f ρ μ).bind (opIsi T) := by rfl
@[simp] theorem isi_int_int : opIsi "int" (.int i) μ = .ok (.bl true) μ := by rfl
@[simp] theorem isi_bool_int : opIsi "bool" (.int i) μ = .ok (.bl false) μ := by rfl
@[simp] theorem isi_tup_tup : opIsi "tuple" (.tup ds) μ = .ok (.bl true) μ := by rfl
@[simp] theorem isi_str_str {s : Str} : opIsi "str" (.str s) μ = .ok (.bl true) μ := by rfl
theorem asBools_map : ∀ l : List Bool, asBools (l.map .bl) = some l
  | [] => rfl
  | b :: l => by show (asBools (l.map .bl)).map (b :: ·) = _; rw [asBools_map l]; rfl
theorem bi_all {A : Type} {p : A → Bool} {l : List A} : biAll [.lst (l.map fun x => .bl (p x))] μ = .ok (.bl (l.all p)) μ := by
  have e : l.map (fun x => D.bl (p x)) = (l.map p).map D.bl := by rw [List.map_map]; rfl
  have e2 : (l.map p).all id = l.all p := by rw [List.all_map]; rfl
  show (match (seeLst (.lst (l.map fun x => D.bl (p x))) μ).bind fun ds => (asBools ds).map fun ns => D.bl (ns.all id) with
    | some r => R.ok r μ
    | none => R.no) = _
  have e3 : seeLst (.lst (l.map fun x => D.bl (p x))) μ = some (l.map fun x => D.bl (p x)) := rfl
  rw [e3, e, Option.bind_some, asBools_map, Option.map_some, e2]
theorem mul_tup1 {d : D} {k : Int} (h1 : 2 ≤ k) (h2 : k ≤ 1000) : opMul (.tup [d]) (.int k) μ = .ok (.tup (List.replicate k.toNat d)) μ := by
  have c : ([d] : List D) ≠ [] ∧ 2 ≤ k ∧ k ≤ 1000 ∧ ([d] : List D).length ≤ 1000 := ⟨by simp, h1, h2, by simp⟩
  show (if ([d] : List D) ≠ [] ∧ 2 ≤ k ∧ k ≤ 1000 ∧ ([d] : List D).length ≤ 1000 then R.ok (D.tup (List.replicate k.toNat [d]).flatten) μ else R.no) = _
  rw [if_pos c, List.flatten_replicate_singleton]
end
end Lite
namespace K14
open PySem L2 Lite LP
theorem run_is_number {i lo hi : Int} (μ : Store) : F_is_number.run [.int i, .int lo, .int hi] μ = .ok (.bl (decide (lo ≤ i) && decide (i ≤ hi))) μ := by
  show runF N_is_number G_is_number [.int i, .int lo, .int hi] μ = _
  refine runF_rt ?_ rfl
  unfold G_is_number
  by_cases h : lo ≤ i
  · simp [N_is_number, h]
  · simp [N_is_number, h]
theorem run_is_tuple {ds : List D} {lo hi : Int} (μ : Store) : F_is_tuple.run [.tup ds, .int lo, .int hi] μ = .ok (.bl (decide (lo ≤ (ds.length : Int)) && decide ((ds.length : Int) ≤ hi))) μ := by
  show runF N_is_tuple G_is_tuple [.tup ds, .int lo, .int hi] μ = _
  refine runF_rt ?_ rfl
  unfold G_is_tuple
  by_cases h : lo ≤ (ds.length : Int)
  · simp [N_is_tuple, h]
  · simp [N_is_tuple, h]
theorem in_words {b : Bool} {μ : Store} : cmpIn (wdD b) (.tup [.str ("most" : PySem.Str), .str ("same" : PySem.Str)]) μ = some true := by
  have h : cmpIn (wdD b) (.tup [.str ("most" : PySem.Str), .str ("same" : PySem.Str)]) μ = cmpIn (wdD b) (.tup [.str ("most" : PySem.Str), .str ("same" : PySem.Str)]) [] := rfl
  rw [h]
  cases b <;> decide +kernel
theorem run_is_among {b : Bool} (μ : Store) : F_is_among.run [.tup [.str ("most" : PySem.Str), .str ("same" : PySem.Str)], wdD b] μ = .ok (.bl true) μ := by
  show runF N_is_among G_is_among [.tup [.str ("most" : PySem.Str), .str ("same" : PySem.Str)], wdD b] μ = _
  refine runF_rt ?_ rfl
  have h := in_words (b := b) (μ := μ)
  unfold wdD at h ⊢
  unfold G_is_among
  simp [N_is_among, h]
theorem run_are_factors {f : List Int} {many : Nat} (μ : Store) (hl : f.length = many) (h2 : 2 ≤ many) (hm : many ≤ 20) (hz : ∀ z ∈ f, -2 ≤ z ∧ z ≤ 2) (hne : ∃ z ∈ f, z ≠ 0) : F_are_factors.run [.tup (ilD f), .int (many : Nat)] μ = .ok (.bl true) μ := by
  show runF N_are_factors G_are_factors [.tup (ilD f), .int (many : Nat)] μ = _
  refine runF_rt ?_ rfl
  have ht := run_is_tuple (ds := ilD f) (lo := (many : Nat)) (hi := (many : Nat)) μ
  have har : (3 : Nat) = F_is_tuple.ar := rfl
  have har2 : (3 : Nat) = F_is_number.ar := rfl
  have h := lc_map (t := tgName 3) (f := E_are_factors_1) (μ := μ) (ρ := [some (.tup (ilD f)), some (.int (many : Nat)), none, none]) (en := D.int) (g := fun z : Int => .bl (decide (-2 ≤ z) && decide (z ≤ 2))) (xs := f) (sl_le (by omega)) fun z hz => ⟨_, rfl, by
    have := run_is_number (i := z) (lo := -2) (hi := 2) μ
    unfold E_are_factors_1
    simp [← har2, this]⟩
  have hall := bi_all (μ := μ) (p := fun z : Int => decide (-2 ≤ z) && decide (z ≤ 2)) (l := f)
  have hat : f.all (fun z : Int => decide (-2 ≤ z) && decide (z ≤ 2)) = true := by
    rw [List.all_eq_true]
    intro z hzf
    obtain ⟨a, b⟩ := hz z hzf
    simp [a, b]
  rw [hat] at hall
  have hmul := mul_tup1 (μ := μ) (d := .int 0) (k := (many : Nat)) (by omega) (by omega)
  rw [Int.toNat_natCast] at hmul
  have hrep : List.replicate many (D.int 0) = ilD (List.replicate many 0) := by unfold ilD; rw [List.map_replicate]
  have hcmp := ne_tupI (μ := μ) (a := f) (b := List.replicate many 0)
  have hd : decide (f = List.replicate many 0) = false := by
    refine decide_eq_false fun e => ?_
    obtain ⟨z, h1, h3⟩ := hne
    rw [e] at h1
    exact h3 (List.mem_replicate.mp h1).2
  rw [hd] at hcmp
  rw [hrep] at hmul
  unfold G_are_factors
  simp only [ilD] at *
  simp [-List.map_replicate, N_are_factors, ← har, ht, hl, h, hall, hmul, hcmp]
end K14

set_option Elab.async false
set_option linter.all false
set_option maxRecDepth 100000
namespace K14
open PySem L2 Lite LP
theorem run_is_slider {p : Int × Int} (μ : Store) (h0 : 0 ≤ p.1) (h1 : p.1 ≤ p.2) (h2 : p.2 ≤ 20) : F_is_slider.run [slD p] μ = .ok (.bl true) μ := by
  show runF N_is_slider G_is_slider [slD p] μ = _
  refine runF_rt ?_ rfl
  have ht := run_is_tuple (ds := [.int p.1, .int p.2]) (lo := 2) (hi := 2) μ
  have har : (3 : Nat) = F_is_tuple.ar := rfl
  have har2 : (3 : Nat) = F_is_number.ar := rfl
  have h := lc_map (t := tgName 2) (f := E_is_slider_1) (μ := μ) (ρ := [some (slD p), none, none]) (en := D.int) (g := fun z : Int => .bl (decide (0 ≤ z) && decide (z ≤ 20))) (xs := [p.1, p.2]) (sl_le (by simp)) fun z hz => ⟨_, rfl, by
    have := run_is_number (i := z) (lo := 0) (hi := 20) μ
    unfold E_is_slider_1
    simp [← har2, this]⟩
  have hall := bi_all (μ := μ) (p := fun z : Int => decide (0 ≤ z) && decide (z ≤ 20)) (l := [p.1, p.2])
  have hat : ([p.1, p.2]).all (fun z : Int => decide (0 ≤ z) && decide (z ≤ 20)) = true := by
    simp [h0, h2, show 0 ≤ p.2 by omega, show p.1 ≤ 20 by omega]
  rw [hat] at hall
  simp only [List.map_cons, List.map_nil] at h hall
  unfold G_is_slider
  unfold slD at h ⊢
  simp [N_is_slider, ← har, ht, h, hall, h1]
structure RlOk (many : Nat) (r : Rl) : Prop where
  len : r.1.length = many
  rng : ∀ z ∈ r.1, -2 ≤ z ∧ z ≤ 2
  nz : ∃ z ∈ r.1, z ≠ 0
  lo : -40 ≤ r.2.2
  hi : r.2.2 ≤ 40
theorem run_is_rule {r : Rl} {many : Nat} (μ : Store) (R : RlOk many r) (h2 : 2 ≤ many) (hm : many ≤ 20) : F_is_rule.run [rlD r, .int (many : Nat)] μ = .ok (.bl true) μ := by
  show runF N_is_rule G_is_rule [rlD r, .int (many : Nat)] μ = _
  refine runF_rt ?_ rfl
  have ht := run_is_tuple (ds := [.tup (ilD r.1), wdD r.2.1, .int r.2.2]) (lo := 3) (hi := 3) μ
  have hf := run_are_factors μ R.len h2 hm R.rng R.nz
  have ha := run_is_among (b := r.2.1) μ
  have hn := run_is_number (i := r.2.2) (lo := -40) (hi := 40) μ
  have har : (3 : Nat) = F_is_tuple.ar := rfl
  have har2 : (3 : Nat) = F_is_number.ar := rfl
  have har3 : (2 : Nat) = F_are_factors.ar := rfl
  have har4 : (2 : Nat) = F_is_among.ar := rfl
  have h1 := R.lo
  have h3 := R.hi
  unfold G_is_rule rlD
  simp [N_is_rule, ← har, ← har2, ← har3, ← har4, ht, hf, ha, hn, h1, h3]
/-- cells -/
inductive Cl where
  | sum (f : List Int)
  | two (least : Bool) (a b : Int)
def lwD (least : Bool) : D := .str (if least then ("least" : PySem.Str) else ("most" : PySem.Str))
def clD : Cl → D
  | .sum f => .tup [.str ("sum" : PySem.Str), .tup (ilD f)]
  | .two l a b => .tup [lwD l, .int a, .int b]
def ClOk (many number : Nat) : Cl → Prop
  | .sum f => f.length = many ∧ (∀ z ∈ f, -2 ≤ z ∧ z ≤ 2) ∧ ∃ z ∈ f, z ≠ 0
  | .two _ a b => 0 ≤ a ∧ a < number ∧ 0 ≤ b ∧ b < number
theorem eq_sum {μ : Store} : cmpEq (.str ("sum" : PySem.Str)) (.str ("sum" : PySem.Str)) μ = some true := by
  have h : cmpEq (.str ("sum" : PySem.Str)) (.str ("sum" : PySem.Str)) μ = cmpEq (.str ("sum" : PySem.Str)) (.str ("sum" : PySem.Str)) [] := rfl
  rw [h]; decide +kernel
theorem ne_sum {l : Bool} {μ : Store} : cmpEq (lwD l) (.str ("sum" : PySem.Str)) μ = some false := by
  have h : cmpEq (lwD l) (.str ("sum" : PySem.Str)) μ = cmpEq (lwD l) (.str ("sum" : PySem.Str)) [] := rfl
  rw [h]; cases l <;> decide +kernel
theorem in_lw {l : Bool} {μ : Store} : cmpNotIn (lwD l) (.tup [.str ("least" : PySem.Str), .str ("most" : PySem.Str)]) μ = some false := by
  have h : cmpNotIn (lwD l) (.tup [.str ("least" : PySem.Str), .str ("most" : PySem.Str)]) μ = cmpNotIn (lwD l) (.tup [.str ("least" : PySem.Str), .str ("most" : PySem.Str)]) [] := rfl
  rw [h]; cases l <;> decide +kernel
theorem run_is_cell {c : Cl} {many number : Nat} (μ : Store) (C : ClOk many number c) (h2 : 2 ≤ many) (hm : many ≤ 20) : F_is_cell.run [clD c, .int (many : Nat), .int (number : Nat)] μ = .ok (.bl true) μ := by
  show runF N_is_cell G_is_cell [clD c, .int (many : Nat), .int (number : Nat)] μ = _
  refine runF_rt ?_ rfl
  have har : (3 : Nat) = F_is_tuple.ar := rfl
  have har2 : (3 : Nat) = F_is_number.ar := rfl
  have har3 : (2 : Nat) = F_are_factors.ar := rfl
  cases c with
  | sum f =>
    obtain ⟨c1, c2, c3⟩ := C
    have ht := run_is_tuple (ds := [.str ("sum" : PySem.Str), .tup (ilD f)]) (lo := 2) (hi := 3) μ
    have hf := run_are_factors μ c1 h2 hm c2 c3
    unfold G_is_cell clD
    simp [N_is_cell, ← har, ← har2, ← har3, ht, hf, eq_sum]
  | two l a b =>
    obtain ⟨c1, c2, c3, c4⟩ := C
    have ht := run_is_tuple (ds := [lwD l, .int a, .int b]) (lo := 2) (hi := 3) μ
    have h := lc_map (t := tgName 4) (f := E_is_cell_1) (μ := μ) (ρ := [some (clD (.two l a b)), some (.int (many : Nat)), some (.int (number : Nat)), none, none]) (en := D.int) (g := fun z : Int => .bl (decide (0 ≤ z) && decide (z ≤ (number : Int) - 1))) (xs := [a, b]) (sl_le (by simp)) fun z hz => ⟨_, rfl, by
      have := run_is_number (i := z) (lo := 0) (hi := (number : Int) - 1) μ
      unfold E_is_cell_1
      simp [← har2, this]⟩
    have hall := bi_all (μ := μ) (p := fun z : Int => decide (0 ≤ z) && decide (z ≤ (number : Int) - 1)) (l := [a, b])
    have hat : ([a, b]).all (fun z : Int => decide (0 ≤ z) && decide (z ≤ (number : Int) - 1)) = true := by
      simp [c1, c3, show a ≤ (number : Int) - 1 by omega, show b ≤ (number : Int) - 1 by omega]
    rw [hat] at hall
    simp only [List.map_cons, List.map_nil] at h hall
    have hcut : cutD [lwD l, D.int a, D.int b] (some 1) none = [.int a, .int b] := cut_from (k := 1)
    have hl1 : ∀ μ : Store, opIsi "str" (lwD l) μ = .ok (.bl true) μ := fun μ => by rfl
    unfold G_is_cell
    unfold clD at h ⊢
    simp [N_is_cell, ← har, ← har2, ← har3, ht, ne_sum, in_lw, hcut, h, hall, hl1]
end K14

set_option Elab.async false
set_option linter.all false
set_option maxRecDepth 100000
namespace K14
open PySem L2 Lite LP
theorem in_ints {i : Int} {l : List Int} {μ : Store} : cmpIn (.int i) (.tup (l.map .int)) μ = some (decide (i ∈ l)) := by
  show (if flatD (.int i) && (l.map D.int).all flatD then some ((l.map D.int).any fun y => eqF y (.int i)) else none) = _
  have h1 : (l.map D.int).all flatD = true := by
    rw [List.all_eq_true]
    intro d hd
    obtain ⟨z, _, rfl⟩ := List.mem_map.mp hd
    rfl
  have h2 : flatD (.int i) = true := rfl
  rw [h1, h2]
  simp only [Bool.and_self, if_true]
  congr 1
  rw [List.any_map]
  have h3 : ∀ z : Int, ((fun y => eqF y (.int i)) ∘ D.int) z = decide (z = i) := fun z => by
    show eqF (.int z) (.int i) = _
    unfold eqF
    by_cases e : z = i <;> simp [e]
  rw [show ((fun y => eqF y (D.int i)) ∘ D.int) = fun z => decide (z = i) from funext h3]
  by_cases e : i ∈ l
  · rw [decide_eq_true e, List.any_eq_true]
    exact ⟨i, e, by simp⟩
  · rw [decide_eq_false e, List.any_eq_false]
    intro z hz hq
    have : z = i := by simpa using hq
    rw [this] at hz
    exact e hz
theorem run_is_order {ks : List Int} {many : Nat} (μ : Store) (hl : ks.length = many) (hm : many ≤ 20) (hr : ∀ z ∈ ks, 0 ≤ z ∧ z < many) (ha : ∀ i : Nat, i < many → (i : Int) ∈ ks) : F_is_order.run [.tup (ilD ks), .int (many : Nat)] μ = .ok (.bl true) μ := by
  show runF N_is_order G_is_order [.tup (ilD ks), .int (many : Nat)] μ = _
  refine runF_rt ?_ rfl
  have ht := run_is_tuple (ds := ilD ks) (lo := (many : Nat)) (hi := (many : Nat)) μ
  have har : (3 : Nat) = F_is_tuple.ar := rfl
  have har2 : (3 : Nat) = F_is_number.ar := rfl
  have h := lc_map (t := tgName 3) (f := E_is_order_1) (μ := μ) (ρ := [some (.tup (ilD ks)), some (.int (many : Nat)), none, none, none]) (en := D.int) (g := fun z : Int => .bl (decide (0 ≤ z) && decide (z ≤ (many : Int) - 1))) (xs := ks) (sl_le (by omega)) fun z hz => ⟨_, rfl, by
    have := run_is_number (i := z) (lo := 0) (hi := (many : Int) - 1) μ
    unfold E_is_order_1
    simp [← har2, this]⟩
  have hall := bi_all (μ := μ) (p := fun z : Int => decide (0 ≤ z) && decide (z ≤ (many : Int) - 1)) (l := ks)
  have hat : ks.all (fun z : Int => decide (0 ≤ z) && decide (z ≤ (many : Int) - 1)) = true := by
    rw [List.all_eq_true]
    intro z hz
    obtain ⟨a, b⟩ := hr z hz
    simp [a, show z ≤ (many : Int) - 1 by omega]
  rw [hat] at hall
  have h2 := lc_map (t := tgName 4) (f := E_is_order_2) (μ := μ) (ρ := [some (.tup (ilD ks)), some (.int (many : Nat)), none, none, none]) (en := fun i : Nat => D.int (i : Int)) (g := fun i : Nat => .bl (decide ((i : Int) ∈ ks))) (xs := List.range many) (sl_le (by rw [List.length_range]; omega)) fun i hi => ⟨_, rfl, by
    have := in_ints (i := (i : Int)) (l := ks) (μ := μ)
    unfold E_is_order_2
    simp [this]⟩
  have hall2 := bi_all (μ := μ) (p := fun i : Nat => decide ((i : Int) ∈ ks)) (l := List.range many)
  have hat2 : (List.range many).all (fun i : Nat => decide ((i : Int) ∈ ks)) = true := by
    rw [List.all_eq_true]
    intro i hi
    exact decide_eq_true (ha i (by simpa using hi))
  rw [hat2] at hall2
  unfold G_is_order
  simp only [ilD] at *
  simp [N_is_order, ← har, ht, hl, h, hall, rng_nat (μ := μ) (show many ≤ 100 by omega), h2, hall2]
structure PnOk (P : Pn) (cs : List Cl) : Prop where
  two : 2 ≤ P.sl.length
  three : P.sl.length ≤ 3
  sl : ∀ p ∈ P.sl, 0 ≤ p.1 ∧ p.1 ≤ p.2 ∧ p.2 ≤ 20
  rn : P.rl.length ≤ 3
  rl : ∀ r ∈ P.rl, RlOk P.sl.length r
  cn : cs.length ≤ 2
  ce : P.cells = cs.map clD
  cl : ∀ (i : Nat) (c : Cl), cs[i]? = some c → ClOk P.sl.length (P.sl.length + i) c
  kl : P.keeps.length = P.sl.length
  kr : ∀ z ∈ P.keeps, 0 ≤ z ∧ z < P.sl.length
  ka : ∀ i : Nat, i < P.sl.length → (i : Int) ∈ P.keeps
theorem run_is_shaped {P : Pn} {cs : List Cl} (μ : Store) (O : PnOk P cs) : F_is_shaped.run [pnD P] μ = .ok (.bl true) μ := by
  show runF N_is_shaped G_is_shaped [pnD P] μ = _
  refine runF_rt ?_ rfl
  have har : (3 : Nat) = F_is_tuple.ar := rfl
  have har1 : (1 : Nat) = F_is_slider.ar := rfl
  have har2 : (2 : Nat) = F_is_rule.ar := rfl
  have har3 : (2 : Nat) = F_is_order.ar := rfl
  have har4 : (3 : Nat) = F_is_cell.ar := rfl
  have o2 := O.two
  have o3 := O.three
  have t1 := run_is_tuple (ds := [.tup (P.sl.map slD), .tup (P.rl.map rlD), .tup P.cells, .tup (ilD P.keeps)]) (lo := 4) (hi := 4) μ
  have t2 := run_is_tuple (ds := P.sl.map slD) (lo := 2) (hi := 3) μ
  have t3 := run_is_tuple (ds := P.rl.map rlD) (lo := 0) (hi := 3) μ
  have t4 := run_is_tuple (ds := P.cells) (lo := 0) (hi := 2) μ
  have hk := run_is_order μ O.kl (by omega) O.kr O.ka
  have hcl : P.cells.length = cs.length := by rw [O.ce, List.length_map]
  have hcn := O.cn
  have hrn := O.rn
  have h1 := lc_map (t := tgName 7) (f := E_is_shaped_1) (μ := μ) (ρ := [some (pnD P), none, none, none, none, none, none, none, none, none, none]) (en := slD) (g := fun _ => .bl ((fun _ : Int × Int => true) (0, 0))) (xs := P.sl) (sl_le (by omega)) fun p hp => ⟨_, rfl, by
    obtain ⟨a, b, c⟩ := O.sl p hp
    have := run_is_slider μ a b c
    unfold E_is_shaped_1
    simp [← har1, this]⟩
  have b1 := bi_all (μ := μ) (p := fun _ : Int × Int => true) (l := P.sl)
  have h2 := lc_map (t := tgName 8) (f := E_is_shaped_2) (μ := μ) (ρ := [some (pnD P), some (.tup (P.sl.map slD)), some (.tup (P.rl.map rlD)), some (.tup P.cells), some (.tup (ilD P.keeps)), some (.int (P.sl.length : Nat)), none, none, none, none, none]) (en := rlD) (g := fun _ => .bl ((fun _ : Rl => true) ([], false, 0))) (xs := P.rl) (sl_le (by omega)) fun r hr => ⟨_, rfl, by
    have := run_is_rule μ (O.rl r hr) o2 (by omega)
    unfold E_is_shaped_2
    simp [← har2, this]⟩
  have b2 := bi_all (μ := μ) (p := fun _ : Rl => true) (l := P.rl)
  have he : enumD P.cells = (cs.zipIdx 0).map fun p => .tup [.int (p.2 : Nat), clD p.1] := by rw [O.ce]; exact enum_map (en := clD)
  have h3 := lc_map (t := tgTup 2 (tgCons (tgName 9) (tgCons (tgName 10) tgNil))) (f := E_is_shaped_3) (μ := μ) (ρ := [some (pnD P), some (.tup (P.sl.map slD)), some (.tup (P.rl.map rlD)), some (.tup P.cells), some (.tup (ilD P.keeps)), some (.int (P.sl.length : Nat)), none, none, none, none, none]) (en := fun p : Cl × Nat => .tup [.int (p.2 : Nat), clD p.1]) (g := fun _ => .bl ((fun _ : Cl × Nat => true) (.sum [], 0))) (xs := cs.zipIdx 0) (sl_le (by rw [List.length_zipIdx]; omega)) fun p hp => by
    obtain ⟨c, i⟩ := p
    have hi : cs[i]? = some c := List.mem_zipIdx_iff_getElem?.mp hp
    refine ⟨[some (pnD P), some (.tup (P.sl.map slD)), some (.tup (P.rl.map rlD)), some (.tup P.cells), some (.tup (ilD P.keeps)), some (.int (P.sl.length : Nat)), none, none, none, some (.int (i : Nat)), some (clD c)], by simp, ?_⟩
    have := run_is_cell μ (O.cl i c hi) o2 (by omega)
    have hcast : ((P.sl.length + i : Nat) : Int) = (P.sl.length : Int) + (i : Int) := by omega
    rw [hcast] at this
    unfold E_is_shaped_3
    simp [← har4, this]
  have b3 := bi_all (μ := μ) (p := fun _ : Cl × Nat => true) (l := cs.zipIdx 0)
  have a1 : P.sl.all (fun _ => true) = true := by simp
  have a2 : P.rl.all (fun _ => true) = true := by simp
  have a3 : (cs.zipIdx 0).all (fun _ => true) = true := by simp
  rw [a1] at b1
  rw [a2] at b2
  rw [a3] at b3
  show G_is_shaped [some (pnD P), none, none, none, none, none, none, none, none, none, none] μ = _
  unfold G_is_shaped
  unfold pnD at h1 h2 h3 ⊢
  simp only [ilD] at *
  have c1 : (2 : Int) ≤ (P.sl.length : Nat) := by omega
  have c2 : ((P.sl.length : Nat) : Int) ≤ 3 := by omega
  have c3 : ((P.rl.length : Nat) : Int) ≤ 3 := by omega
  have c4 : ((P.cells.length : Nat) : Int) ≤ 2 := by omega
  simp [-List.map_const, -List.map_const', -List.map_const_fun, ← har, ← har3, t1, t2, t3, t4, c1, c2, c3, c4, h1, b1, h2, b2, hk, he, h3, b3]
end K14

set_option Elab.async false
set_option linter.all false
set_option maxRecDepth 100000
namespace Lite
open PySem L2
section
variable {μ : Store}
theorem asInts_map : ∀ l : List Int, asInts (l.map .int) = some l
  | [] => rfl
  | b :: l => by show (asInts (l.map .int)).map (b :: ·) = _; rw [asInts_map l]; rfl
theorem bi_sum {l : List Int} : biSum [.lst (l.map .int)] μ = .ok (.int l.sum) μ := by
  show (match (seeLst (.lst (l.map D.int)) μ).bind fun ds => (asInts ds).map fun ns => D.int ns.sum with
    | some r => R.ok r μ
    | none => R.no) = _
  have e3 : seeLst (.lst (l.map D.int)) μ = some (l.map D.int) := rfl
  rw [e3, Option.bind_some, asInts_map, Option.map_some]
end
theorem map_mem_zip {A B : Type} {P : A → B → Prop} {xs : List A} {ys : List B} (hl : ys.length = xs.length) (h : ∀ p ∈ xs.zip ys, P p.1 p.2) : ∀ y ∈ ys, ∃ x ∈ xs, P x y := by
  intro y hy
  obtain ⟨k, hk, he⟩ := List.mem_iff_getElem.mp hy
  have hkx : k < xs.length := by omega
  refine ⟨xs[k], List.getElem_mem hkx, ?_⟩
  have := h (xs[k], ys[k]) (by rw [List.mem_iff_getElem]; exact ⟨k, by rw [List.length_zip]; omega, by simp⟩)
  rw [he] at this
  exact this
end Lite
namespace K14
open PySem L2 Lite
structure FacOk (many : Nat) (f : List Int) : Prop where
  len : f.length = many
  rng : ∀ z ∈ f, -2 ≤ z ∧ z ≤ 2
  nz : ∃ z ∈ f, z ≠ 0
theorem run_factors {i many : Nat} {μ : Store} (S : Src i μ) (h2 : 2 ≤ many) (h3 : many ≤ 20) : ∃ f μ', F__law_factors.run [.ref i, .int (many : Nat)] μ = .ok (.tup (ilD f)) μ' ∧ FacOk many f ∧ Step i μ μ' := by
  have har : (2 : Nat) = F__law_of.ar := rfl
  obtain ⟨ys, μ', g1, g2, g3, g4⟩ := lc_src (i := i) (t := tgName 4) (f := E__law_factors_1) (ρ := [some (.ref i), some (.int (many : Nat)), none, none, none]) (en := fun k : Nat => D.int (k : Int)) (dn := D.int) (fun _ z => -2 ≤ z ∧ z ≤ 2) (List.range many) [] μ (sl_le (by simp; omega)) S fun k hk μ1 S1 _ => by
    obtain ⟨d, μ2, e1, e2, e3⟩ := run_of S1 (ds := [.int 0, .int 1, .int 1, .int (-1), .int (-1), .int 2]) (by simp) (by simp) rfl
    obtain ⟨z, rfl, hz⟩ : ∃ z : Int, d = .int z ∧ -2 ≤ z ∧ z ≤ 2 := by
      simp only [List.mem_cons, List.not_mem_nil, or_false] at e2
      rcases e2 with e | e | e | e | e | e <;> exact ⟨_, e, by omega, by omega⟩
    refine ⟨_, z, μ2, rfl, ?_, hz, e3⟩
    unfold E__law_factors_1
    simp [← har, e1]
  rw [List.length_range] at g2
  have hfr : ∀ y ∈ ys, -2 ≤ y ∧ y ≤ 2 := fun y hy => by
    obtain ⟨x, _, h⟩ := map_mem_zip (P := fun (_ : Nat) (z : Int) => -2 ≤ z ∧ z ≤ 2) (by simpa using g2) g3 y hy
    exact h
  have hz := mul_rep (z := 0) (k := many) μ' (by omega)
  have hne := ne_lstI (μ := μ') (a := ys) (b := List.replicate many 0)
  have ht := mul_tup1 (μ := μ') (d := .int 1) (k := (many : Nat)) (by omega) (by omega)
  rw [Int.toNat_natCast] at ht
  have er : List.replicate many (D.int 1) = ilD (List.replicate many 1) := by unfold ilD; rw [List.map_replicate]
  rw [er] at ht
  by_cases q : ys = List.replicate many 0
  · refine ⟨List.replicate many 1, μ', ?_, ⟨by simp, fun z hz => by rw [(List.mem_replicate.mp hz).2]; omega, 1, by rw [List.mem_replicate]; omega, by omega⟩, g4⟩
    rw [show F__law_factors.run = runF N__law_factors G__law_factors from rfl]
    refine runF_step (i := i) ?_ g4 (by show belowL _ _ = true; exact below_ilD)
    rw [decide_eq_true q] at hne
    show G__law_factors [some (.ref i), some (.int (many : Nat)), none, none, none] μ = _
    unfold G__law_factors
    simp only [ilD, List.nil_append] at g1 hz hne ht ⊢
    simp [-List.map_replicate, rng_nat (μ := μ) (show many ≤ 100 by omega), g1, hz, hne, ht]
  · refine ⟨ys, μ', ?_, ⟨g2, hfr, ?_⟩, g4⟩
    · rw [show F__law_factors.run = runF N__law_factors G__law_factors from rfl]
      refine runF_step (i := i) ?_ g4 (by show belowL _ _ = true; exact below_ilD)
      rw [decide_eq_false q] at hne
      show G__law_factors [some (.ref i), some (.int (many : Nat)), none, none, none] μ = _
      unfold G__law_factors
      simp only [ilD, List.nil_append] at g1 hz hne ht ⊢
      simp [-List.map_replicate, rng_nat (μ := μ) (show many ≤ 100 by omega), g1]
      simp [-List.map_replicate, hz, hne]
    · refine Classical.byContradiction fun hn => q ?_
      refine List.eq_replicate_iff.mpr ⟨g2, fun b hb => Classical.byContradiction fun hb0 => hn ⟨b, hb, hb0⟩⟩
end K14

set_option Elab.async false
set_option linter.all false
set_option maxRecDepth 100000
set_option exponentiation.threshold 10000
namespace K14
open PySem L2 Lite LP
theorem bnd_ok : ∀ k, k < 14 → bnd (k + 2) 40 < 2 ^ 170 ∧ bnd (k + 3) 40 < 2 ^ 170 := by decide +kernel
/-- what solution promises of small systems -/
structure Dec (rows : List Row) (many : Nat) (res : Option (List (Int × Int))) : Prop where
  no : res = none → ∀ y, ¬ Feas rows many y
  yes : ∀ l, res = some l → l.length = many ∧ (∀ p ∈ l, 0 < p.2 ∧ part [p.1, p.2] = 1 ∧ Sz 2722 p.1 ∧ Sz 2722 p.2) ∧ Feas rows many (ptOf l)
structure RowsOk (rows : List Row) (many : Nat) : Prop where
  len : ∀ r ∈ rows, r.1.length = many + 1
  sm : ∀ r ∈ rows, ∀ z ∈ r.1, z.natAbs ≤ 40
  n : rows.length ≤ 13
theorem solve {rows : List Row} {many : Nat} (μ : Store) (R : RowsOk rows many) (hm : many ≤ 3) : ∃ res, F_solution.run [.lst (rows.map rwD), .int (many : Nat)] μ = .ok (solD res) μ ∧ Dec rows many res := by
  have hn := R.n
  obtain ⟨b1, b2⟩ := bnd_ok rows.length (by omega)
  obtain ⟨res, h1, h2, h3⟩ := run_solution (w := 170) μ R.len (by decide : 1 ≤ 40) R.sm (by omega) (by omega) b1 b2 (by omega) (by omega)
  refine ⟨res, h1, h2, fun l hl => ?_⟩
  obtain ⟨a, b, c⟩ := h3 l hl
  refine ⟨a, fun p hp => ?_, c⟩
  obtain ⟨p1, p2, p3, p4⟩ := b p hp
  exact ⟨p1, p2, p3.mono (by omega), p4.mono (by omega)⟩
theorem Dec.some {rows : List Row} {many : Nat} {res : Option (List (Int × Int))} (d : Dec rows many res) {y : Nat → Rat} (h : Feas rows many y) : res.isSome = true := by
  cases e : res with
  | none => exact absurd h (d.no e y)
  | some l => rfl
theorem unit_le {n k : Nat} : ∀ z ∈ unitL n k, z.natAbs ≤ 1 := fun z hz => by
  unfold unitL at hz
  obtain ⟨i, _, rfl⟩ := List.mem_map.mp hz
  split <;> simp
theorem neg_le {l : List Int} {b : Nat} (h : ∀ z ∈ l, z.natAbs ≤ b) : ∀ z ∈ negL l, z.natAbs ≤ b := fun z hz => by
  unfold negL at hz
  obtain ⟨y, hy, rfl⟩ := List.mem_map.mp hz
  have := h y hy
  omega
theorem neg_len {l : List Int} : (negL l).length = l.length := by unfold negL; rw [List.length_map]
structure RlSm (many : Nat) (r : Rl) : Prop where
  len : r.1.length = many
  sm : ∀ z ∈ r.1, z.natAbs ≤ 40
  bd : r.2.2.natAbs ≤ 40
theorem rows_ok {r : Rl} {many : Nat} (R : RlSm many r) : ∀ q ∈ rowsR r, q.1.length = many + 1 ∧ (∀ z ∈ q.1, z.natAbs ≤ 40) ∧ q.2 = false := by
  have h : (r.1 ++ [-r.2.2]).length = many + 1 := by simp [R.len]
  have h2 : ∀ z ∈ r.1 ++ [-r.2.2], z.natAbs ≤ 40 := fun z hz => by
    rcases List.mem_append.mp hz with q | q
    · exact R.sm z q
    · have := R.bd
      have e : z = -r.2.2 := by simpa using q
      omega
  intro q hq
  unfold rowsR at hq
  rcases List.mem_cons.mp hq with e | hq
  · subst e
    exact ⟨by show (negL _).length = _; rw [neg_len, h], neg_le h2, rfl⟩
  · split at hq
    · have e : q = (r.1 ++ [-r.2.2], false) := by simpa using hq
      subst e
      exact ⟨h, h2, rfl⟩
    · cases hq
theorem sl_sm {sl : List (Int × Int)} (h : ∀ p ∈ sl, 0 ≤ p.1 ∧ p.1 ≤ p.2 ∧ p.2 ≤ 20) : ∀ r ∈ slRules sl, RlSm sl.length r := fun r hr => by
  unfold slRules at hr
  obtain ⟨l, hl, hrl⟩ := List.mem_flatten.mp hr
  obtain ⟨⟨p, k⟩, hp, rfl⟩ := List.mem_map.mp hl
  have hp2 : p ∈ sl := List.mem_of_getElem? (List.mem_zipIdx_iff_getElem?.mp hp)
  obtain ⟨a, b, c⟩ := h p hp2
  unfold slR at hrl
  rcases List.mem_cons.mp hrl with e | hrl
  · subst e
    exact ⟨by show (negL _).length = _; rw [neg_len, unit_len], fun z hz => Nat.le_trans (neg_le unit_le z hz) (by omega), by show (-p.1).natAbs ≤ 40; omega⟩
  · have e : r = (unitL sl.length k, false, p.2) := by simpa using hrl
    subst e
    exact ⟨unit_len, fun z hz => Nat.le_trans (unit_le z hz) (by omega), by show p.2.natAbs ≤ 40; omega⟩
theorem all_sm {P : Pn} {cs : List Cl} (O : PnOk P cs) : ∀ r ∈ allR P, RlSm P.sl.length r := fun r hr => by
  unfold allR at hr
  rcases List.mem_append.mp hr with h | h
  · exact sl_sm O.sl r h
  · have q := O.rl r h
    exact ⟨q.len, fun z hz => by have := q.rng z hz; omega, by have := q.lo; have := q.hi; omega⟩
theorem rowsP_len {P : Pn} : ∀ (l : List Rl), ((l.map rowsR).flatten).length ≤ 2 * l.length
  | [] => by simp
  | r :: l => by
    have := rowsP_len (P := P) l
    have := rowsR_len r
    rw [List.map_cons, List.flatten_cons, List.length_append, List.length_cons]
    omega
theorem slrows_len : ∀ (xs : List (Int × Int)) (k n : Nat), (((((xs.zipIdx k).map (slR n)).flatten).map rowsR).flatten).length = 2 * xs.length
  | [], _, _ => rfl
  | x :: xs, k, n => by
    rw [List.zipIdx_cons, List.map_cons, List.flatten_cons, List.map_append, List.flatten_append, List.length_append, slrows_len xs (k + 1) n]
    show (((slR n (x, k)).map rowsR).flatten).length + _ = _
    have : (((slR n (x, k)).map rowsR).flatten).length = 2 := rfl
    rw [this, List.length_cons]; omega
theorem panel_rows_ok {P : Pn} {cs : List Cl} (O : PnOk P cs) : (∀ q ∈ rowsP P, q.1.length = P.sl.length + 1 ∧ (∀ z ∈ q.1, z.natAbs ≤ 40) ∧ q.2 = false) ∧ (rowsP P).length ≤ 12 := by
  refine ⟨fun q hq => ?_, ?_⟩
  · unfold rowsP at hq
    obtain ⟨l, hl, hql⟩ := List.mem_flatten.mp hq
    obtain ⟨r, hr, rfl⟩ := List.mem_map.mp hl
    exact rows_ok (all_sm O r hr) q hql
  · unfold rowsP allR
    rw [List.map_append, List.flatten_append, List.length_append]
    have h1 : (((slRules P.sl).map rowsR).flatten).length = 2 * P.sl.length := slrows_len P.sl 0 P.sl.length
    have h2 := rowsP_len (P := P) P.rl
    have h3 := O.three
    have h4 := O.rn
    omega
theorem run_is_good {P : Pn} {cs : List Cl} (μ : Store) (O : PnOk P cs) {y : Nat → Rat} (hy : Feas (rowsP P) P.sl.length y) : F_is_good.run [pnD P] μ = .ok (.bl true) μ := by
  show runF N_is_good G_is_good [pnD P] μ = _
  refine runF_rt ?_ rfl
  obtain ⟨h1, h2⟩ := panel_rows_ok O
  have o3 := O.three
  obtain ⟨res, hs, hd⟩ := solve (rows := rowsP P) (many := P.sl.length) μ ⟨fun r hr => (h1 r hr).1, fun r hr => (h1 r hr).2.1, by omega⟩ o3
  have hc := run_can_hold μ hs
  rw [hd.some hy] at hc
  have hp := run_panel_rows P μ (by omega : P.sl.length ≤ 20) (by omega) (by have := O.rn; omega) fun r hr => (all_sm O r hr).len
  have hsh := run_is_shaped μ O
  have har : (1 : Nat) = F_is_shaped.ar := rfl
  have har2 : (2 : Nat) = F_can_hold.ar := rfl
  have har3 : (3 : Nat) = F_panel_rows.ar := rfl
  unfold G_is_good
  unfold pnD at hp hsh ⊢
  simp [N_is_good, ← har, ← har2, ← har3, hsh, hp, hc]
theorem run_need_panel {P : Pn} {cs : List Cl} (μ : Store) (O : PnOk P cs) {y : Nat → Rat} (hy : Feas (rowsP P) P.sl.length y) : F_need_panel.run [pnD P] μ = .ok .non μ := by
  show runF N_need_panel G_need_panel [pnD P] μ = _
  have hg := run_is_good μ O hy
  have har : (1 : Nat) = F_is_good.ar := rfl
  refine runF_nx (ρ := [some (pnD P)]) ?_
  unfold G_need_panel
  simp [N_need_panel, ← har, hg]
end K14

set_option Elab.async false
set_option linter.all false
set_option maxRecDepth 100000
namespace K14
open PySem L2 Lite LP
theorem run_need_panels {P Q : Pn} {cs ds : List Cl} (μ : Store) (O : PnOk P cs) (O2 : PnOk Q ds) {y z : Nat → Rat} (hy : Feas (rowsP P) P.sl.length y) (hz : Feas (rowsP Q) Q.sl.length z) :
    F_need_panels.run [pnD P, pnD Q] μ = if P.sl.length = Q.sl.length then .ok .non μ else .exc "Unlike" [] μ := by
  show runF N_need_panels G_need_panels [pnD P, pnD Q] μ = _
  have h1 := run_need_panel μ O hy
  have h2 := run_need_panel μ O2 hz
  have har : (1 : Nat) = F_need_panel.ar := rfl
  by_cases e : P.sl.length = Q.sl.length
  · rw [if_pos e]
    refine runF_nx (ρ := [some (pnD P), some (pnD Q)]) ?_
    unfold G_need_panels
    unfold pnD at h1 h2 ⊢
    simp [N_need_panels, ← har, h1, h2, e]
  · rw [if_neg e]
    refine runF_ex (ρ := [some (pnD P), some (pnD Q)]) ?_
    have e2 : ¬ ((P.sl.length : Int) = (Q.sl.length : Int)) := by omega
    unfold G_need_panels
    unfold pnD at h1 h2 ⊢
    simp [N_need_panels, ← har, h1, h2, e]
    omega
/-- a panel's rows with one row broken -/
def brk (rows : List Row) (q : Row) : List Row := rows ++ [(negL q.1, true)]
theorem brk_ok {rows : List Row} {many : Nat} {q : Row} (h : ∀ r ∈ rows, r.1.length = many + 1 ∧ (∀ z ∈ r.1, z.natAbs ≤ 40) ∧ r.2 = false) (hn : rows.length ≤ 12) (hq : q.1.length = many + 1 ∧ (∀ z ∈ q.1, z.natAbs ≤ 40) ∧ q.2 = false) : RowsOk (brk rows q) many := by
  refine ⟨fun r hr => ?_, fun r hr => ?_, by unfold brk; rw [List.length_append]; simp; omega⟩
  · unfold brk at hr
    rcases List.mem_append.mp hr with a | a
    · exact (h r a).1
    · have e : r = (negL q.1, true) := by simpa using a
      subst e
      show (negL q.1).length = _
      rw [neg_len]; exact hq.1
  · unfold brk at hr
    rcases List.mem_append.mp hr with a | a
    · exact (h r a).2.1
    · have e : r = (negL q.1, true) := by simpa using a
      subst e
      exact neg_le hq.2.1
/-- the answer of broken_rows and of outside_rows over some rows -/
structure Brk (rows cand : List Row) (many : Nat) (μ : Store) (o : Option (List Row)) : Prop where
  no : o = none → ∀ q ∈ cand, ∀ y, ¬ Feas (brk rows q) many y
  yes : ∀ m, o = some m → ∃ q ∈ cand, m = brk rows q ∧ ∃ l, F_solution.run [.lst (m.map rwD), .int (many : Nat)] μ = .ok (solD (some l)) μ ∧ Dec m many (some l)
def rwsD : Option (List Row) → D
  | none => .non
  | some m => .lst (m.map rwD)
theorem run_broken_rows {rows : List Row} {r : Rl} {many : Nat} (μ : Store) (h0 : 0 < many) (hm : many ≤ 3) (h : ∀ q ∈ rows, q.1.length = many + 1 ∧ (∀ z ∈ q.1, z.natAbs ≤ 40) ∧ q.2 = false) (hn : rows.length ≤ 12) (hr : RlSm many r) :
    ∃ o, F_broken_rows.run [.lst (rows.map rwD), rlD r, .int (many : Nat)] μ = .ok (rwsD o) μ ∧ Brk rows (rowsR r) many μ o := by
  have hrr := run_rule_rows (r := r) (many := many) μ hr.len (by omega)
  have har : (3 : Nat) = F_rule_rows.ar := rfl
  have har2 : (2 : Nat) = F_fits.ar := rfl
  have hq := rows_ok hr
  -- the loop
  have hloop : ∀ (cand : List Row), (∀ q ∈ cand, q.1.length = many + 1 ∧ (∀ z ∈ q.1, z.natAbs ≤ 40) ∧ q.2 = false) → ∀ (d3 d4 d5 : Option D), ∃ o, Brk rows cand many μ o ∧
      ((o = none ∧ ∃ e3 e4 e5, forGo (tgTup 2 (tgCons (tgName 3) (tgCons (tgName 4) tgNil))) B_broken_rows_2 [] (cand.map rwD) [some (.lst (rows.map rwD)), some (rlD r), some (.int (many : Nat)), d3, d4, d5, none, none] μ = .nx [some (.lst (rows.map rwD)), some (rlD r), some (.int (many : Nat)), e3, e4, e5, none, none] μ) ∨
       (o ≠ none ∧ forGo (tgTup 2 (tgCons (tgName 3) (tgCons (tgName 4) tgNil))) B_broken_rows_2 [] (cand.map rwD) [some (.lst (rows.map rwD)), some (rlD r), some (.int (many : Nat)), d3, d4, d5, none, none] μ = .rt (rwsD o) μ)) := by
    intro cand
    induction cand with
    | nil => exact fun _ d3 d4 d5 => ⟨none, ⟨fun _ q hq => by simp at hq, fun m hm => by simp at hm⟩, .inl ⟨rfl, d3, d4, d5, by simp⟩⟩
    | cons q cand ih =>
      intro hc d3 d4 d5
      have hq0 := hc q (by simp)
      obtain ⟨res, hs, hd⟩ := solve (rows := brk rows q) (many := many) μ (brk_ok h hn hq0) hm
      have hf := run_fits μ h0 hs
      have hl := lc_map (t := tgName 7) (f := E_broken_rows_1) (μ := μ) (ρ := [some (.lst (rows.map rwD)), some (rlD r), some (.int (many : Nat)), some (.tup (ilD q.1)), some (.bl q.2), d5, none, none]) (en := D.int) (g := fun z : Int => .int (-z)) (xs := q.1) (sl_le (by omega)) fun z hz => ⟨_, rfl, by unfold E_broken_rows_1; simp⟩
      have e1 : q.1.map (fun z : Int => D.int (-z)) = ilD (negL q.1) := by unfold negL ilD; rw [List.map_map]; rfl
      rw [e1] at hl
      have aa := add_lst (μ := μ) (ds := rows.map rwD) (es := [rwD (negL q.1, true)]) (sl_le (by rw [List.length_map]; simp; omega))
      have e2 : rows.map rwD ++ [rwD (negL q.1, true)] = (brk rows q).map rwD := by unfold brk; rw [List.map_append]; rfl
      rw [e2] at aa
      have e3 : rwD (negL q.1, true) = .tup [.tup (ilD (negL q.1)), .bl true] := rfl
      rw [e3] at aa
      have hbody : B_broken_rows_2 [some (.lst (rows.map rwD)), some (rlD r), some (.int (many : Nat)), some (.tup (ilD q.1)), some (.bl q.2), d5, none, none] μ
          = if res.isSome = true then .rt (.lst ((brk rows q).map rwD)) μ else .nx [some (.lst (rows.map rwD)), some (rlD r), some (.int (many : Nat)), some (.tup (ilD q.1)), some (.bl q.2), some (.lst ((brk rows q).map rwD)), none, none] μ := by
        unfold B_broken_rows_2
        simp only [ilD] at *
        simp [hl, aa, ← har2, hf]
      have htg : tgTup 2 (tgCons (tgName 3) (tgCons (tgName 4) tgNil)) (rwD q) [some (.lst (rows.map rwD)), some (rlD r), some (.int (many : Nat)), d3, d4, d5, none, none] μ = some [some (.lst (rows.map rwD)), some (rlD r), some (.int (many : Nat)), some (.tup (ilD q.1)), some (.bl q.2), d5, none, none] := by
        unfold rwD; simp
      cases hres : res with
      | some l =>
        rw [hres] at hbody hs hd
        refine ⟨some (brk rows q), ⟨fun e => by simp at e, fun m hm => ?_⟩, .inr ⟨by simp, ?_⟩⟩
        · have e : brk rows q = m := Option.some.inj hm
          subst e
          exact ⟨q, by simp, rfl, l, hs, hd⟩
        · rw [List.map_cons, forGo_rt htg (hbody.trans rfl)]; rfl
      | none =>
        rw [hres] at hbody hd
        obtain ⟨o, hB, hO⟩ := ih (fun q hq => hc q (by simp [hq])) (some (.tup (ilD q.1))) (some (.bl q.2)) (some (.lst ((brk rows q).map rwD)))
        have hstep := forGo_nx (ds := cand.map rwD) htg (hbody.trans rfl)
        refine ⟨o, ⟨fun e p hp y => ?_, fun m hm => ?_⟩, ?_⟩
        · rcases List.mem_cons.mp hp with a | a
          · rw [a]; exact hd.no rfl y
          · exact hB.no e p a y
        · obtain ⟨p, hp, a⟩ := hB.yes m hm
          exact ⟨p, by simp [hp], a⟩
        · rw [List.map_cons, hstep]
          exact hO
  obtain ⟨o, hB, hO⟩ := hloop (rowsR r) hq none none none
  refine ⟨o, ?_, hB⟩
  show runF N_broken_rows G_broken_rows [.lst (rows.map rwD), rlD r, .int (many : Nat)] μ = _
  have hbel : below μ.length (rwsD o) = true := by cases o with
    | none => rfl
    | some m => exact below_rw
  refine runF_rt ?_ hbel
  show G_broken_rows [some (.lst (rows.map rwD)), some (rlD r), some (.int (many : Nat)), none, none, none, none, none] μ = _
  unfold G_broken_rows
  rcases hO with ⟨e, e3, e4, e5, hg⟩ | ⟨e, hg⟩
  · subst e
    simp [← har, hrr, hg, rwsD]
  · simp [← har, hrr, hg]
end K14

set_option Elab.async false
set_option linter.all false
set_option maxRecDepth 100000
namespace K14
open PySem L2 Lite LP
theorem run_outside_rows {P Q : Pn} {cs ds : List Cl} (μ : Store) (O : PnOk P cs) (O2 : PnOk Q ds) (he : Q.sl.length = P.sl.length) :
    ∃ o, F_outside_rows.run [pnD P, pnD Q] μ = .ok (rwsD o) μ ∧ Brk (rowsP P) (rowsP Q) P.sl.length μ o := by
  have o2 := O.two
  have o3 := O.three
  obtain ⟨hrows, hrl⟩ := panel_rows_ok O
  have hp := run_panel_rows P μ (by omega : P.sl.length ≤ 20) (by omega) (by have := O.rn; omega) fun r hr => (all_sm O r hr).len
  have ha := run_all_rules Q μ (by omega) (by have := O2.rn; omega)
  have har : (3 : Nat) = F_panel_rows.ar := rfl
  have har2 : (1 : Nat) = F_all_rules.ar := rfl
  have har3 : (3 : Nat) = F_broken_rows.ar := rfl
  have hloop : ∀ (rl : List Rl), (∀ r ∈ rl, RlSm P.sl.length r) → ∀ (d4 d5 : Option D), ∃ o, Brk (rowsP P) ((rl.map rowsR).flatten) P.sl.length μ o ∧
      ((o = none ∧ ∃ e4 e5, forGo (tgName 4) B_outside_rows_1 [] (rl.map rlD) [some (pnD P), some (pnD Q), some (.int (P.sl.length : Nat)), some (.lst ((rowsP P).map rwD)), d4, d5] μ = .nx [some (pnD P), some (pnD Q), some (.int (P.sl.length : Nat)), some (.lst ((rowsP P).map rwD)), e4, e5] μ) ∨
       (o ≠ none ∧ forGo (tgName 4) B_outside_rows_1 [] (rl.map rlD) [some (pnD P), some (pnD Q), some (.int (P.sl.length : Nat)), some (.lst ((rowsP P).map rwD)), d4, d5] μ = .rt (rwsD o) μ)) := by
    intro rl
    induction rl with
    | nil => exact fun _ d4 d5 => ⟨none, ⟨fun _ q hq => by simp at hq, fun m hm => by simp at hm⟩, .inl ⟨rfl, d4, d5, by simp⟩⟩
    | cons r rl ih =>
      intro hr d4 d5
      obtain ⟨o1, h1, hB1⟩ := run_broken_rows (rows := rowsP P) (r := r) (many := P.sl.length) μ (by omega) o3 hrows hrl (hr r (by simp))
      have hbody : B_outside_rows_1 [some (pnD P), some (pnD Q), some (.int (P.sl.length : Nat)), some (.lst ((rowsP P).map rwD)), some (rlD r), d5] μ
          = if o1.isSome = true then .rt (rwsD o1) μ else .nx [some (pnD P), some (pnD Q), some (.int (P.sl.length : Nat)), some (.lst ((rowsP P).map rwD)), some (rlD r), some (rwsD o1)] μ := by
        unfold B_outside_rows_1
        simp [← har3, h1]
        cases o1 <;> simp [rwsD, isNon]
      have htg : tgName 4 (rlD r) [some (pnD P), some (pnD Q), some (.int (P.sl.length : Nat)), some (.lst ((rowsP P).map rwD)), d4, d5] μ = some [some (pnD P), some (pnD Q), some (.int (P.sl.length : Nat)), some (.lst ((rowsP P).map rwD)), some (rlD r), d5] := rfl
      cases e : o1 with
      | some m =>
        rw [e] at hbody hB1
        refine ⟨some m, ⟨fun h => by simp at h, fun m' hm => ?_⟩, .inr ⟨by simp, ?_⟩⟩
        · obtain ⟨q, hq, a⟩ := hB1.yes m' hm
          exact ⟨q, by rw [List.map_cons, List.flatten_cons]; exact List.mem_append_left _ hq, a⟩
        · rw [List.map_cons, forGo_rt htg (hbody.trans rfl)]
      | none =>
        rw [e] at hbody hB1
        obtain ⟨o, hB, hO⟩ := ih (fun r hr' => hr r (by simp [hr'])) (some (rlD r)) (some (rwsD none))
        have hstep := forGo_nx (ds := rl.map rlD) htg (hbody.trans rfl)
        refine ⟨o, ⟨fun h p hp2 y => ?_, fun m hm => ?_⟩, ?_⟩
        · rw [List.map_cons, List.flatten_cons] at hp2
          rcases List.mem_append.mp hp2 with a | a
          · exact hB1.no rfl p a y
          · exact hB.no h p a y
        · obtain ⟨p, hp2, a⟩ := hB.yes m hm
          exact ⟨p, by rw [List.map_cons, List.flatten_cons]; exact List.mem_append_right _ hp2, a⟩
        · rw [List.map_cons, hstep]
          exact hO
  obtain ⟨o, hB, hO⟩ := hloop (allR Q) (fun r hr => by rw [← he]; exact all_sm O2 r hr) none none
  refine ⟨o, ?_, hB⟩
  show runF N_outside_rows G_outside_rows [pnD P, pnD Q] μ = _
  have hbel : below μ.length (rwsD o) = true := by cases o with
    | none => rfl
    | some m => exact below_rw
  refine runF_rt ?_ hbel
  show G_outside_rows [some (pnD P), some (pnD Q), none, none, none, none] μ = _
  unfold G_outside_rows
  have hlen : sBi biLen (sCons (sBin opSub1 (sVar 0) (sCon (.int 0))) sNil) [some (pnD P), some (pnD Q), none, none, none, none] μ = .ok (.int (P.sl.length : Nat)) μ := by
    unfold pnD; simp
  rw [ev_seq, ev_asg, hlen]
  rcases hO with ⟨e, e4, e5, hg⟩ | ⟨e, hg⟩
  · subst e
    simp [← har, ← har2, hp, ha, hg, rwsD]
  · simp [← har, ← har2, hp, ha, hg]
theorem run_is_within {P Q : Pn} {cs ds : List Cl} (μ : Store) (O : PnOk P cs) (O2 : PnOk Q ds) (he : Q.sl.length = P.sl.length) :
    ∃ o, F_is_within.run [pnD P, pnD Q] μ = .ok (.bl o.isNone) μ ∧ F_outside_rows.run [pnD P, pnD Q] μ = .ok (rwsD o) μ ∧ Brk (rowsP P) (rowsP Q) P.sl.length μ o := by
  obtain ⟨o, h, hB⟩ := run_outside_rows μ O O2 he
  refine ⟨o, ?_, h, hB⟩
  show runF N_is_within G_is_within [pnD P, pnD Q] μ = _
  refine runF_rt ?_ rfl
  have har : (2 : Nat) = F_outside_rows.ar := rfl
  unfold G_is_within
  simp [N_is_within, ← har, h]
  cases o <;> rfl
end K14

set_option Elab.async false
set_option linter.all false
set_option maxRecDepth 100000
namespace K14
open PySem L2 Lite LP
/-- within and outside of two panels with equally many sliders -/
theorem run_within {P Q : Pn} {cs ds : List Cl} (μ : Store) (O : PnOk P cs) (O2 : PnOk Q ds) (he : P.sl.length = Q.sl.length) {y z : Nat → Rat} (hy : Feas (rowsP P) P.sl.length y) (hz : Feas (rowsP Q) Q.sl.length z) :
    ∃ o : Option (List (Int × Int)), F_within.run [pnD P, pnD Q] μ = .ok (.bl o.isNone) μ ∧
      F_outside.run [pnD P, pnD Q] μ = .ok (match o with | none => .non | some l => .tup (l.map frD)) μ ∧
      (o = none → ∀ q ∈ rowsP Q, ∀ v, ¬ Feas (brk (rowsP P) q) P.sl.length v) ∧
      (∀ l, o = some l → ∃ q ∈ rowsP Q, Dec (brk (rowsP P) q) P.sl.length (some l)) := by
  obtain ⟨o, h1, h2, hB⟩ := run_is_within μ O O2 he.symm
  have hn := run_need_panels μ O O2 hy hz
  rw [if_pos he] at hn
  have har : (2 : Nat) = F_need_panels.ar := rfl
  have har2 : (2 : Nat) = F_is_within.ar := rfl
  have har3 : (2 : Nat) = F_outside_rows.ar := rfl
  have har4 : (2 : Nat) = F_witness.ar := rfl
  have har5 : (2 : Nat) = F_solution.ar := rfl
  have hw : F_within.run [pnD P, pnD Q] μ = .ok (.bl o.isNone) μ := by
    show runF N_within G_within [pnD P, pnD Q] μ = _
    refine runF_rt ?_ rfl
    unfold G_within
    simp [N_within, ← har, ← har2, hn, h1]
  cases e : o with
  | none =>
    rw [e] at h2 hw hB
    refine ⟨none, hw, ?_, fun _ => hB.no rfl, fun l hl => by simp at hl⟩
    show runF N_outside G_outside [pnD P, pnD Q] μ = _
    refine runF_rt ?_ rfl
    unfold G_outside
    simp [N_outside, ← har, ← har3, hn, h2, rwsD, isNon]
  | some m =>
    rw [e] at h2 hw hB
    obtain ⟨q, hq, rfl, l, hs, hd⟩ := hB.yes m rfl
    refine ⟨some l, hw, ?_, fun h => by simp at h, fun l' hl => ⟨q, hq, by rw [← Option.some.inj hl]; exact hd⟩⟩
    have hwit : F_witness.run [.lst ((brk (rowsP P) q).map rwD), .int (P.sl.length : Nat)] μ = .ok (.tup (l.map frD)) μ := by
      show runF N_witness G_witness [.lst ((brk (rowsP P) q).map rwD), .int (P.sl.length : Nat)] μ = _
      refine runF_rt ?_ (by show belowL _ _ = true; exact belowL_map fun p _ => rfl)
      unfold G_witness
      simp [N_witness, ← har5, hs, solD]
    show runF N_outside G_outside [pnD P, pnD Q] μ = _
    refine runF_rt ?_ (by show belowL _ _ = true; exact belowL_map fun p _ => rfl)
    unfold G_outside
    unfold pnD at hn h2 ⊢
    simp [N_outside, ← har, ← har3, ← har4, hn, h2, rwsD, isNon, hwit]
theorem run_within_unlike {P Q : Pn} {cs ds : List Cl} (μ : Store) (O : PnOk P cs) (O2 : PnOk Q ds) (he : ¬ P.sl.length = Q.sl.length) {y z : Nat → Rat} (hy : Feas (rowsP P) P.sl.length y) (hz : Feas (rowsP Q) Q.sl.length z) :
    F_within.run [pnD P, pnD Q] μ = .exc "Unlike" [] μ := by
  have hn := run_need_panels μ O O2 hy hz
  rw [if_neg he] at hn
  have har : (2 : Nat) = F_need_panels.ar := rfl
  show runF N_within G_within [pnD P, pnD Q] μ = _
  refine runF_ex (ρ := [some (pnD P), some (pnD Q)]) ?_
  unfold G_within
  simp [N_within, ← har, hn]
end K14

set_option Elab.async false
set_option linter.all false
set_option maxRecDepth 100000
set_option exponentiation.threshold 10000
namespace K14
open PySem L2 Lite LP
theorem run_is_fraction {p : Int × Int} (μ : Store) (h : 0 < p.2) (h1 : part [p.1, p.2] = 1) : F_is_fraction.run [frD p] μ = .ok (.bl true) μ := by
  show runF N_is_fraction G_is_fraction [frD p] μ = _
  refine runF_rt ?_ rfl
  have ht := run_is_tuple (ds := [.int p.1, .int p.2]) (lo := 2) (hi := 2) μ
  have hd := run_divisor [p.1, p.2] (.tup [.int p.1, .int p.2]) μ (.inr rfl)
  rw [h1] at hd
  have har : (3 : Nat) = F_is_tuple.ar := rfl
  have har2 : (1 : Nat) = F_divisor.ar := rfl
  have hl := lc_map (t := tgName 2) (f := E_is_fraction_1) (μ := μ) (ρ := [some (frD p), none, none]) (en := D.int) (g := fun _ => .bl ((fun _ : Int => true) 0)) (xs := [p.1, p.2]) (sl_le (by simp)) fun z hz => ⟨_, rfl, by unfold E_is_fraction_1; simp⟩
  have hall := bi_all (μ := μ) (p := fun _ : Int => true) (l := [p.1, p.2])
  simp only [List.map_cons, List.map_nil] at hl hall
  have ha : ([p.1, p.2]).all (fun _ => true) = true := by simp
  rw [ha] at hall
  show G_is_fraction [some (frD p), none, none] μ = _
  unfold G_is_fraction
  unfold frD at hl ⊢
  simp [← har, ← har2, ht, hl, hall, h, hd]
/-- a sum so far -/
def sumU : List (Int × (Int × Int)) → Int × Int → Int × Int
  | [], s => s
  | x :: l, s => sumU l (lowP (s.1 * x.2.2 + x.1 * x.2.1 * s.2) (s.2 * x.2.2))
structure SumOk (i : Nat) (s : Int × Int) : Prop where
  pos : 0 < s.2
  n : Sz (2740 * i + 1) s.1
  d : Sz (2740 * i + 1) s.2
structure PairOk (x : Int × (Int × Int)) : Prop where
  f : Sz 6 x.1
  pos : 0 < x.2.2
  n : Sz 2722 x.2.1
  d : Sz 2722 x.2.2
theorem sum_step {i : Nat} {s : Int × Int} {x : Int × (Int × Int)} (hi : i ≤ 2) (S : SumOk i s) (X : PairOk x) (μ : Store) :
    F_plus.run [frD s, frD x.2, .int x.1] μ = .ok (frD (lowP (s.1 * x.2.2 + x.1 * x.2.1 * s.2) (s.2 * x.2.2))) μ ∧ SumOk (i + 1) (lowP (s.1 * x.2.2 + x.1 * x.2.1 * s.2) (s.2 * x.2.2)) := by
  have hden : Sz (2740 * i + 1 + 2722) (s.2 * x.2.2) := S.d.mul X.d
  have hnum : Sz (2740 * i + 1 + 2728 + 1) (s.1 * x.2.2 + x.1 * x.2.1 * s.2) := Sz.add ((S.n.mul X.d).mono (by omega)) (((X.f.mul X.n).mul S.d).mono (by omega))
  have hpos := Int.mul_pos S.pos X.pos
  refine ⟨run_plus (s := 8300) μ S.pos X.pos (S.n.mono (by omega)) (S.d.mono (by omega)) (X.n.mono (by omega)) (X.d.mono (by omega)) (X.f.mono (by omega)) (by omega) (hden.mono (by omega)), low_pos hpos, ?_, ?_⟩
  · exact (low_sz (s := 2740 * (i + 1) + 1) (hnum.mono (by omega)) (hden.mono (by omega))).1
  · exact (low_sz (s := 2740 * (i + 1) + 1) (hnum.mono (by omega)) (hden.mono (by omega))).2
theorem loop_sum (f ps : D) (μ : Store) : ∀ (l : List (Int × (Int × Int))) (i : Nat) (s : Int × Int) (d3 d4 : Option D), i + l.length ≤ 3 → SumOk i s → (∀ x ∈ l, PairOk x) →
    ∃ e3 e4, forGo (tgTup 2 (tgCons (tgName 3) (tgCons (tgName 4) tgNil))) B_sum_of_1 [] (l.map fun x => .tup [.int x.1, frD x.2]) [some f, some ps, some (frD s), d3, d4] μ = .nx [some f, some ps, some (frD (sumU l s)), e3, e4] μ ∧ SumOk (i + l.length) (sumU l s)
  | [], i, s, d3, d4, _, S, _ => ⟨d3, d4, by simp [sumU], S⟩
  | x :: l, i, s, d3, d4, hi, S, hx => by
    have hi' : i + (l.length + 1) ≤ 3 := hi
    obtain ⟨h1, h2⟩ := sum_step (by omega) S (hx x (by simp)) μ
    obtain ⟨e3, e4, h3, h4⟩ := loop_sum f ps μ l (i + 1) (lowP (s.1 * x.2.2 + x.1 * x.2.1 * s.2) (s.2 * x.2.2)) (some (.int x.1)) (some (frD x.2)) (by omega) h2 fun y hy => hx y (by simp [hy])
    refine ⟨e3, e4, ?_, ?_⟩
    · have har : (3 : Nat) = F_plus.ar := rfl
      rw [List.map_cons, forGo_nx (ρ1 := [some f, some ps, some (frD s), some (.int x.1), some (frD x.2)]) (ρ2 := [some f, some ps, some (frD (lowP (s.1 * x.2.2 + x.1 * x.2.1 * s.2) (s.2 * x.2.2))), some (.int x.1), some (frD x.2)]) (μ2 := μ) (by simp) (by unfold B_sum_of_1; simp [← har, h1])]
      exact h3
    · have e : i + (x :: l).length = i + 1 + l.length := by simp; omega
      rw [e]; exact h4
theorem run_sum_of {fs : List Int} {ps : List (Int × Int)} (μ : Store) (hl : (fs.zip ps).length ≤ 3) (hx : ∀ x ∈ fs.zip ps, PairOk x) : F_sum_of.run [.tup (ilD fs), .tup (ps.map frD)] μ = .ok (frD (sumU (fs.zip ps) (0, 1))) μ ∧ SumOk ((fs.zip ps).length) (sumU (fs.zip ps) (0, 1)) := by
  have S0 : SumOk 0 (0, 1) := ⟨by decide, by show (0 : Int).natAbs < 2 ^ 1; decide, by show (1 : Int).natAbs < 2 ^ 1; decide⟩
  obtain ⟨e3, e4, h1, h2⟩ := loop_sum (.tup (ilD fs)) (.tup (ps.map frD)) μ (fs.zip ps) 0 (0, 1) none none (by omega) S0 hx
  rw [Nat.zero_add] at h2
  refine ⟨?_, h2⟩
  show runF N_sum_of G_sum_of [.tup (ilD fs), .tup (ps.map frD)] μ = _
  refine runF_rt ?_ rfl
  have hz := zip_map (en := D.int) (fn := frD) (xs := fs) (ys := ps)
  have e0 : frD (0, 1) = .tup [.int 0, .int 1] := rfl
  rw [e0] at h1
  show G_sum_of [some (.tup (ilD fs)), some (.tup (ps.map frD)), none, none, none] μ = _
  unfold G_sum_of
  simp only [ilD] at *
  simp [hz, h1]
end K14

set_option Elab.async false
set_option linter.all false
set_option maxRecDepth 100000
set_option exponentiation.threshold 10000
namespace K14
open PySem L2 Lite LP
theorem eq_most {b : Bool} {μ : Store} : cmpEq (wdD b) (.str ("most" : PySem.Str)) μ = some (!b) := by
  have h : cmpEq (wdD b) (.str ("most" : PySem.Str)) μ = cmpEq (wdD b) (.str ("most" : PySem.Str)) [] := rfl
  rw [h]
  cases b <;> decide +kernel
/-- whether a rule holds of a sum -/
def holdsU (r : Rl) (s : Int × Int) : Bool := decide (s = (r.2.2, 1)) || (!r.2.1 && decide (s.1 < r.2.2 * s.2))
theorem run_keeps_rule {r : Rl} {ps : List (Int × Int)} (μ : Store) (hb : r.2.2.natAbs ≤ 40) (hl : (r.1.zip ps).length ≤ 3) (hx : ∀ x ∈ r.1.zip ps, PairOk x) : F_keeps_rule.run [rlD r, .tup (ps.map frD)] μ = .ok (.bl (holdsU r (sumU (r.1.zip ps) (0, 1)))) μ := by
  show runF N_keeps_rule G_keeps_rule [rlD r, .tup (ps.map frD)] μ = _
  refine runF_rt ?_ rfl
  obtain ⟨h1, h2⟩ := run_sum_of (fs := r.1) (ps := ps) μ hl hx
  generalize sumU (r.1.zip ps) (0, 1) = s at *
  have hz : Sz 8300 r.2.2 := Nat.lt_of_le_of_lt hb (Nat.lt_of_lt_of_le (by decide : 40 < 2 ^ 6) (Nat.pow_le_pow_right (by omega) (by omega)))
  have hone : Sz 8300 1 := Nat.lt_of_lt_of_le (by decide : (1 : Int).natAbs < 2 ^ 6) (Nat.pow_le_pow_right (by omega) (by omega))
  have hle := run_is_less (a := s.1) (b := s.2) (c := r.2.2) (d := 1) (s := 8300) μ (h2.n.mono (by omega)) (h2.d.mono (by omega)) hz hone (by omega)
  rw [Int.mul_one] at hle
  have har : (2 : Nat) = F_sum_of.ar := rfl
  have har2 : (2 : Nat) = F_is_less.ar := rfl
  have heq := eq_tupI (μ := μ) (a := [s.1, s.2]) (b := [r.2.2, 1])
  have hd : decide ([s.1, s.2] = [r.2.2, 1]) = decide (s = (r.2.2, 1)) := by
    congr 1
    refine propext ⟨fun e => ?_, fun e => by rw [e]⟩
    have a1 : s.1 = r.2.2 ∧ s.2 = 1 := by simpa using e
    exact Prod.ext a1.1 a1.2
  rw [hd] at heq
  show G_keeps_rule [some (rlD r), some (.tup (ps.map frD)), none, none, none, none] μ = _
  unfold G_keeps_rule holdsU
  unfold frD at hle h1 ⊢
  unfold rlD
  simp only [ilD, List.map_cons, List.map_nil] at *
  by_cases q : s = (r.2.2, 1)
  · have hq := decide_eq_true q
    rw [hq] at heq ⊢
    simp [← har, h1, heq]
  · simp [← har, ← har2, h1, heq, q, eq_most, hle]
    cases r.2.1 <;> simp [hle]
end K14

set_option Elab.async false
set_option linter.all false
set_option maxRecDepth 100000
set_option exponentiation.threshold 10000
namespace K14
open PySem L2 Lite LP
structure PsOk (many : Nat) (ps : List (Int × Int)) : Prop where
  len : ps.length = many
  fr : ∀ p ∈ ps, 0 < p.2 ∧ part [p.1, p.2] = 1 ∧ Sz 2722 p.1 ∧ Sz 2722 p.2
theorem pairs_ok {r : Rl} {many : Nat} {ps : List (Int × Int)} (R : RlSm many r) (h : PsOk many ps) : ∀ x ∈ r.1.zip ps, PairOk x := fun x hx => by
  obtain ⟨a, b⟩ := List.of_mem_zip hx
  obtain ⟨p1, p2, p3, p4⟩ := h.fr _ b
  exact ⟨Nat.lt_of_le_of_lt (R.sm _ a) (by decide), p1, p3, p4⟩
theorem run_positions {P : Pn} {cs : List Cl} {ps : List (Int × Int)} (μ : Store) (O : PnOk P cs) (h : PsOk P.sl.length ps) :
    F_are_good_positions.run [pnD P, .tup (ps.map frD)] μ = .ok (.bl ((allR P).all fun r => holdsU r (sumU (r.1.zip ps) (0, 1)))) μ := by
  show runF N_are_good_positions G_are_good_positions [pnD P, .tup (ps.map frD)] μ = _
  refine runF_rt ?_ rfl
  have o3 := O.three
  have hlen := h.len
  have ht := run_is_tuple (ds := ps.map frD) (lo := (P.sl.length : Nat)) (hi := (P.sl.length : Nat)) μ
  have ha := run_all_rules P μ (by omega) (by have := O.rn; omega)
  have har : (3 : Nat) = F_is_tuple.ar := rfl
  have har2 : (1 : Nat) = F_all_rules.ar := rfl
  have har3 : (1 : Nat) = F_is_fraction.ar := rfl
  have har4 : (2 : Nat) = F_keeps_rule.ar := rfl
  have h1 := lc_map (t := tgName 3) (f := E_are_good_positions_1) (μ := μ) (ρ := [some (pnD P), some (.tup (ps.map frD)), none, none, none]) (en := frD) (g := fun _ => .bl ((fun _ : Int × Int => true) (0, 0))) (xs := ps) (sl_le (by omega)) fun p hp => ⟨_, rfl, by
    obtain ⟨p1, p2, _, _⟩ := h.fr p hp
    have := run_is_fraction μ p1 p2
    unfold E_are_good_positions_1
    simp [← har3, this]⟩
  have b1 := bi_all (μ := μ) (p := fun _ : Int × Int => true) (l := ps)
  have a1 : ps.all (fun _ => true) = true := by simp
  rw [a1] at b1
  have h2 := lc_map (t := tgName 4) (f := E_are_good_positions_2) (μ := μ) (ρ := [some (pnD P), some (.tup (ps.map frD)), none, none, none]) (en := rlD) (g := fun r : Rl => .bl (holdsU r (sumU (r.1.zip ps) (0, 1)))) (xs := allR P) (sl_le (by unfold allR; rw [List.length_append, slRules_len]; have := O.rn; omega)) fun r hr => ⟨_, rfl, by
    have R := all_sm O r hr
    have := run_keeps_rule μ R.bd (by rw [List.length_zip]; have := Nat.min_le_right r.1.length ps.length; omega) (pairs_ok R h)
    unfold E_are_good_positions_2
    simp [← har4, this]⟩
  have b2 := bi_all (μ := μ) (p := fun r : Rl => holdsU r (sumU (r.1.zip ps) (0, 1))) (l := allR P)
  have hl0 : (((ps.map frD).length : Nat) : Int) = (P.sl.length : Nat) := by rw [List.length_map, hlen]
  show G_are_good_positions [some (pnD P), some (.tup (ps.map frD)), none, none, none] μ = _
  unfold G_are_good_positions
  unfold pnD at h1 h2 ha ⊢
  simp [-List.map_const, ← har, ← har2, ht, hl0, hlen, h1, b1, ha, h2, b2]
end K14

set_option Elab.async false
set_option linter.all false
set_option maxRecDepth 100000
namespace K14
open PySem L2 Lite LP
theorem run_is_positions {P : Pn} {cs : List Cl} {ps : List (Int × Int)} (μ : Store) (O : PnOk P cs) {y : Nat → Rat} (hy : Feas (rowsP P) P.sl.length y) (h : PsOk P.sl.length ps) :
    F_is_positions.run [pnD P, .tup (ps.map frD)] μ = .ok (.bl ((allR P).all fun r => holdsU r (sumU (r.1.zip ps) (0, 1)))) μ := by
  show runF N_is_positions G_is_positions [pnD P, .tup (ps.map frD)] μ = _
  refine runF_rt ?_ rfl
  have h1 := run_need_panel μ O hy
  have h2 := run_positions μ O h
  have har : (1 : Nat) = F_need_panel.ar := rfl
  have har2 : (2 : Nat) = F_are_good_positions.ar := rfl
  show G_is_positions [some (pnD P), some (.tup (ps.map frD))] μ = _
  unfold G_is_positions
  simp [← har, ← har2, h1, h2]
end K14

set_option Elab.async false
set_option linter.all false
set_option maxRecDepth 100000
namespace K14
open PySem L2 Lite LP
def frR (p : Int × Int) : Rat := (p.1 : Rat) / (p.2 : Rat)
/-- a sum of fractions as a number -/
def totR : List (Int × (Int × Int)) → Rat
  | [] => 0
  | x :: l => (x.1 : Rat) * frR x.2 + totR l
theorem sum_rat : ∀ (l : List (Int × (Int × Int))) (s : Int × Int), 0 < s.2 → (∀ x ∈ l, 0 < x.2.2) → 0 < (sumU l s).2 ∧ frR (sumU l s) = frR s + totR l
  | [], s, hs, _ => ⟨hs, by show frR s = frR s + 0; grind⟩
  | x :: l, s, hs, hx => by
    have hd := hx x (by simp)
    have hp := Int.mul_pos hs hd
    obtain ⟨h1, h2⟩ := sum_rat l (lowP (s.1 * x.2.2 + x.1 * x.2.1 * s.2) (s.2 * x.2.2)) (low_pos hp) fun y hy => hx y (by simp [hy])
    refine ⟨h1, ?_⟩
    show frR (sumU l _) = frR s + ((x.1 : Rat) * frR x.2 + totR l)
    rw [h2]
    have e : frR (lowP (s.1 * x.2.2 + x.1 * x.2.1 * s.2) (s.2 * x.2.2)) = frR s + (x.1 : Rat) * frR x.2 := by
      show ((lowP _ _).1 : Rat) / ((lowP _ _).2 : Rat) = _
      rw [low_rat hp]
      have a1 : (0 : Rat) < (s.2 : Rat) := rlt.mpr hs
      have a2 : (0 : Rat) < (x.2.2 : Rat) := rlt.mpr hd
      have a3 : (0 : Rat) < ((s.2 * x.2.2 : Int) : Rat) := rlt.mpr hp
      refine mul_cancel_left a3 ?_
      rw [div_mul a3, rc_add, rc_mul, rc_mul, rc_mul, rc_mul]
      have d1 := div_mul (a := (s.1 : Rat)) a1
      have d2 := div_mul (a := (x.2.1 : Rat)) a2
      unfold frR
      generalize (s.1 : Rat) / (s.2 : Rat) = u at *
      generalize (x.2.1 : Rat) / (x.2.2 : Rat) = v at *
      rw [← d1, ← d2]
      grind
    rw [e]; grind
end K14

set_option Elab.async false
set_option linter.all false
set_option maxRecDepth 100000
namespace K14
open PySem L2 Lite LP
/-- a rule at whole places -/
def dotI (f spot : List Int) : Int := ((f.zip spot).map fun p => p.1 * p.2).sum
def holdsI (r : Rl) (spot : List Int) : Prop := if r.2.1 then dotI r.1 spot = r.2.2 else dotI r.1 spot ≤ r.2.2
structure RlDr (many : Nat) (spot : List Int) (r : Rl) : Prop where
  ok : RlOk many r
  at_ : holdsI r spot
def opts : List (Int × Int) := [(0, 10), (0, 6), (2, 9), (0, 20)]
theorem run_body4 {i many : Nat} {most : D} {spot : List Int} {sl : D} (h2 : 2 ≤ many) (h3 : many ≤ 20) (hs : ∀ z ∈ spot, 0 ≤ z ∧ z ≤ 20) (hsl : spot.length ≤ 20) {μ : Store} (S : Src i μ) (rl : List Rl) (hrl : ∀ r ∈ rl, RlDr many spot r) (hn : rl.length ≤ 20) (d3 d7 d8 d9 d10 d11 d12 d13 d14 d15 d16 d17 d18 d19 : Option D) :
    ∃ (rl' : List Rl) (e8 e9 e10 : Option D) (μ' : Store), B__law_panel_4 [some (.ref i), some (.int (many : Nat)), some most, d3, some sl, some (.lst (ilD spot)), some (.tup (rl.map rlD)), d7, d8, d9, d10, d11, d12, d13, d14, d15, d16, d17, d18, d19] μ
      = .nx [some (.ref i), some (.int (many : Nat)), some most, d3, some sl, some (.lst (ilD spot)), some (.tup (rl'.map rlD)), d7, e8, e9, e10, d11, d12, d13, d14, d15, d16, d17, d18, d19] μ' ∧ (∀ r ∈ rl', RlDr many spot r) ∧ rl'.length ≤ rl.length + 1 ∧ Step i μ μ' := by
  obtain ⟨f, μ1, f1, f2, f3⟩ := run_factors S h2 h3
  obtain ⟨w, μ2, w1, w2, w3⟩ := run_of (f3.src S) (ds := [.str ("most" : PySem.Str), .str ("most" : PySem.Str), .str ("same" : PySem.Str)]) (by simp) (by simp) rfl
  obtain ⟨b, rfl⟩ : ∃ b, w = wdD b := by
    simp only [List.mem_cons, List.not_mem_nil, or_false] at w2
    rcases w2 with e | e | e
    · exact ⟨false, e⟩
    · exact ⟨false, e⟩
    · exact ⟨true, e⟩
  have S2 := w3.src (f3.src S)
  have har : (2 : Nat) = F__law_factors.ar := rfl
  have har2 : (2 : Nat) = F__law_of.ar := rfl
  have har3 : (2 : Nat) = F__law_draw.ar := rfl
  have hz := zip_map (en := D.int) (fn := D.int) (xs := f) (ys := spot)
  have hc := lc_map (t := tgTup 2 (tgCons (tgName 18) (tgCons (tgName 19) tgNil))) (f := E__law_panel_3) (μ := μ2) (ρ := [some (.ref i), some (.int (many : Nat)), some most, d3, some sl, some (.lst (ilD spot)), some (.tup (rl.map rlD)), d7, some (.tup (ilD f)), some (wdD b), d10, d11, d12, d13, d14, none, d16, d17, none, none]) (en := fun p : Int × Int => .tup [.int p.1, .int p.2]) (g := fun p => .int (p.1 * p.2)) (xs := f.zip spot) (sl_le (by rw [List.length_zip]; have := f2.len; omega)) fun p hp => by
    obtain ⟨ha, hb⟩ := List.of_mem_zip hp
    refine ⟨_, (by simp; rfl), ?_⟩
    have hm := mulZ (μ := μ2) (i := p.1) (j := p.2) (a := 10) (b := 10) (by have := f2.rng _ ha; unfold Sz; omega) (by have := hs _ hb; unfold Sz; omega) (by omega)
    unfold E__law_panel_3
    simp [hm]
  have e1 : (f.zip spot).map (fun p => D.int (p.1 * p.2)) = ((f.zip spot).map fun p => p.1 * p.2).map D.int := by rw [List.map_map]; rfl
  have hsum := bi_sum (μ := μ2) (l := (f.zip spot).map fun p => p.1 * p.2)
  rw [e1] at hc
  generalize hB : B__law_panel_4 = B
  unfold B__law_panel_4 at hB
  have heq := eq_same (b := b) (μ := μ2)
  have hadd : ∀ (c : Int) (μ3 : Store), opAdd (.tup (rl.map rlD)) (.tup [rlD (f, b, c)]) μ3 = .ok (.tup ((rl ++ [(f, b, c)]).map rlD)) μ3 := fun c μ3 => by
    rw [add_tup (sl_le (by rw [List.length_map]; simp; omega)), List.map_append]; rfl
  have hadd0 : ∀ (μ3 : Store), opAdd (.tup (rl.map rlD)) (.tup []) μ3 = .ok (.tup (rl.map rlD)) μ3 := fun μ3 => by
    rw [add_tup (sl_le (by rw [List.length_map]; simp; omega)), List.append_nil]
  have dotE : dotI f spot = ((f.zip spot).map fun p => p.1 * p.2).sum := rfl
  rw [← dotE] at hsum
  -- the bound
  have hbound : ∃ c μ3, sIf (sBin (cmpR cmpEq) (sVar 9) (sCon (.str ("same" : PySem.Str)))) (sVar 10) (sBin opAdd (sVar 10) (sCall F__law_draw (sCons (sVar 0) (sCons (sCon (.int 4)) (sNil))))) [some (.ref i), some (.int (many : Nat)), some most, d3, some sl, some (.lst (ilD spot)), some (.tup (rl.map rlD)), d7, some (.tup (ilD f)), some (wdD b), some (.int (dotI f spot)), d11, d12, d13, d14, d15, d16, d17, d18, d19] μ2 = .ok (.int c) μ3 ∧ holdsI (f, b, c) spot ∧ Step i μ2 μ3 := by
    cases b with
    | true =>
      refine ⟨dotI f spot, μ2, by simp [heq], by unfold holdsI; simp, Step.refl S2⟩
    | false =>
      obtain ⟨r, μ3, r1, r2, r3, r4⟩ := run_draw S2 (m := 4) (by omega) (by omega)
      refine ⟨dotI f spot + r, μ3, by simp [heq, ← har3, r1], by unfold holdsI; simp; omega, r4⟩
  obtain ⟨c, μ3, c1, c2, c3⟩ := hbound
  have St := f3.trans (w3.trans c3)
  by_cases q : -41 < c ∧ c < 41
  · refine ⟨rl ++ [(f, b, c)], some (.tup (ilD f)), some (wdD b), some (.int c), μ3, ?_, ?_, by simp, St⟩
    · subst hB
      have ha := hadd c μ3
      unfold rlD at ha
      simp only [ilD] at *
      simp [-List.map_append, -List.map_map, ← har, ← har2, f1, w1, hz, hc, hsum, -ev_ife]
      rw [c1]
      unfold rlD at *
      simp [-List.map_append, -List.map_map, q.1, q.2, ha]
    · intro r hr
      rcases List.mem_append.mp hr with h | h
      · exact hrl r h
      · have e : r = (f, b, c) := by simpa using h
        subst e
        exact ⟨⟨f2.len, f2.rng, f2.nz, by show -40 ≤ c; omega, by show c ≤ 40; omega⟩, c2⟩
  · refine ⟨rl, some (.tup (ilD f)), some (wdD b), some (.int c), μ3, ?_, hrl, by omega, St⟩
    subst hB
    have ha := hadd0 μ3
    unfold rlD at ha
    simp only [ilD] at *
    simp [-List.map_append, -List.map_map, ← har, ← har2, f1, w1, hz, hc, hsum, -ev_ife]
    rw [c1]
    have hch : (if -41 < c then R.ok (D.bl (decide (c < 41))) μ3 else R.ok (D.bl false) μ3) = .ok (.bl false) μ3 := by
      by_cases q1 : -41 < c
      · have : ¬ c < 41 := fun h => q ⟨q1, h⟩
        simp [q1, this]
      · simp [q1]
    unfold rlD at *
    simp [-List.map_append, -List.map_map, hch, ha]
end K14

set_option Elab.async false
set_option linter.all false
set_option maxRecDepth 100000
namespace K14
open PySem L2 Lite LP
theorem loop4 {i many : Nat} {most : D} {spot : List Int} {sl : D} (h2 : 2 ≤ many) (h3 : many ≤ 20) (hs : ∀ z ∈ spot, 0 ≤ z ∧ z ≤ 20) (hsl : spot.length ≤ 20) (d7 d11 d12 d13 d14 d15 d16 d17 d18 d19 : Option D) : ∀ (xs : List Nat) {μ : Store} (S : Src i μ) (rl : List Rl) (hrl : ∀ r ∈ rl, RlDr many spot r) (hn : rl.length + xs.length ≤ 20) (d3 d8 d9 d10 : Option D),
    ∃ (rl' : List Rl) (e3 e8 e9 e10 : Option D) (μ' : Store), forGo (tgName 3) B__law_panel_4 [] (xs.map fun k : Nat => D.int (k : Int)) [some (.ref i), some (.int (many : Nat)), some most, d3, some sl, some (.lst (ilD spot)), some (.tup (rl.map rlD)), d7, d8, d9, d10, d11, d12, d13, d14, d15, d16, d17, d18, d19] μ
      = .nx [some (.ref i), some (.int (many : Nat)), some most, e3, some sl, some (.lst (ilD spot)), some (.tup (rl'.map rlD)), d7, e8, e9, e10, d11, d12, d13, d14, d15, d16, d17, d18, d19] μ' ∧ (∀ r ∈ rl', RlDr many spot r) ∧ rl'.length ≤ rl.length + xs.length ∧ Step i μ μ'
  | [], μ, S, rl, hrl, hn, d3, d8, d9, d10 => ⟨rl, d3, d8, d9, d10, μ, by simp, hrl, by simp, Step.refl S⟩
  | k :: xs, μ, S, rl, hrl, hn, d3, d8, d9, d10 => by
    have hn' : rl.length + (xs.length + 1) ≤ 20 := hn
    obtain ⟨rl1, a8, a9, a10, μ1, b1, b2, b3, b4⟩ := run_body4 (sl := sl) (most := most) h2 h3 hs hsl S rl hrl (by omega) (some (.int (k : Int))) d7 d8 d9 d10 d11 d12 d13 d14 d15 d16 d17 d18 d19
    obtain ⟨rl2, e3, e8, e9, e10, μ2, c1, c2, c3, c4⟩ := loop4 h2 h3 hs hsl d7 d11 d12 d13 d14 d15 d16 d17 d18 d19 xs (b4.src S) rl1 b2 (by omega) (some (.int (k : Int))) a8 a9 a10
    refine ⟨rl2, e3, e8, e9, e10, μ2, ?_, c2, by simp; omega, b4.trans c4⟩
    rw [List.map_cons, forGo_nx (by rfl) b1]
    exact c1
def ClsOk (many : Nat) (cs : List Cl) : Prop := ∀ (k : Nat) (c : Cl), cs[k]? = some c → ClOk many (many + k) c
theorem ClsOk.snoc {many : Nat} {cs : List Cl} {c : Cl} (h : ClsOk many cs) (hc : ClOk many (many + cs.length) c) : ClsOk many (cs ++ [c]) := fun k d hd => by
  by_cases q : k < cs.length
  · rw [List.getElem?_append_left q] at hd
    exact h k d hd
  · have hk : k < (cs ++ [c]).length := (List.getElem?_eq_some_iff.mp hd).1
    have e : k = cs.length := by rw [List.length_append] at hk; simp at hk; omega
    subst e
    simp at hd
    rw [← hd]; exact hc
theorem run_body5 {i many : Nat} {most : D} {sl sp rls : D} (h2 : 2 ≤ many) (h3 : many ≤ 20) {μ : Store} (S : Src i μ) (cs : List Cl) (hcs : ClsOk many cs) (hn : cs.length ≤ 20) (d8 d9 d10 d11 d12 d13 d14 d15 d16 d17 d18 d19 : Option D) :
    ∃ (c : Cl) (e11 e12 e13 : Option D) (μ' : Store), B__law_panel_5 [some (.ref i), some (.int (many : Nat)), some most, some (.int (cs.length : Nat)), some sl, some sp, some rls, some (.tup (cs.map clD)), d8, d9, d10, d11, d12, d13, d14, d15, d16, d17, d18, d19] μ
      = .nx [some (.ref i), some (.int (many : Nat)), some most, some (.int (cs.length : Nat)), some sl, some sp, some rls, some (.tup ((cs ++ [c]).map clD)), d8, d9, d10, e11, e12, e13, d14, d15, d16, d17, d18, d19] μ' ∧ ClsOk many (cs ++ [c]) ∧ Step i μ μ' := by
  obtain ⟨a, μ1, a1, a2, a3, a4⟩ := run_draw S (m := (many : Int) + (cs.length : Nat)) (by omega) (by omega)
  obtain ⟨b, μ2, b1, b2, b3, b4⟩ := run_draw (a4.src S) (m := (many : Int) + (cs.length : Nat)) (by omega) (by omega)
  have S2 := b4.src (a4.src S)
  obtain ⟨w, μ3, w1, w2, w3⟩ := run_of S2 (ds := [.str ("least" : PySem.Str), .str ("most" : PySem.Str)]) (by simp) (by simp) rfl
  obtain ⟨l, rfl⟩ : ∃ l, w = lwD l := by
    simp only [List.mem_cons, List.not_mem_nil, or_false] at w2
    rcases w2 with e | e
    · exact ⟨true, e⟩
    · exact ⟨false, e⟩
  have S3 := w3.src S2
  obtain ⟨f, μ4, f1, f2, f3⟩ := run_factors S3 h2 h3
  have S4 := f3.src S3
  have hbel : belowL μ4.length [clD (.sum f), clD (.two l a b)] = true := by simp [clD, lwD]
  obtain ⟨d, μ5, d1, d2, d3⟩ := run_of S4 (ds := [clD (.sum f), clD (.two l a b)]) (by simp) (by simp) hbel
  have hc : ∃ c, d = clD c ∧ ClOk many (many + cs.length) c := by
    simp only [List.mem_cons, List.not_mem_nil, or_false] at d2
    rcases d2 with e | e
    · exact ⟨_, e, f2.len, f2.rng, f2.nz⟩
    · exact ⟨_, e, a2, by omega, b2, by omega⟩
  obtain ⟨c, rfl, hc⟩ := hc
  have har : (2 : Nat) = F__law_factors.ar := rfl
  have har2 : (2 : Nat) = F__law_of.ar := rfl
  have har3 : (2 : Nat) = F__law_draw.ar := rfl
  refine ⟨c, some (.int a), some (.int b), some (clD (.two l a b)), μ5, ?_, hcs.snoc hc, a4.trans (b4.trans (w3.trans (f3.trans d3)))⟩
  have ha : opAdd (.tup (cs.map clD)) (.tup [clD c]) μ5 = .ok (.tup ((cs ++ [c]).map clD)) μ5 := by
    rw [add_tup (sl_le (by rw [List.length_map]; simp; omega)), List.map_append]; rfl
  have e1 : clD (.sum f) = .tup [.str ("sum" : PySem.Str), .tup (ilD f)] := rfl
  have e2 : clD (.two l a b) = .tup [lwD l, .int a, .int b] := rfl
  rw [e1, e2] at d1
  rw [e2]
  unfold B__law_panel_5
  simp only [ilD] at *
  simp [-List.map_append, -List.map_map, ← har, ← har2, ← har3, a1, b1, w1, f1, d1, ha]
theorem loop5 {i many : Nat} {most : D} {sl sp rls : D} (h2 : 2 ≤ many) (h3 : many ≤ 20) (d8 d9 d10 d14 d15 d16 d17 d18 d19 : Option D) : ∀ (m : Nat) {μ : Store} (S : Src i μ) (cs : List Cl) (hcs : ClsOk many cs) (hn : cs.length + m ≤ 20) (d3 d11 d12 d13 : Option D),
    ∃ (cs' : List Cl) (e3 e11 e12 e13 : Option D) (μ' : Store), forGo (tgName 3) B__law_panel_5 [] ((List.range' cs.length m).map fun k : Nat => D.int (k : Int)) [some (.ref i), some (.int (many : Nat)), some most, d3, some sl, some sp, some rls, some (.tup (cs.map clD)), d8, d9, d10, d11, d12, d13, d14, d15, d16, d17, d18, d19] μ
      = .nx [some (.ref i), some (.int (many : Nat)), some most, e3, some sl, some sp, some rls, some (.tup (cs'.map clD)), d8, d9, d10, e11, e12, e13, d14, d15, d16, d17, d18, d19] μ' ∧ ClsOk many cs' ∧ cs'.length = cs.length + m ∧ Step i μ μ'
  | 0, μ, S, cs, hcs, hn, d3, d11, d12, d13 => ⟨cs, d3, d11, d12, d13, μ, by simp, hcs, rfl, Step.refl S⟩
  | m + 1, μ, S, cs, hcs, hn, d3, d11, d12, d13 => by
    obtain ⟨c, a11, a12, a13, μ1, b1, b2, b3⟩ := run_body5 (sl := sl) (sp := sp) (rls := rls) (most := most) h2 h3 S cs hcs (by omega) d8 d9 d10 d11 d12 d13 d14 d15 d16 d17 d18 d19
    have hl : (cs ++ [c]).length = cs.length + 1 := by simp
    obtain ⟨cs2, e3, e11, e12, e13, μ2, c1, c2, c3, c4⟩ := loop5 (sl := sl) (sp := sp) (rls := rls) (most := most) h2 h3 d8 d9 d10 d14 d15 d16 d17 d18 d19 m (b3.src S) (cs ++ [c]) b2 (by omega) (some (.int (cs.length : Nat))) a11 a12 a13
    refine ⟨cs2, e3, e11, e12, e13, μ2, ?_, c2, by omega, b3.trans c4⟩
    rw [List.range'_succ, List.map_cons, forGo_nx (by rfl) b1]
    rw [hl] at c1
    exact c1
end K14

set_option Elab.async false
set_option linter.all false
set_option maxRecDepth 100000
namespace Lite
open PySem L2
/-- a source has drawn, and more lists lie behind -/
def Grow (i : Nat) (μ0 μ : Store) : Prop := ∃ μ1 ext, Step i μ0 μ1 ∧ μ = μ1 ++ ext
theorem Grow.refl {i : Nat} {μ : Store} (h : Src i μ) : Grow i μ μ := ⟨μ, [], Step.refl h, by simp⟩
theorem Grow.of {i : Nat} {μ μ' : Store} (h : Step i μ μ') : Grow i μ μ' := ⟨μ', [], h, by simp⟩
theorem Grow.src {i : Nat} {μ0 μ : Store} (h : Src i μ0) (g : Grow i μ0 μ) : Src i μ := by
  obtain ⟨μ1, ext, s, rfl⟩ := g
  obtain ⟨es, he, hs⟩ := s.src h
  exact ⟨es, by rw [List.getElem?_append_left (List.getElem?_eq_some_iff.mp he).1]; exact he, hs⟩
theorem Grow.step {i : Nat} {μ0 μ μ' : Store} (h : Src i μ0) (g : Grow i μ0 μ) (s : Step i μ μ') : Grow i μ0 μ' := by
  obtain ⟨μ1, ext, s1, rfl⟩ := g
  obtain ⟨es, he, rfl⟩ := s
  have hl : i < μ1.length := (s1.src h).lt
  exact ⟨μ1.set i (.lst es), ext, s1.trans ⟨es, he, rfl⟩, by rw [List.set_append_left _ _ hl]⟩
theorem Grow.set {i k : Nat} {μ0 μ : Store} {o : Ob} (g : Grow i μ0 μ) (hk : μ0.length ≤ k) : Grow i μ0 (μ.set k o) := by
  obtain ⟨μ1, ext, s1, rfl⟩ := g
  exact ⟨μ1, ext.set (k - μ1.length) o, s1, by rw [List.set_append_right _ _ (by rw [s1.len]; exact hk)]⟩
theorem Grow.app {i : Nat} {μ0 μ ext : Store} (g : Grow i μ0 μ) : Grow i μ0 (μ ++ ext) := by
  obtain ⟨μ1, e1, s1, rfl⟩ := g
  exact ⟨μ1, e1 ++ ext, s1, by rw [List.append_assoc]⟩
theorem Grow.le {i : Nat} {μ0 μ : Store} (g : Grow i μ0 μ) : μ0.length ≤ μ.length := by
  obtain ⟨μ1, e1, s1, rfl⟩ := g
  rw [List.length_append, s1.len]; omega
theorem runF_grow {N : List Str} {G : SS} {ds : List D} {μ μ2 : Store} {i : Nat} {d : D} (h : G (ds.map some ++ List.replicate (N.length - ds.length) none) μ = .rt d μ2) (g : Grow i μ μ2) (hb : below μ.length d = true) : ∃ μ', runF N G ds μ = .ok d μ' ∧ Step i μ μ' := by
  obtain ⟨μ1, e1, s1, rfl⟩ := g
  exact ⟨μ1, runF_more h s1 hb, s1⟩
section
variable {μ : Store} {ds es : List D} {k : Nat} {r : Int} {d : D}
@[simp] theorem ev_meth {T : String} {o : OpM} {f : SE} {U : SA} {ρ : Lite.Frame} : sMeth T o f U ρ μ = (f ρ μ).bind fun x μ1 => if tyChk T x μ1 then (U ρ μ1).bind fun ds μ2 => o x ds μ2 else .no := by rfl
theorem ty_ref (h : μ[k]? = some (.lst ds)) : tyChk "list" (.ref k) μ = true := by
  unfold tyChk
  have e : see μ (.ref k) = .lst ds := by simp only [see, h]
  rw [e]
  rfl
theorem pop_eq (h : μ[k]? = some (.lst ds)) (h0 : 0 ≤ r) (h1 : r < 2 ^ 62) (hd : ds[r.toNat]? = some d) : opPop (.ref k) [.int r] μ = .ok d (μ.set k (.lst (ds.eraseIdx r.toNat))) := by
  unfold opPop
  simp only [h, hd]
  rw [if_pos ⟨h0, h1⟩]
theorem addM_eq (h : μ[k]? = some (.lst es)) (hl : ds.length + es.length ≤ sizeLine) : opAddM (.lst ds) (.ref k) μ = .ok (.ref μ.length) (μ ++ [.lst (ds ++ es)]) := by
  have e : see μ (.ref k) = .lst es := by simp only [see, h]
  have e2 : see μ (.lst ds) = .lst ds := rfl
  unfold opAddM
  rw [e, e2]
  simp only
  rw [if_pos hl]
theorem tup_ref (h : μ[k]? = some (.lst ds)) : biTuple [.ref k] μ = .ok (.tup ds) μ := by
  have e : see μ (.ref k) = .lst ds := by simp only [see, h]
  unfold biTuple
  simp only [e]
theorem app_eq (h : μ[k]? = some (.lst ds)) (hl : ds.length < sizeLine) : opAppend (.ref k) [d] μ = .ok .non (μ.set k (.lst (ds ++ [d]))) := by
  unfold opAppend
  simp only [h]
  rw [if_pos hl]
end
end Lite
namespace K14
open PySem L2 Lite LP
theorem erase_map {A B : Type} {f : A → B} : ∀ (l : List A) (n : Nat), (l.map f).eraseIdx n = (l.eraseIdx n).map f
  | [], n => by simp
  | x :: l, 0 => rfl
  | x :: l, n + 1 => by simp [List.eraseIdx_cons_succ, erase_map l n]
theorem pop_perm {A : Type} : ∀ (l : List A) (n : Nat) (h : n < l.length), (l[n] :: l.eraseIdx n).Perm l
  | [], n, h => by simp at h
  | x :: l, 0, h => List.Perm.refl _
  | x :: l, n + 1, h => by
    have := pop_perm l n (by simpa using h)
    exact (List.Perm.swap _ _ _).trans (this.cons x)
theorem run_body6 {i many k : Nat} {μ0 μ : Store} (S0 : Src i μ0) (g : Grow i μ0 μ) (hk : μ0.length ≤ k) {ks : List Int} (hks : ks.length = many) (h0 : 0 < many) (h3 : many ≤ 20) (hμ : μ[k]? = some (.lst (ilD ks))) (d2 d3 d4 d5 d6 d7 d8 d9 d10 d11 d12 d13 d15 d16 d17 d18 d19 : Option D) :
    ∃ (ks' : List Int) (k' : Nat) (μ' : Store), B__law_panel_6 [some (.ref i), some (.int (many : Nat)), d2, d3, d4, d5, d6, d7, d8, d9, d10, d11, d12, d13, some (.ref k), d15, d16, d17, d18, d19] μ
      = .nx [some (.ref i), some (.int (many : Nat)), d2, d3, d4, d5, d6, d7, d8, d9, d10, d11, d12, d13, some (.ref k'), d15, d16, d17, d18, d19] μ' ∧ Grow i μ0 μ' ∧ μ0.length ≤ k' ∧ μ'[k']? = some (.lst (ilD ks')) ∧ ks'.Perm ks := by
  obtain ⟨r, μ1, r1, r2, r3, r4⟩ := run_draw (g.src S0) (m := (many : Nat)) (by omega) (by omega)
  have hne : i ≠ k := by have := S0.lt; omega
  have hμ1 : μ1[k]? = some (.lst (ilD ks)) := by rw [r4.other hne]; exact hμ
  have hr : r.toNat < ks.length := by omega
  have hd : (ilD ks)[r.toNat]? = some (.int ks[r.toNat]) := by unfold ilD; rw [List.getElem?_map, List.getElem?_eq_getElem hr]; rfl
  have hp := pop_eq hμ1 r2 (by omega) hd
  have hkl : k < μ1.length := (List.getElem?_eq_some_iff.mp hμ1).1
  have er : (ilD ks).eraseIdx r.toNat = ilD (ks.eraseIdx r.toNat) := by unfold ilD; rw [erase_map]
  rw [er] at hp
  have hμ2 : (μ1.set k (.lst (ilD (ks.eraseIdx r.toNat))))[k]? = some (.lst (ilD (ks.eraseIdx r.toNat))) := List.getElem?_set_self hkl
  have ha := addM_eq (ds := [.int ks[r.toNat]]) hμ2 (sl_le (by simp [ilD]; have := List.length_eraseIdx_le ks r.toNat; omega))
  have hty := ty_ref hμ
  have har3 : (2 : Nat) = F__law_draw.ar := rfl
  have hg : Grow i μ0 (μ1.set k (.lst (ilD (ks.eraseIdx r.toNat)))) := (g.step S0 r4).set hk
  generalize hM : μ1.set k (.lst (ilD (ks.eraseIdx r.toNat))) = M at *
  refine ⟨ks[r.toNat] :: ks.eraseIdx r.toNat, M.length, M ++ [.lst ([.int ks[r.toNat]] ++ ilD (ks.eraseIdx r.toNat))], ?_, hg.app, hg.le, by simp [ilD], pop_perm ks r.toNat hr⟩
  unfold B__law_panel_6
  simp [hty, ← har3, r1, hp, ha]
theorem loop6 {i many : Nat} {μ0 : Store} (S0 : Src i μ0) (h0 : 0 < many) (h3 : many ≤ 20) (d2 d4 d5 d6 d7 d8 d9 d10 d11 d12 d13 d15 d16 d17 d18 d19 : Option D) : ∀ (xs : List Nat) (k : Nat) (μ : Store) (g : Grow i μ0 μ) (hk : μ0.length ≤ k) (ks : List Int) (hks : ks.length = many) (hμ : μ[k]? = some (.lst (ilD ks))) (d3 : Option D),
    ∃ (ks' : List Int) (k' : Nat) (μ' : Store) (e3 : Option D), forGo (tgName 3) B__law_panel_6 [] (xs.map fun k : Nat => D.int (k : Int)) [some (.ref i), some (.int (many : Nat)), d2, d3, d4, d5, d6, d7, d8, d9, d10, d11, d12, d13, some (.ref k), d15, d16, d17, d18, d19] μ
      = .nx [some (.ref i), some (.int (many : Nat)), d2, e3, d4, d5, d6, d7, d8, d9, d10, d11, d12, d13, some (.ref k'), d15, d16, d17, d18, d19] μ' ∧ Grow i μ0 μ' ∧ μ0.length ≤ k' ∧ μ'[k']? = some (.lst (ilD ks')) ∧ ks'.Perm ks
  | [], k, μ, g, hk, ks, hks, hμ, d3 => ⟨ks, k, μ, d3, by simp, g, hk, hμ, List.Perm.refl _⟩
  | x :: xs, k, μ, g, hk, ks, hks, hμ, d3 => by
    obtain ⟨ks1, k1, μ1, b1, b2, b3, b4, b5⟩ := run_body6 S0 g hk hks h0 h3 hμ d2 (some (.int (x : Int))) d4 d5 d6 d7 d8 d9 d10 d11 d12 d13 d15 d16 d17 d18 d19
    obtain ⟨ks2, k2, μ2, e3, c1, c2, c3, c4, c5⟩ := loop6 S0 h0 h3 d2 d4 d5 d6 d7 d8 d9 d10 d11 d12 d13 d15 d16 d17 d18 d19 xs k1 μ1 b2 b3 ks1 (by rw [b5.length_eq]; exact hks) b4 (some (.int (x : Int)))
    refine ⟨ks2, k2, μ2, e3, ?_, c2, c3, c4, c5.trans b5⟩
    rw [List.map_cons, forGo_nx (by rfl) b1]
    exact c1
/-- a drawn panel -/
structure Drawn (many : Nat) (P : Pn) (cs : List Cl) (spot : List Int) (most : Nat) : Prop where
  ok : PnOk P cs
  hm : P.sl.length = many
  opt : ∀ p ∈ P.sl, p ∈ opts
  len : spot.length = many
  hspot : ∀ p ∈ P.sl.zip spot, p.1.1 ≤ p.2 ∧ p.2 ≤ p.1.2
  rls : ∀ r ∈ P.rl, RlDr many spot r
  hmost : P.rl.length ≤ most
theorem perm_order {many : Nat} {ks : List Int} (h : ks.Perm ((List.range many).map fun k : Nat => (k : Int))) : ks.length = many ∧ (∀ z ∈ ks, 0 ≤ z ∧ z < many) ∧ ∀ i : Nat, i < many → (i : Int) ∈ ks := by
  refine ⟨by rw [h.length_eq]; simp, fun z hz => ?_, fun i hi => ?_⟩
  · have := h.mem_iff.mp hz
    obtain ⟨k, hk, rfl⟩ := List.mem_map.mp this
    have := List.mem_range.mp hk
    omega
  · exact h.mem_iff.mpr (List.mem_map.mpr ⟨i, List.mem_range.mpr hi, rfl⟩)
theorem opt_ok {p : Int × Int} (h : p ∈ opts) : 0 ≤ p.1 ∧ p.1 ≤ p.2 ∧ p.2 ≤ 20 := by
  unfold opts at h
  simp only [List.mem_cons, List.not_mem_nil, or_false] at h
  rcases h with rfl | rfl | rfl | rfl <;> decide
theorem run_panel {i many most : Nat} {μ : Store} (S : Src i μ) (h2 : 2 ≤ many) (h3 : many ≤ 3) (hm : most ≤ 3) : ∃ P cs spot μ', F__law_panel.run [.ref i, .int (many : Nat), .int (most : Nat)] μ = .ok (pnD P) μ' ∧ Drawn many P cs spot most ∧ Step i μ μ' := by
  have har : (2 : Nat) = F__law_factors.ar := rfl
  have har2 : (2 : Nat) = F__law_of.ar := rfl
  have har3 : (2 : Nat) = F__law_draw.ar := rfl
  -- the sliders
  obtain ⟨sl, μ1, a1, a2, a3, a4⟩ := lc_src (i := i) (t := tgName 3) (f := E__law_panel_1) (ρ := [some (.ref i), some (.int (many : Nat)), some (.int (most : Nat)), none, none, none, none, none, none, none, none, none, none, none, none, none, none, none, none, none]) (en := fun k : Nat => D.int (k : Int)) (dn := slD) (fun _ p => p ∈ opts) (List.range many) [] μ (sl_le (by simp; omega)) S fun k hk μ1 S1 _ => by
    obtain ⟨d, μ2, e1, e2, e3⟩ := run_of S1 (ds := opts.map slD) (by decide) (by decide) (belowL_map fun _ _ => rfl)
    obtain ⟨p, hp, rfl⟩ := List.mem_map.mp e2
    refine ⟨_, p, μ2, rfl, ?_, hp, e3⟩
    have eo : opts.map slD = [.tup [.int 0, .int 10], .tup [.int 0, .int 6], .tup [.int 2, .int 9], .tup [.int 0, .int 20]] := rfl
    rw [eo] at e1
    unfold E__law_panel_1
    simp [← har2, e1]
  have hopt : ∀ p ∈ sl, p ∈ opts := fun p hp => by
    obtain ⟨_, _, h⟩ := map_mem_zip (P := fun (_ : Nat) p => p ∈ opts) a2 a3 p hp
    exact h
  rw [List.length_range] at a2
  have S1 := a4.src S
  -- the spot
  obtain ⟨spot, μ2, b1, b2, b3, b4⟩ := lc_src (i := i) (t := tgTup 2 (tgCons (tgName 16) (tgCons (tgName 17) tgNil))) (f := E__law_panel_2) (ρ := [some (.ref i), some (.int (many : Nat)), some (.int (most : Nat)), none, some (.tup (sl.map slD)), none, none, none, none, none, none, none, none, none, none, none, none, none, none, none]) (en := slD) (dn := D.int) (fun p z => p.1 ≤ z ∧ z ≤ p.2) sl [] μ1 (sl_le (by simp; omega)) S1 fun p hp μ3 S3 _ => by
    obtain ⟨o1, o2, o3⟩ := opt_ok (hopt p hp)
    obtain ⟨r, μ4, r1, r2, r3, r4⟩ := run_draw S3 (m := p.2 - p.1 + 1) (by omega) (by omega)
    refine ⟨_, p.1 + r, μ4, by unfold slD; simp; rfl, ?_, ⟨by omega, by omega⟩, r4⟩
    unfold E__law_panel_2
    simp [← har3, r1]
  have S2 := b4.src S1
  have hspot : ∀ z ∈ spot, 0 ≤ z ∧ z ≤ 20 := fun z hz => by
    obtain ⟨p, hp, h⟩ := map_mem_zip (P := fun (p : Int × Int) z => p.1 ≤ z ∧ z ≤ p.2) b2 b3 z hz
    obtain ⟨o1, o2, o3⟩ := opt_ok (hopt p hp)
    omega
  -- the rules
  obtain ⟨n4, μ3, n1, n2, n3, n5⟩ := run_draw S2 (m := (most : Int) + 1) (by omega) (by omega)
  have S3 := n5.src S2
  obtain ⟨rl, e3, e8, e9, e10, μ4, c1, c2, c3, c4⟩ := loop4 (sl := .tup (sl.map slD)) (most := .int (most : Nat)) h2 (by omega) hspot (by omega) (some (.tup [])) none none none none none none none none none (List.range n4.toNat) S3 [] (by simp) (by simp; omega) none none none none
  have S4 := c4.src S3
  have c3' : rl.length ≤ n4.toNat := by simpa using c3
  -- the cells
  obtain ⟨n6, μ5, m1, m2, m3, m5⟩ := run_draw S4 (m := 3) (by omega) (by omega)
  have S5 := m5.src S4
  obtain ⟨cs, f3, f11, f12, f13, μ6, g1, g2, g3, g4⟩ := loop5 (sl := .tup (sl.map slD)) (sp := .lst (ilD spot)) (rls := .tup (rl.map rlD)) (most := .int (most : Nat)) h2 (by omega) e8 e9 e10 none none none none none none n6.toNat S5 [] (fun k c h => by simp at h) (by simp; omega) e3 none none none
  have S6 := g4.src S5
  have g3' : cs.length = n6.toNat := by simpa using g3
  -- the order
  have hrg : sListRg true (sVar 1) [some (.ref i), some (.int (many : Nat)), some (.int (most : Nat)), f3, some (.tup (sl.map slD)), some (.lst (ilD spot)), some (.tup (rl.map rlD)), some (.tup (cs.map clD)), e8, e9, e10, f11, f12, f13, none, none, none, none, none, none] μ6 = .ok (.ref μ6.length) (μ6 ++ [.lst (ilD ((List.range many).map fun k : Nat => (k : Int)))]) := by
    have hs : sVar 1 [some (.ref i), some (.int (many : Nat)), some (.int (most : Nat)), f3, some (.tup (sl.map slD)), some (.lst (ilD spot)), some (.tup (rl.map rlD)), some (.tup (cs.map clD)), e8, e9, e10, f11, f12, f13, none, none, none, none, none, none] μ6 = .ok (.int (many : Nat)) μ6 := by simp
    unfold sListRg
    rw [hs]
    show mkRg true ((many : Nat) : Int) μ6 = _
    unfold mkRg
    have : lim ((many : Nat) : Int) = true := by unfold lim; rw [decide_eq_true (by omega), decide_eq_true (by omega)]; rfl
    simp only [this, Int.toNat_natCast]
    have e : rangeD 0 1 many = ilD ((List.range many).map fun k : Nat => (k : Int)) := by rw [rangeD_eq]; unfold ilD; rw [List.map_map]; rfl
    rw [e]
    simp
    omega
  obtain ⟨ks, k, μ7, h3', p1, p2, p3, p4, p5⟩ := loop6 (many := many) S6 (by omega) (by omega) (some (.int (most : Nat))) (some (.tup (sl.map slD))) (some (.lst (ilD spot))) (some (.tup (rl.map rlD))) (some (.tup (cs.map clD))) e8 e9 e10 f11 f12 f13 none none none none none (List.range many) μ6.length (μ6 ++ [.lst (ilD ((List.range many).map fun k : Nat => (k : Int)))]) (Grow.app (Grow.refl S6)) (by omega) ((List.range many).map fun k : Nat => (k : Int)) (by simp) (by simp) f3
  obtain ⟨k1, k2, k3⟩ := perm_order p5
  have hall : Step i μ μ6 := a4.trans (b4.trans (n5.trans (c4.trans (m5.trans g4))))
  have hg : Grow i μ μ7 := by
    obtain ⟨μ8, ext, s1, rfl⟩ := p2
    exact ⟨μ8, ext, hall.trans s1, rfl⟩
  have hP : PnOk ⟨sl, rl, cs.map clD, ks⟩ cs := {
    two := by show 2 ≤ sl.length; omega
    three := by show sl.length ≤ 3; omega
    sl := fun p hp => opt_ok (hopt p hp)
    rn := by show rl.length ≤ 3; omega
    rl := fun r hr => by show RlOk sl.length r; rw [a2]; exact (c2 r hr).ok
    cn := by omega
    ce := rfl
    cl := fun k c hc => by show ClOk sl.length (sl.length + k) c; rw [a2]; exact g2 k c hc
    kl := by show ks.length = sl.length; omega
    kr := fun z hz => by show 0 ≤ z ∧ z < (sl.length : Int); rw [a2]; exact k2 z hz
    ka := fun j hj => k3 j (by have hj' : j < sl.length := hj; omega) }
  have hG : G__law_panel [some (.ref i), some (.int (many : Nat)), some (.int (most : Nat)), none, none, none, none, none, none, none, none, none, none, none, none, none, none, none, none, none] μ = .rt (pnD ⟨sl, rl, cs.map clD, ks⟩) μ7 := by
    have ht := tup_ref p4
    have rg4 := rngR_int (μ := μ3) n2 (by omega)
    have rg6 := rngR_int (μ := μ5) m2 (by omega)
    rw [rangeD_eq] at rg4 rg6
    rw [List.length_nil, ← List.range_eq_range'] at g1
    unfold G__law_panel pnD
    have aa := rng_nat (μ := μ) (show many ≤ 100 by omega)
    have ab := rng_nat (μ := μ6 ++ [.lst (ilD ((List.range many).map fun k : Nat => (k : Int)))]) (show many ≤ 100 by omega)
    simp only [ilD, List.nil_append, List.map_nil, List.length_nil] at a1 b1 c1 g1 hrg p1 ht aa ab ⊢
    simp [-List.map_map, -List.map_append, aa, a1, b1, ← har3, n1, rg4, c1, m1, rg6, g1]
    rw [hrg]
    simp [-List.map_map, -List.map_append, ab, p1, ht]
  obtain ⟨μ', hr, hst⟩ := runF_grow (N := N__law_panel) (ds := [.ref i, .int (many : Nat), .int (most : Nat)]) hG hg (by
    unfold pnD
    simp only [below_tup, belowL_cons, belowL_nil, Bool.and_true, Bool.and_eq_true]
    refine ⟨belowL_map fun _ _ => rfl, below_rl, ?_, below_ilD⟩
    exact belowL_map fun c _ => by cases c <;> simp [clD, lwD])
  exact ⟨_, cs, spot, μ', (by rw [show F__law_panel.run = runF N__law_panel G__law_panel from rfl]; exact hr), ⟨hP, a2, hopt, by omega, b3, c2, by show rl.length ≤ most; omega⟩, hst⟩
end K14

set_option Elab.async false
set_option linter.all false
set_option maxRecDepth 100000
namespace K14
open PySem L2 Lite LP
theorem unit_map {n k : Nat} : (List.range n).map (fun i : Nat => D.int (if i = k then 1 else 0)) = ilD (unitL n k) := by unfold unitL; simp [ilD]
theorem run_unit {n k : Nat} (μ : Store) (hn : n ≤ 100) : F__law_unit.run [.int (n : Nat), .int (k : Nat)] μ = .ok (.lst (ilD (unitL n k))) μ := by
  rw [show F__law_unit.run = runF N__law_unit G__law_unit from rfl]
  refine runF_rt ?_ (by show belowL _ _ = true; exact below_ilD)
  have h1 := lc_map (t := tgName 3) (f := E__law_unit_1) (μ := μ) (ρ := [some (.int (n : Nat)), some (.int (k : Nat)), none, none]) (en := fun i : Nat => D.int (i : Int)) (g := fun i : Nat => D.int (if i = k then 1 else 0)) (xs := List.range n) (sl_le (by rw [List.length_range]; omega)) fun i hi => ⟨_, rfl, by
    by_cases q : i = k
    · subst q; simp [E__law_unit_1]
    · have q2 : ¬ ((i : Int) = (k : Int)) := by omega
      simp [E__law_unit_1, q, q2]⟩
  rw [unit_map] at h1
  show G__law_unit [some (.int (n : Nat)), some (.int (k : Nat)), none, none] μ = _
  unfold G__law_unit
  simp [-List.map_map, rng_nat (μ := μ) hn, h1]
def smC : Cl → D
  | .sum f => .tup (ilD f)
  | .two _ _ _ => .non
def smsD (n : Nat) (cs : List Cl) : List D := (List.range n).map (fun k => .tup (ilD (unitL n k))) ++ cs.map smC
theorem run_sums {P : Pn} {cs : List Cl} (μ : Store) (O : PnOk P cs) : F__law_sums.run [pnD P] μ = .ok (.lst (smsD P.sl.length cs)) μ := by
  have o3 := O.three
  have har : (2 : Nat) = F__law_unit.ar := rfl
  rw [show F__law_sums.run = runF N__law_sums G__law_sums from rfl]
  refine runF_rt ?_ ?_
  · show G__law_sums [some (pnD P), none, none, none, none, none] μ = _
    have h1 := lc_map (t := tgName 4) (f := E__law_sums_1) (μ := μ) (ρ := [some (pnD P), some (.int (P.sl.length : Nat)), none, none, none, none]) (en := fun i : Nat => D.int (i : Int)) (g := fun k : Nat => .tup (ilD (unitL P.sl.length k))) (xs := List.range P.sl.length) (sl_le (by rw [List.length_range]; omega)) fun i hi => ⟨_, rfl, by
      have := run_unit (n := P.sl.length) (k := i) μ (by omega)
      unfold E__law_sums_1
      simp [← har, this]⟩
    have h2 := lc_map (t := tgName 5) (f := E__law_sums_2) (μ := μ) (ρ := [some (pnD P), some (.int (P.sl.length : Nat)), some (.lst ((List.range P.sl.length).map fun k => .tup (ilD (unitL P.sl.length k)))), none, none, none]) (en := clD) (g := smC) (xs := cs) (sl_le (by have := O.cn; omega)) fun c hc => ⟨_, rfl, by
      unfold E__law_sums_2
      cases c with
      | sum f => simp [clD, eq_sum, smC]
      | two l a b => simp [clD, ne_sum, smC]⟩
    have aa := add_lst (μ := μ) (ds := (List.range P.sl.length).map fun k => .tup (ilD (unitL P.sl.length k))) (es := cs.map smC) (sl_le (by have := O.cn; simp; omega))
    have ce := O.ce
    unfold G__law_sums smsD
    unfold pnD at h1 h2 ⊢
    rw [ce] at h1 h2 ⊢
    simp only [ilD] at *
    simp [-List.map_map, -List.map_append, rng_nat (μ := μ) (show P.sl.length ≤ 100 by omega), h1, h2, aa]
  · show belowL _ _ = true
    unfold smsD
    have ap : ∀ (a b : List D), belowL μ.length a = true → belowL μ.length b = true → belowL μ.length (a ++ b) = true := fun a b ha hb => by
      induction a with
      | nil => exact hb
      | cons x a ih =>
        rw [belowL_cons, Bool.and_eq_true] at ha
        rw [List.cons_append, belowL_cons, ha.1, ih ha.2]; rfl
    exact ap _ _ (belowL_map fun k _ => by simp) (belowL_map fun c _ => by cases c <;> simp [smC])
/-- the law's rows -/
abbrev LR := List Int × Int
def lrD (r : LR) : D := .tup [.lst (ilD r.1), .int r.2]
theorem run_tight {f : List Int} {b : Int} {n : Nat} (μ : Store) (hf : ∀ z ∈ f, Sz 100 z) (hl : f.length ≤ 50) : F__law_tight.run [.tup (ilD f), .tup [.int b, .int 1]] μ = .ok (.lst [lrD (f, b), lrD (negL f, -b)]) μ := by
  rw [show F__law_tight.run = runF N__law_tight G__law_tight from rfl]
  refine runF_rt ?_ (by simp [lrD])
  have h1 := lc_map (t := tgName 4) (f := E__law_tight_1) (μ := μ) (ρ := [some (.tup (ilD f)), some (.tup [.int b, .int 1]), none, none, none]) (en := D.int) (g := D.int) (xs := f) (sl_le (by omega)) fun z hz => ⟨_, rfl, by
    have := mulZ (μ := μ) (i := 1) (j := z) (a := 2) (b := 100) (by unfold Sz; decide) (hf z hz) (by omega)
    rw [Int.one_mul] at this
    unfold E__law_tight_1
    simp [this]⟩
  have h2 := lc_map (t := tgName 4) (f := E__law_tight_2) (μ := μ) (ρ := [some (.tup (ilD f)), some (.tup [.int b, .int 1]), some (.lst (ilD f)), none, none]) (en := D.int) (g := fun z => D.int (-z)) (xs := f) (sl_le (by omega)) fun z hz => ⟨_, rfl, by unfold E__law_tight_2; simp⟩
  have e : f.map (fun z : Int => D.int (-z)) = ilD (negL f) := by unfold negL ilD; rw [List.map_map]; rfl
  rw [e] at h2
  show G__law_tight [some (.tup (ilD f)), some (.tup [.int b, .int 1]), none, none, none] μ = _
  unfold G__law_tight lrD
  simp only [ilD] at *
  simp [-List.map_map, h1, h2]
def lrS (n : Nat) (p : (Int × Int) × Nat) : List LR := [(unitL n p.2, p.1.2), (negL (unitL n p.2), -p.1.1)]
def lrR (r : Rl) : List LR := (r.1, r.2.2) :: if r.2.1 then [(negL r.1, -r.2.2)] else []
def lrP (P : Pn) : List LR := ((P.sl.zipIdx 0).map (lrS P.sl.length)).flatten ++ (P.rl.map lrR).flatten
theorem body_rows2 (P S : D) (n k : Nat) (cs : List Cl) (μ : Store) (T : List LR) (x : Int × Int) (d5 d6 d7 d8 d9 d10 : Option D) (hn : n ≤ 20) (hk : k < n) (hT : T.length ≤ 60) :
    B__law_rows_2 [some P, some (.lst (T.map lrD)), some (.lst (smsD n cs)), some (.int (k : Nat)), some (slD x), d5, d6, d7, d8, d9, d10] μ
      = .nx [some P, some (.lst ((T ++ lrS n (x, k)).map lrD)), some (.lst (smsD n cs)), some (.int (k : Nat)), some (slD x), some (.lst (ilD (unitL n k))), d6, d7, d8, d9, d10] μ := by
  have hat : atI (smsD n cs) ((k : Nat) : Int) = some (.tup (ilD (unitL n k))) := by
    rw [Lite.atI_nat]
    unfold smsD
    rw [List.getElem?_append_left (by simpa using hk), List.getElem?_map, List.getElem?_range hk]; rfl
  have h2 := lc_map (t := tgName 10) (f := E__law_rows_1) (μ := μ) (ρ := [some P, some (.lst (T.map lrD)), some (.lst (smsD n cs)), some (.int (k : Nat)), some (slD x), some (.lst (ilD (unitL n k))), d6, d7, d8, none, none]) (en := D.int) (g := fun z : Int => .int (-z)) (xs := unitL n k) (sl_le (by rw [unit_len]; omega)) fun z hz => ⟨_, rfl, by unfold E__law_rows_1; simp⟩
  have e2 : (unitL n k).map (fun z : Int => D.int (-z)) = ilD (negL (unitL n k)) := by unfold negL ilD; rw [List.map_map]; rfl
  rw [e2] at h2
  have aa := add_lst (μ := μ) (ds := T.map lrD) (es := (lrS n (x, k)).map lrD) (sl_le (by rw [List.length_map]; unfold lrS; simp; omega))
  rw [← List.map_append] at aa
  have e3 : (lrS n (x, k)).map lrD = [.tup [.lst (ilD (unitL n k)), .int x.2], .tup [.lst (ilD (negL (unitL n k))), .int (-x.1)]] := rfl
  rw [e3] at aa
  unfold B__law_rows_2 slD
  unfold slD at h2
  simp only [ilD] at *
  simp [-List.map_append, -List.map_map, hat, h2, aa]
theorem loop_rows2 (P : D) (n : Nat) (cs : List Cl) (μ : Store) (hn : n ≤ 20) : ∀ (xs : List (Int × Int)) (k : Nat) (T : List LR) (d3 d4 d5 d6 d7 d8 d9 d10 : Option D), T.length + 2 * xs.length ≤ 60 → k + xs.length ≤ n →
    ∃ e3 e4 e5, forGo (tgTup 2 (tgCons (tgName 3) (tgCons (tgName 4) tgNil))) B__law_rows_2 [] ((xs.zipIdx k).map fun p => .tup [.int (p.2 : Nat), slD p.1]) [some P, some (.lst (T.map lrD)), some (.lst (smsD n cs)), d3, d4, d5, d6, d7, d8, d9, d10] μ
      = .nx [some P, some (.lst ((T ++ ((xs.zipIdx k).map (lrS n)).flatten).map lrD)), some (.lst (smsD n cs)), e3, e4, e5, d6, d7, d8, d9, d10] μ
  | [], k, T, d3, d4, d5, d6, d7, d8, d9, d10, _, _ => ⟨d3, d4, d5, by simp⟩
  | x :: xs, k, T, d3, d4, d5, d6, d7, d8, d9, d10, hT, hk => by
    have hT' : T.length + 2 * (xs.length + 1) ≤ 60 := hT
    have hk' : k + (xs.length + 1) ≤ n := hk
    obtain ⟨e3, e4, e5, h⟩ := loop_rows2 P n cs μ hn xs (k + 1) (T ++ lrS n (x, k)) (some (.int (k : Nat))) (some (slD x)) (some (.lst (ilD (unitL n k)))) d6 d7 d8 d9 d10 (by rw [List.length_append]; unfold lrS; simp; omega) (by omega)
    refine ⟨e3, e4, e5, ?_⟩
    rw [List.zipIdx_cons, List.map_cons, List.map_cons]
    rw [forGo_nx (ρ1 := [some P, some (.lst (T.map lrD)), some (.lst (smsD n cs)), some (.int (k : Nat)), some (slD x), d5, d6, d7, d8, d9, d10]) (by simp) (body_rows2 P (.lst (smsD n cs)) n k cs μ T x d5 d6 d7 d8 d9 d10 hn (by omega) (by omega)), h]
    simp
theorem lrR_len (r : Rl) : (lrR r).length ≤ 2 := by unfold lrR; split <;> simp
theorem loop_rows3 (P S : D) (μ : Store) : ∀ (xs : List Rl) (T : List LR) (d3 d4 d5 d6 d7 d8 d9 d10 : Option D), (∀ r ∈ xs, r.1.length ≤ 20 ∧ ∀ z ∈ r.1, Sz 100 z) → T.length + 2 * xs.length ≤ 90 →
    ∃ e6 e7 e8, forGo (tgTup 3 (tgCons (tgName 6) (tgCons (tgName 7) (tgCons (tgName 8) tgNil)))) B__law_rows_3 [] (xs.map rlD) [some P, some (.lst (T.map lrD)), some S, d3, d4, d5, d6, d7, d8, d9, d10] μ
      = .nx [some P, some (.lst ((T ++ (xs.map lrR).flatten).map lrD)), some S, d3, d4, d5, e6, e7, e8, d9, d10] μ
  | [], T, d3, d4, d5, d6, d7, d8, d9, d10, _, _ => ⟨d6, d7, d8, by simp⟩
  | x :: xs, T, d3, d4, d5, d6, d7, d8, d9, d10, hx, hT => by
    have hT' : T.length + 2 * (xs.length + 1) ≤ 90 := hT
    have hrl := lrR_len x
    obtain ⟨e6, e7, e8, h⟩ := loop_rows3 P S μ xs (T ++ lrR x) d3 d4 d5 (some (.tup (ilD x.1))) (some (wdD x.2.1)) (some (.int x.2.2)) d9 d10 (fun r hr => hx r (by simp [hr])) (by rw [List.length_append]; omega)
    refine ⟨e6, e7, e8, ?_⟩
    obtain ⟨hx1, hx2⟩ := hx x (by simp)
    have ht := run_tight (f := x.1) (b := x.2.2) (n := 0) μ hx2 (by omega)
    have har : (2 : Nat) = F__law_tight.ar := rfl
    have hb : B__law_rows_3 [some P, some (.lst (T.map lrD)), some S, d3, d4, d5, some (.tup (ilD x.1)), some (wdD x.2.1), some (.int x.2.2), d9, d10] μ = .nx [some P, some (.lst ((T ++ lrR x).map lrD)), some S, d3, d4, d5, some (.tup (ilD x.1)), some (wdD x.2.1), some (.int x.2.2), d9, d10] μ := by
      have aa := add_lst (μ := μ) (ds := T.map lrD) (es := (lrR x).map lrD) (sl_le (by rw [List.length_map, List.length_map]; omega))
      have hcut : ∀ b : Bool, cutD [lrD (x.1, x.2.2), lrD (negL x.1, -x.2.2)] none (some (1 + if b = true then 1 else 0)) = ((x.1, x.2.2) :: if b then [(negL x.1, -x.2.2)] else []).map lrD := fun b => by
        cases b with
        | true => exact cut_to (k := 2)
        | false => exact cut_to (k := 1)
      have hc := hcut x.2.1
      rw [← List.map_append] at aa
      unfold B__law_rows_3
      unfold lrR at aa ⊢
      generalize hL : (x.1, x.2.2) :: (if x.2.1 = true then [(negL x.1, -x.2.2)] else []) = L at *
      simp only [ilD] at *
      simp [-List.map_append, -List.map_map, ← har, ht, eq_same, hc, aa]
    rw [List.map_cons, forGo_nx (ρ1 := [some P, some (.lst (T.map lrD)), some S, d3, d4, d5, some (.tup (ilD x.1)), some (wdD x.2.1), some (.int x.2.2), d9, d10]) (by unfold rlD; simp) hb, h]
    simp
theorem run_rows {P : Pn} {cs : List Cl} (μ : Store) (O : PnOk P cs) : F__law_rows.run [pnD P] μ = .ok (.lst ((lrP P).map lrD)) μ := by
  have o3 := O.three
  have o2 := O.two
  have orn := O.rn
  have har : (1 : Nat) = F__law_sums.ar := rfl
  rw [show F__law_rows.run = runF N__law_rows G__law_rows from rfl]
  refine runF_rt ?_ (by show belowL _ _ = true; exact belowL_map fun r _ => by simp [lrD])
  have hs := run_sums μ O
  obtain ⟨e3, e4, e5, h1⟩ := loop_rows2 (pnD P) P.sl.length cs μ (by omega) P.sl 0 [] none none none none none none none none (by simp; omega) (by omega)
  obtain ⟨e6, e7, e8, h2⟩ := loop_rows3 (pnD P) (.lst (smsD P.sl.length cs)) μ P.rl (((P.sl.zipIdx 0).map (lrS P.sl.length)).flatten) e3 e4 e5 none none none none none (fun r hr => by
    have R := O.rl r hr
    exact ⟨by rw [R.len]; omega, fun z hz => by have := R.rng z hz; exact Nat.lt_of_le_of_lt (show z.natAbs ≤ 2 by omega) (by decide)⟩) (by
    have : ∀ (xs : List (Int × Int)) (k n : Nat), ((xs.zipIdx k).map (lrS n)).flatten.length = 2 * xs.length := fun xs => by
      induction xs with
      | nil => intro k n; rfl
      | cons x xs ih => intro k n; rw [List.zipIdx_cons, List.map_cons, List.flatten_cons, List.length_append, ih]; unfold lrS; simp; omega
    rw [this]; omega)
  have he : enumD (P.sl.map slD) = (P.sl.zipIdx 0).map fun p => .tup [.int (p.2 : Nat), slD p.1] := enum_map (en := slD)
  rw [List.nil_append, List.map_nil] at h1
  show G__law_rows [some (pnD P), none, none, none, none, none, none, none, none, none, none] μ = _
  unfold lrP
  unfold G__law_rows
  unfold pnD at h1 h2 hs ⊢
  simp [-List.map_flatten, -List.map_append, he, ← har, hs, h1, h2]
end K14

set_option Elab.async false
set_option linter.all false
set_option maxRecDepth 100000
namespace K14
open PySem L2 Lite LP
/-- the point of two rows -/
def twoU (p q n r s m : Int) : Option (Int × Int × Int) :=
  if p * s - q * r = 0 then none else if 0 < p * s - q * r then some (n * s - q * m, p * m - n * r, p * s - q * r) else some (-(n * s - q * m), -(p * m - n * r), -(p * s - q * r))
def pt2 : Option (Int × Int × Int) → D
  | none => .non
  | some (l, r, d) => lrD ([l, r], d)
theorem run_two {p q n r s m : Int} {w : Nat} (μ : Store) (hw : w ≤ 100000) (h1 : Sz w p) (h2 : Sz w q) (h3 : Sz w n) (h4 : Sz w r) (h5 : Sz w s) (h6 : Sz w m) : F__law_two.run [lrD ([p, q], n), lrD ([r, s], m)] μ = .ok (pt2 (twoU p q n r s m)) μ := by
  have m1 := mulZ (μ := μ) h1 h5 (by omega)
  have m2 := mulZ (μ := μ) h2 h4 (by omega)
  have m3 := mulZ (μ := μ) h3 h5 (by omega)
  have m4 := mulZ (μ := μ) h2 h6 (by omega)
  have m5 := mulZ (μ := μ) h1 h6 (by omega)
  have m6 := mulZ (μ := μ) h3 h4 (by omega)
  rw [show F__law_two.run = runF N__law_two G__law_two from rfl]
  refine runF_rt ?_ (by cases twoU p q n r s m <;> rfl)
  show G__law_two [some (lrD ([p, q], n)), some (lrD ([r, s], m)), none, none, none] μ = _
  unfold G__law_two twoU lrD
  by_cases z : p * s - q * r = 0
  · rw [if_pos z]
    simp [m1, m2, m3, m4, m5, m6, z, pt2]
  · rw [if_neg z]
    by_cases y : 0 < p * s - q * r
    · rw [if_pos y]
      simp [m1, m2, m3, m4, m5, m6, z, y, pt2, lrD, -Int.sub_pos]
    · rw [if_neg y]
      simp [m1, m2, m3, m4, m5, m6, z, y, pt2, lrD, -Int.sub_pos]
theorem two_sz {p q n r s m : Int} {w : Nat} (h1 : Sz w p) (h2 : Sz w q) (h3 : Sz w n) (h4 : Sz w r) (h5 : Sz w s) (h6 : Sz w m) {x : Int × Int × Int} (h : twoU p q n r s m = some x) : Sz (w + w + 1) x.1 ∧ Sz (w + w + 1) x.2.1 ∧ Sz (w + w + 1) x.2.2 ∧ 0 < x.2.2 := by
  have a := (h1.mul h5).sub (h2.mul h4)
  have b := (h3.mul h5).sub (h2.mul h6)
  have c := (h1.mul h6).sub (h3.mul h4)
  unfold twoU at h
  split at h
  · cases h
  · split at h
    · cases h; exact ⟨b, c, a, by assumption⟩
    · cases h; exact ⟨b.neg, c.neg, a.neg, by show 0 < -(p * s - q * r); omega⟩
/-- a row in three dimensions -/
structure R3 where
  a : Int
  b : Int
  c : Int
  n : Int
def r3D (x : R3) : D := lrD ([x.a, x.b, x.c], x.n)
def R3.sz (w : Nat) (x : R3) : Prop := Sz w x.a ∧ Sz w x.b ∧ Sz w x.c ∧ Sz w x.n
def flA (f g : R3) : Int := f.c * g.a - g.c * f.a
def flB (f g : R3) : Int := f.c * g.b - g.c * f.b
def flN (f g : R3) : Int := f.c * g.n - g.c * f.n
def liftU (f : R3) (x : Int × Int × Int) : LR := ([(f.c.natAbs : Int) * x.1, (f.c.natAbs : Int) * x.2.1, (if 0 < f.c then 1 else -1) * (f.n * x.2.2 - f.a * x.1 - f.b * x.2.1)], (f.c.natAbs : Int) * x.2.2)
def oneU (f g h : R3) : Option LR := (twoU (flA f g) (flB f g) (flN f g) (flA f h) (flB f h) (flN f h)).map (liftU f)
def pt3 : Option LR → D
  | none => .non
  | some x => lrD x
@[simp] theorem r3_0 {f : R3} {μ : Store} : opSub1 (r3D f) (.int 0) μ = .ok (.lst [.int f.a, .int f.b, .int f.c]) μ := by rfl
@[simp] theorem r3_1 {f : R3} {μ : Store} : opSub1 (r3D f) (.int 1) μ = .ok (.int f.n) μ := by rfl
theorem fl_sz {f g : R3} {w : Nat} (hf : f.sz w) (hg : g.sz w) : Sz (w + w + 1) (flA f g) ∧ Sz (w + w + 1) (flB f g) ∧ Sz (w + w + 1) (flN f g) := by
  obtain ⟨f1, f2, f3, f4⟩ := hf
  obtain ⟨g1, g2, g3, g4⟩ := hg
  exact ⟨(f3.mul g1).sub (g3.mul f1), (f3.mul g2).sub (g3.mul f2), (f3.mul g4).sub (g3.mul f4)⟩
theorem body_flat {f g : R3} {w : Nat} (hw : w ≤ 10000) (hf : f.sz w) (hg : g.sz w) {μ : Store} {k : Nat} {es : List D} (hk : μ[k]? = some (.lst es)) (hl : es.length ≤ 10) (d0 d1 d2 d3 d4 d6 d7 d12 d13 d14 d15 d16 d17 d18 d19 d20 : Option D) :
    ∃ e12, B__law_three_2 [d0, d1, d2, d3, d4, some (r3D f), d6, d7, some (.int f.c), some (.ref k), some (.lst (ilD [g.a, g.b, g.c])), some (.int g.n), d12, d13, d14, d15, d16, d17, d18, d19, d20] μ
      = .nx [d0, d1, d2, d3, d4, some (r3D f), d6, d7, some (.int f.c), some (.ref k), some (.lst (ilD [g.a, g.b, g.c])), some (.int g.n), e12, d13, d14, d15, d16, d17, d18, d19, d20] (μ.set k (.lst (es ++ [lrD ([flA f g, flB f g], flN f g)]))) := by
  obtain ⟨f1, f2, f3, f4⟩ := hf
  obtain ⟨g1, g2, g3, g4⟩ := hg
  have a1 := mulZ (μ := μ) f3 g1 (by omega)
  have a2 := mulZ (μ := μ) g3 f1 (by omega)
  have b1 := mulZ (μ := μ) f3 g2 (by omega)
  have b2 := mulZ (μ := μ) g3 f2 (by omega)
  have n1 := mulZ (μ := μ) f3 g4 (by omega)
  have n2 := mulZ (μ := μ) g3 f4 (by omega)
  refine ⟨some (.lst (ilD [flA f g, flB f g])), ?_⟩
  have h := lc_map (t := tgName 4) (f := E__law_three_1) (μ := μ) (ρ := [d0, d1, d2, d3, none, some (r3D f), d6, d7, some (.int f.c), some (.ref k), some (.lst (ilD [g.a, g.b, g.c])), some (.int g.n), d12, d13, d14, d15, d16, d17, d18, d19, none]) (en := fun i : Nat => D.int (i : Int)) (g := fun i : Nat => D.int (if i = 0 then flA f g else flB f g)) (xs := [0, 1]) (sl_le (by simp)) fun i hi => ⟨_, rfl, by
    unfold E__law_three_1 r3D lrD
    have hi' : i = 0 ∨ i = 1 := by simpa using hi
    rcases hi' with rfl | rfl
    · simp [a1, a2, flA]
    · simp [b1, b2, flB]⟩
  have hp := app_eq (d := lrD ([flA f g, flB f g], flN f g)) hk (Nat.lt_of_lt_of_le (show es.length < 100 by omega) (sl_le (Nat.le_refl 100)))
  have hty := ty_ref hk
  unfold B__law_three_2
  unfold r3D lrD at h ⊢
  unfold lrD at hp
  simp only [List.map_cons, List.map_nil, ilD] at h hp ⊢
  simp at h
  simp [h, hty, n1, n2]
  rw [show f.c * g.n - g.c * f.n = flN f g from rfl, hp]
  simp
theorem body_three {f g h : R3} {w : Nat} (hw : w ≤ 10000) (hf : f.sz w) (hg : g.sz w) (hh : h.sz w) {μ : Store} {l : List R3} {k : Int} (h0 : atI (l.map r3D) k = some (r3D f)) (h1 : atI (l.map r3D) (k - 1) = some (r3D g)) (h2 : atI (l.map r3D) (k - 2) = some (r3D h)) (d0 d1 d2 d5 d6 d7 d8 d9 d10 d11 d12 d13 d14 d15 d16 d17 d18 d19 d20 : Option D) :
    (f.c = 0 → ∃ e5 e6 e7 e8, B__law_three_3 [d0, d1, d2, some (.lst (l.map r3D)), some (.int k), d5, d6, d7, d8, d9, d10, d11, d12, d13, d14, d15, d16, d17, d18, d19, d20] μ = .nx [d0, d1, d2, some (.lst (l.map r3D)), some (.int k), e5, e6, e7, e8, d9, d10, d11, d12, d13, d14, d15, d16, d17, d18, d19, d20] μ) ∧
    (f.c ≠ 0 → ∃ ext, B__law_three_3 [d0, d1, d2, some (.lst (l.map r3D)), some (.int k), d5, d6, d7, d8, d9, d10, d11, d12, d13, d14, d15, d16, d17, d18, d19, d20] μ = .rt (pt3 (oneU f g h)) (μ ++ ext)) := by
  have e0 : ssSeq (ssAsg (sTup (sCons (sBin opSub1 (sVar 3) (sVar 4)) (sCons (sBin opSub1 (sVar 3) (sBin opSub (sVar 4) (sCon (.int 1)))) (sCons (sBin opSub1 (sVar 3) (sBin opSub (sVar 4) (sCon (.int 2)))) (sNil))))) (tgTup 3 (tgCons (tgName 5) (tgCons (tgName 6) (tgCons (tgName 7) (tgNil)))))) (ssAsg (sBin opSub1 (sBin opSub1 (sVar 5) (sCon (.int 0))) (sCon (.int 2))) (tgName 8)) [d0, d1, d2, some (.lst (l.map r3D)), some (.int k), d5, d6, d7, d8, d9, d10, d11, d12, d13, d14, d15, d16, d17, d18, d19, d20] μ = .nx [d0, d1, d2, some (.lst (l.map r3D)), some (.int k), some (r3D f), some (r3D g), some (r3D h), some (.int f.c), d9, d10, d11, d12, d13, d14, d15, d16, d17, d18, d19, d20] μ := by
    simp [h0, h1, h2, r3D, lrD]
  rw [ev_seq] at e0
  refine ⟨fun hc => ⟨some (r3D f), some (r3D g), some (r3D h), some (.int f.c), ?_⟩, fun hc => ?_⟩
  · unfold B__law_three_3
    simp [h0, h1, h2, r3D, lrD, hc]
  · obtain ⟨f1, f2, f3, f4⟩ := hf
    have hk : (μ ++ [Ob.lst []])[μ.length]? = some (.lst []) := by simp
    obtain ⟨e12, b1⟩ := body_flat hw ⟨f1, f2, f3, f4⟩ hg hk (by simp) d0 d1 d2 (some (.lst (l.map r3D))) (some (.int k)) (some (r3D g)) (some (r3D h)) d12 d13 d14 d15 d16 d17 d18 d19 d20
    have hs1 : (μ ++ [Ob.lst []]).set μ.length (.lst ([] ++ [lrD ([flA f g, flB f g], flN f g)])) = μ ++ [.lst [lrD ([flA f g, flB f g], flN f g)]] := by simp
    rw [hs1] at b1
    have hk2 : (μ ++ [Ob.lst [lrD ([flA f g, flB f g], flN f g)]])[μ.length]? = some (.lst [lrD ([flA f g, flB f g], flN f g)]) := by simp
    obtain ⟨e12', b2⟩ := body_flat hw ⟨f1, f2, f3, f4⟩ hh hk2 (by simp) d0 d1 d2 (some (.lst (l.map r3D))) (some (.int k)) (some (r3D g)) (some (r3D h)) e12 d13 d14 d15 d16 d17 d18 d19 d20
    have hs2 : (μ ++ [Ob.lst [lrD ([flA f g, flB f g], flN f g)]]).set μ.length (.lst ([lrD ([flA f g, flB f g], flN f g)] ++ [lrD ([flA f h, flB f h], flN f h)])) = μ ++ [.lst [lrD ([flA f g, flB f g], flN f g), lrD ([flA f h, flB f h], flN f h)]] := by simp
    rw [hs2] at b2
    have hk3 : (μ ++ [Ob.lst [lrD ([flA f g, flB f g], flN f g), lrD ([flA f h, flB f h], flN f h)]])[μ.length]? = some (.lst [lrD ([flA f g, flB f g], flN f g), lrD ([flA f h, flB f h], flN f h)]) := by simp
    generalize hμ2 : μ ++ [Ob.lst [lrD ([flA f g, flB f g], flN f g), lrD ([flA f h, flB f h], flN f h)]] = μ2 at *
    have q0 := sub_ref (k := 0) hk3
    have q1 := sub_ref (k := 1) hk3
    obtain ⟨g1, g2, g3⟩ := fl_sz ⟨f1, f2, f3, f4⟩ hg
    obtain ⟨i1, i2, i3⟩ := fl_sz ⟨f1, f2, f3, f4⟩ hh
    have ht := run_two (w := w + w + 1) μ2 (by omega) g1 g2 g3 i1 i2 i3
    have hfor : forGo (tgTup 2 (tgCons (tgName 10) (tgCons (tgName 11) tgNil))) B__law_three_2 [] [r3D g, r3D h] [d0, d1, d2, some (.lst (l.map r3D)), some (.int k), some (r3D f), some (r3D g), some (r3D h), some (.int f.c), some (.ref μ.length), d10, d11, d12, d13, d14, d15, d16, d17, d18, d19, d20] (μ ++ [Ob.lst []]) = .nx [d0, d1, d2, some (.lst (l.map r3D)), some (.int k), some (r3D f), some (r3D g), some (r3D h), some (.int f.c), some (.ref μ.length), some (.lst (ilD [h.a, h.b, h.c])), some (.int h.n), e12', d13, d14, d15, d16, d17, d18, d19, d20] μ2 := by
      rw [forGo_nx (by rfl) b1, forGo_nx (by rfl) b2, forGo_nil]
    have har : (2 : Nat) = F__law_two.ar := rfl
    have hz : ¬ f.c = 0 := hc
    have mk0 : mkRef [] μ = .ok (.ref μ.length) (μ ++ [Ob.lst []]) := mkRef_le (sl_le (by simp))
    refine ⟨[Ob.lst [lrD ([flA f g, flB f g], flN f g), lrD ([flA f h, flB f h], flN f h)]], ?_⟩
    rw [hμ2]
    unfold B__law_three_3
    cases e : twoU (flA f g) (flB f g) (flN f g) (flA f h) (flB f h) (flN f h) with
    | none =>
      rw [e] at ht
      have eo : oneU f g h = none := by unfold oneU; rw [e]; rfl
      rw [eo]
      simp [h0, h1, h2, hz, mk0, hfor, q0, q1, ← har, ht, pt2, isNon, pt3]
    | some x =>
      obtain ⟨x1, x2, x3⟩ := x
      obtain ⟨s1, s2, s3, _⟩ := two_sz g1 g2 g3 i1 i2 i3 e
      dsimp only at s1 s2 s3
      rw [e] at ht
      have eo : oneU f g h = some (liftU f (x1, x2, x3)) := by unfold oneU; rw [e]; rfl
      rw [eo]
      replace ht : F__law_two.run [lrD ([flA f g, flB f g], flN f g), lrD ([flA f h, flB f h], flN f h)] μ2 = .ok (.tup [.lst [.int x1, .int x2], .int x3]) μ2 := ht
      have hab : Sz w (f.c.natAbs : Int) := by unfold Sz at *; omega
      have sg : Sz 2 (if 0 < f.c then 1 else -1) := by unfold Sz; split <;> decide
      have p1 := mulZ (μ := μ2) f4 s3 (by omega)
      have p2 := mulZ (μ := μ2) f1 s1 (by omega)
      have p3 := mulZ (μ := μ2) f2 s2 (by omega)
      have p4 := mulZ (μ := μ2) hab s1 (by omega)
      have p5 := mulZ (μ := μ2) hab s2 (by omega)
      have p6 := mulZ (μ := μ2) hab s3 (by omega)
      have p7 := mulZ (μ := μ2) sg ((((f4.mul s3).sub ((f1.mul s1).mono (Nat.le_refl _))).mono (Nat.le_refl _)).sub ((f2.mul s2).mono (Nat.le_succ _))) (by omega)
      have hu : pt3 (some (liftU f (x1, x2, x3))) = .tup [.lst [.int ((f.c.natAbs : Int) * x1), .int ((f.c.natAbs : Int) * x2), .int ((if 0 < f.c then 1 else -1) * (f.n * x3 - f.a * x1 - f.b * x2))], .int ((f.c.natAbs : Int) * x3)] := rfl
      rw [hu]
      have hs : (if 0 < f.c then R.ok (D.int 1) μ2 else R.ok (D.int (-1)) μ2) = .ok (.int (if 0 < f.c then 1 else -1)) μ2 := by split <;> rfl
      generalize (if 0 < f.c then (1 : Int) else -1) = sgn at *
      simp [h0, h1, h2, hz, mk0, hfor, q0, q1, ← har, ht, isNon, p1, p2, p3, p4, p5, p6, hs, p7]
end K14

set_option Elab.async false
set_option linter.all false
set_option maxRecDepth 100000
namespace K14
open PySem L2 Lite LP
def threeU (a b c : R3) : Option LR := if a.c ≠ 0 then oneU a c b else if b.c ≠ 0 then oneU b a c else if c.c ≠ 0 then oneU c b a else none
theorem below_pt3 {n : Nat} {o : Option LR} : below n (pt3 o) = true := by
  cases o with
  | none => rfl
  | some x => simp [pt3, lrD]
theorem run_three {a b c : R3} {w : Nat} (μ : Store) (hw : w ≤ 10000) (ha : a.sz w) (hb : b.sz w) (hc : c.sz w) : F__law_three.run [r3D a, r3D b, r3D c] μ = .ok (pt3 (threeU a b c)) μ := by
  rw [show F__law_three.run = runF N__law_three G__law_three from rfl]
  obtain ⟨z0, n0⟩ := body_three (l := [a, b, c]) (k := 0) (μ := μ) hw ha hc hb rfl rfl rfl (some (r3D a)) (some (r3D b)) (some (r3D c)) none none none none none none none none none none none none none none none none
  have hr : rngR (.int 3) μ = .ok ⟨[.int 0, .int 1, .int 2], []⟩ μ := rng_nat (n := 3) (by omega)
  have main : ∃ ext, G__law_three [some (r3D a), some (r3D b), some (r3D c), none, none, none, none, none, none, none, none, none, none, none, none, none, none, none, none, none, none] μ = .rt (pt3 (threeU a b c)) (μ ++ ext) := by
    have start : G__law_three [some (r3D a), some (r3D b), some (r3D c), none, none, none, none, none, none, none, none, none, none, none, none, none, none, none, none, none, none] μ = (forGo (tgName 4) B__law_three_3 [] [.int 0, .int 1, .int 2] [some (r3D a), some (r3D b), some (r3D c), some (.lst ([a, b, c].map r3D)), none, none, none, none, none, none, none, none, none, none, none, none, none, none, none, none, none] μ).andThen (ssRet (sCon .non)) := by
      unfold G__law_three
      simp [hr]
    rw [start]
    unfold threeU
    by_cases q : a.c = 0
    · obtain ⟨e5, e6, e7, e8, h0⟩ := z0 q
      rw [forGo_nx (ρ1 := [some (r3D a), some (r3D b), some (r3D c), some (.lst ([a, b, c].map r3D)), some (.int 0), none, none, none, none, none, none, none, none, none, none, none, none, none, none, none, none]) (by rfl) h0]
      obtain ⟨z1, n1⟩ := body_three (l := [a, b, c]) (k := 1) (μ := μ) hw hb ha hc rfl rfl rfl (some (r3D a)) (some (r3D b)) (some (r3D c)) e5 e6 e7 e8 none none none none none none none none none none none none
      by_cases q1 : b.c = 0
      · obtain ⟨f5, f6, f7, f8, h1⟩ := z1 q1
        rw [forGo_nx (ρ1 := [some (r3D a), some (r3D b), some (r3D c), some (.lst ([a, b, c].map r3D)), some (.int 1), e5, e6, e7, e8, none, none, none, none, none, none, none, none, none, none, none, none]) (by rfl) h1]
        obtain ⟨z2, n2⟩ := body_three (l := [a, b, c]) (k := 2) (μ := μ) hw hc hb ha rfl rfl rfl (some (r3D a)) (some (r3D b)) (some (r3D c)) f5 f6 f7 f8 none none none none none none none none none none none none
        by_cases q2 : c.c = 0
        · obtain ⟨g5, g6, g7, g8, h2⟩ := z2 q2
          rw [forGo_nx (ρ1 := [some (r3D a), some (r3D b), some (r3D c), some (.lst ([a, b, c].map r3D)), some (.int 2), f5, f6, f7, f8, none, none, none, none, none, none, none, none, none, none, none, none]) (by rfl) h2, forGo_nil]
          exact ⟨[], by simp [q, q1, q2, pt3]⟩
        · obtain ⟨ext, h2⟩ := n2 q2
          rw [forGo_rt (ρ1 := [some (r3D a), some (r3D b), some (r3D c), some (.lst ([a, b, c].map r3D)), some (.int 2), f5, f6, f7, f8, none, none, none, none, none, none, none, none, none, none, none, none]) (by rfl) h2]
          exact ⟨ext, by simp [q, q1, q2]⟩
      · obtain ⟨ext, h1⟩ := n1 q1
        rw [forGo_rt (ρ1 := [some (r3D a), some (r3D b), some (r3D c), some (.lst ([a, b, c].map r3D)), some (.int 1), e5, e6, e7, e8, none, none, none, none, none, none, none, none, none, none, none, none]) (by rfl) h1]
        exact ⟨ext, by simp [q, q1]⟩
    · obtain ⟨ext, h0⟩ := n0 q
      rw [forGo_rt (ρ1 := [some (r3D a), some (r3D b), some (r3D c), some (.lst ([a, b, c].map r3D)), some (.int 0), none, none, none, none, none, none, none, none, none, none, none, none, none, none, none, none]) (by rfl) h0]
      exact ⟨ext, by simp [q]⟩
  obtain ⟨ext, hm⟩ := main
  exact runF_ext hm below_pt3
/-- whether rows hold at a point -/
def sumZ (f t : List Int) : Int := ((f.zip t).map fun p => p.1 * p.2).sum
def inU (rows : List LR) (x : LR) : Bool := rows.all fun r => decide (sumZ r.1 x.1 ≤ r.2 * x.2)
theorem run_is_in {rows : List LR} {x : LR} {w v : Nat} (μ : Store) (hwv : w + v ≤ 900000) (hr : ∀ r ∈ rows, r.1.length ≤ 50 ∧ (∀ z ∈ r.1, Sz w z) ∧ Sz w r.2) (hx : (∀ z ∈ x.1, Sz v z) ∧ Sz v x.2) : F__law_is_in.run [.lst (rows.map lrD), lrD x] μ = .ok (.bl (inU rows x)) μ := by
  rw [show F__law_is_in.run = runF N__law_is_in G__law_is_in from rfl]
  refine runF_rt ?_ rfl
  have hb : ∀ (R : D) (r : LR), (r.1.length ≤ 50 ∧ (∀ z ∈ r.1, Sz w z) ∧ Sz w r.2) → ∀ (d4 d5 d6 d7 : Option D), B__law_is_in_2 [some R, some (lrD x), some (.lst (ilD r.1)), some (.int r.2), d4, d5, d6, d7] μ = if sumZ r.1 x.1 ≤ r.2 * x.2 then .nx [some R, some (lrD x), some (.lst (ilD r.1)), some (.int r.2), some (.int (sumZ r.1 x.1)), d5, d6, d7] μ else .rt (.bl false) μ := by
    intro R r hr d4 d5 d6 d7
    have hz := zip_map (en := D.int) (fn := D.int) (xs := r.1) (ys := x.1)
    have hc := lc_map (t := tgTup 2 (tgCons (tgName 6) (tgCons (tgName 7) tgNil))) (f := E__law_is_in_1) (μ := μ) (ρ := [some R, some (lrD x), some (.lst (ilD r.1)), some (.int r.2), d4, none, none, none]) (en := fun p : Int × Int => .tup [.int p.1, .int p.2]) (g := fun p => .int (p.1 * p.2)) (xs := r.1.zip x.1) (sl_le (by rw [List.length_zip]; omega)) fun p hp => by
      obtain ⟨ha, hb⟩ := List.of_mem_zip hp
      refine ⟨_, (by simp; rfl), ?_⟩
      have hm := mulZ (μ := μ) (i := p.1) (j := p.2) (hr.2.1 _ ha) (hx.1 _ hb) (by omega)
      unfold E__law_is_in_1
      simp [hm]
    have e1 : (r.1.zip x.1).map (fun p => D.int (p.1 * p.2)) = ((r.1.zip x.1).map fun p => p.1 * p.2).map D.int := by rw [List.map_map]; rfl
    have hsum := bi_sum (μ := μ) (l := (r.1.zip x.1).map fun p => p.1 * p.2)
    rw [e1] at hc
    have hm := mulZ (μ := μ) hr.2.2 hx.2 (by omega)
    have es : ((r.1.zip x.1).map fun p => p.1 * p.2).sum = sumZ r.1 x.1 := rfl
    rw [es] at hsum
    unfold B__law_is_in_2
    unfold lrD at hc ⊢
    simp only [ilD] at *
    by_cases q : sumZ r.1 x.1 ≤ r.2 * x.2
    · have q' : ¬ r.2 * x.2 < sumZ r.1 x.1 := by omega
      simp [-List.map_map, hz, hc, hsum, hm, q, q']
    · have q' : r.2 * x.2 < sumZ r.1 x.1 := by omega
      simp [-List.map_map, hz, hc, hsum, hm, q, q']
  have loop : ∀ (l : List LR) (R : D) (d2 d3 d4 d5 d6 d7 : Option D), (∀ r ∈ l, r.1.length ≤ 50 ∧ (∀ z ∈ r.1, Sz w z) ∧ Sz w r.2) → (inU l x = true → ∃ e2 e3 e4, forGo (tgTup 2 (tgCons (tgName 2) (tgCons (tgName 3) tgNil))) B__law_is_in_2 [] (l.map lrD) [some R, some (lrD x), d2, d3, d4, d5, d6, d7] μ = .nx [some R, some (lrD x), e2, e3, e4, d5, d6, d7] μ) ∧ (inU l x = false → forGo (tgTup 2 (tgCons (tgName 2) (tgCons (tgName 3) tgNil))) B__law_is_in_2 [] (l.map lrD) [some R, some (lrD x), d2, d3, d4, d5, d6, d7] μ = .rt (.bl false) μ) := by
    intro l
    induction l with
    | nil => exact fun R d2 d3 d4 d5 d6 d7 _ => ⟨fun _ => ⟨d2, d3, d4, by simp⟩, fun h => by simp [inU] at h⟩
    | cons r l ih =>
      intro R d2 d3 d4 d5 d6 d7 hl
      have hbr := hb R r (hl r (by simp)) d4 d5 d6 d7
      by_cases q : sumZ r.1 x.1 ≤ r.2 * x.2
      · rw [if_pos q] at hbr
        have e : inU (r :: l) x = inU l x := by unfold inU; simp [q]
        rw [e, List.map_cons]
        have hn := forGo_nx (t := tgTup 2 (tgCons (tgName 2) (tgCons (tgName 3) tgNil))) (d := lrD r) (ds := l.map lrD) (ρ := [some R, some (lrD x), d2, d3, d4, d5, d6, d7]) (by rfl) hbr
        rw [hn]
        exact ih R _ _ _ _ _ _ fun r hr => hl r (by simp [hr])
      · rw [if_neg q] at hbr
        have e : inU (r :: l) x = false := by unfold inU; simp [q]
        rw [e, List.map_cons]
        exact ⟨fun h => by simp at h, fun _ => forGo_rt (by rfl) hbr⟩
  obtain ⟨l1, l2⟩ := loop rows (.lst (rows.map lrD)) none none none none none none hr
  show G__law_is_in [some (.lst (rows.map lrD)), some (lrD x), none, none, none, none, none, none] μ = _
  unfold G__law_is_in
  cases e : inU rows x with
  | true =>
    obtain ⟨e2, e3, e4, h⟩ := l1 e
    simp [h]
  | false => simp [l2 e]
end K14

set_option Elab.async false
set_option linter.all false
set_option maxRecDepth 100000
namespace Lite
open PySem L2
theorem sl_big {k : Nat} (h : k ≤ 100000) : k ≤ sizeLine := Nat.le_trans h (by decide)
theorem sl_lt {k : Nat} (h : k < 100000) : k < sizeLine := Nat.lt_of_lt_of_le h (by decide)
section
variable {ρ ρ1 ρ2 : Lite.Frame} {μ μ1 μ2 : Store} {d : D} {ds : List D} {t : Tg} {F : SS} {gs : List (Nat × List D)}
theorem forGo_nxG (hg : guard μ gs = true) (h : t d ρ μ = some ρ1) (hb : F ρ1 μ = .nx ρ2 μ2) : forGo t F gs (d :: ds) ρ μ = forGo t F gs ds ρ2 μ2 := by
  rw [forGo, if_pos hg]; simp only [h, hb]
theorem forGo_nilG (hg : guard μ gs = true) : forGo t F gs [] ρ μ = .nx ρ μ := by
  rw [forGo, if_pos hg]
theorem itm_ref {k : Nat} (h : μ[k]? = some (.lst ds)) : itmOf (.ref k) μ = .ok ⟨ds, [(k, ds)]⟩ μ := by
  unfold itmOf seqOf
  simp only [h]
theorem rng_nat' {n : Nat} (h : n ≤ 100) : rngR (.int n) μ = .ok ⟨(List.range n).map fun i : Nat => D.int (i : Int), []⟩ μ := rng_nat h
theorem mapM_frz {k n : Nat} : ∀ {ds : List D}, belowL n ds = true → ds.mapM (frz (k + 1) n μ) = some ds
  | [], _ => rfl
  | d :: ds, h => by
    rw [belowL_cons, Bool.and_eq_true] at h
    rw [List.mapM_cons, frz_below h.1]
    simp [mapM_frz h.2]
theorem frz_ref {k n i : Nat} (hi : n ≤ i) (h : μ[i]? = some (.lst ds)) (hb : belowL n ds = true) : frz (k + 2) n μ (.ref i) = some (.lst ds) := by
  have hr : below n (.ref i) = false := by
    show decide (i < n) = false
    exact decide_eq_false (by omega)
  unfold frz
  rw [hr]
  simp only [h, mapM_frz hb, Bool.false_eq_true, if_false]
  rfl
/-- a def that gives a list of its own -/
theorem runF_own {N : List Str} {G : SS} {ds es : List D} {ext : Store} {i : Nat} (h : G (ds.map some ++ List.replicate (N.length - ds.length) none) μ = .rt (.ref i) (μ ++ ext)) (hi : μ.length ≤ i) (he : (μ ++ ext)[i]? = some (.lst es)) (hb : belowL μ.length es = true) : runF N G ds μ = .ok (.lst es) μ := by
  have hk : KeepOk μ (μ ++ ext) := ⟨by rw [List.length_append]; omega, fun j hj => .inl (List.getElem?_append_left hj)⟩
  unfold runF
  rw [h]
  simp only
  rw [if_pos hk, frz_ref hi he hb]
  simp
end
end Lite
namespace K14
open PySem L2 Lite LP
theorem int_map_cons {j : Nat} {xs : List Nat} : (j :: xs).map (fun k : Nat => D.int (k : Int)) = .int (j : Int) :: xs.map fun k : Nat => D.int (k : Int) := rfl
/-- rows i and j make a point, by two -/
theorem loop_j2 {R : List D} {n i k : Nat} {pt : Nat → Nat → D} (hR : R.length = n) (hi : i < n) (hpt : ∀ i j (μ : Store), i < n → j < n → ∃ a b, R[i]? = some a ∧ R[j]? = some b ∧ F__law_two.run [a, b] μ = .ok (pt i j) μ) (d3 d4 d7 d8 : Option D) : ∀ (xs : List Nat) (es : List D) (μ : Store) (d6 : Option D), (∀ j ∈ xs, j < n) → μ[k]? = some (.lst es) → es.length + xs.length < 100000 →
    ∃ e6, forGo (tgName 6) B__law_corners_2 [] (xs.map fun k : Nat => D.int (k : Int)) [some (.lst R), some (.int 2), some (.ref k), d3, d4, some (.int (i : Int)), d6, d7, d8] μ = .nx [some (.lst R), some (.int 2), some (.ref k), d3, d4, some (.int (i : Int)), e6, d7, d8] (μ.set k (.lst (es ++ xs.map (pt i))))
  | [], es, μ, d6, _, hk, _ => ⟨d6, by
    obtain ⟨hl, he⟩ := List.getElem?_eq_some_iff.mp hk
    simp [← he]⟩
  | j :: xs, es, μ, d6, hj, hk, hl => by
    have hl' : es.length + (xs.length + 1) < 100000 := hl
    have hjn := hj j (by simp)
    obtain ⟨a, b, ha, hb, hab⟩ := hpt i j μ hi hjn
    have hp := app_eq (d := pt i j) hk (sl_lt (by omega))
    have hty := ty_ref hk
    have har : (2 : Nat) = F__law_two.ar := rfl
    have hai : atI R (i : Int) = some a := by rw [Lite.atI_nat, ha]
    have hbj : atI R (j : Int) = some b := by rw [Lite.atI_nat, hb]
    have hbody : B__law_corners_2 [some (.lst R), some (.int 2), some (.ref k), d3, d4, some (.int (i : Int)), some (.int (j : Int)), d7, d8] μ = .nx [some (.lst R), some (.int 2), some (.ref k), d3, d4, some (.int (i : Int)), some (.int (j : Int)), d7, d8] (μ.set k (.lst (es ++ [pt i j]))) := by
      unfold B__law_corners_2
      simp [hty, hai, hbj, ← har, hab, hp]
    have hk' : (μ.set k (.lst (es ++ [pt i j])))[k]? = some (.lst (es ++ [pt i j])) := List.getElem?_set_self (List.getElem?_eq_some_iff.mp hk).1
    obtain ⟨e6, h⟩ := loop_j2 hR hi hpt d3 d4 d7 d8 xs (es ++ [pt i j]) _ (some (.int (j : Int))) (fun j hj' => hj j (by simp [hj'])) hk' (by simp; omega)
    refine ⟨e6, ?_⟩
    rw [int_map_cons, forGo_nx (by rfl) hbody, h, List.set_set]
    simp
theorem loop_i2 {R : List D} {n k : Nat} {pt : Nat → Nat → D} (hR : R.length = n) (hn : n ≤ 60) (hpt : ∀ i j (μ : Store), i < n → j < n → ∃ a b, R[i]? = some a ∧ R[j]? = some b ∧ F__law_two.run [a, b] μ = .ok (pt i j) μ) (d3 d4 d7 d8 : Option D) : ∀ (xs : List Nat) (es : List D) (μ : Store) (d5 d6 : Option D), (∀ j ∈ xs, j < n) → μ[k]? = some (.lst es) → es.length + 60 * xs.length < 100000 →
    ∃ e5 e6, forGo (tgName 5) B__law_corners_3 [] (xs.map fun k : Nat => D.int (k : Int)) [some (.lst R), some (.int 2), some (.ref k), d3, d4, d5, d6, d7, d8] μ = .nx [some (.lst R), some (.int 2), some (.ref k), d3, d4, e5, e6, d7, d8] (μ.set k (.lst (es ++ xs.flatMap fun i => (List.range i).map (pt i))))
  | [], es, μ, d5, d6, _, hk, _ => ⟨d5, d6, by
    obtain ⟨hl, he⟩ := List.getElem?_eq_some_iff.mp hk
    simp [← he]⟩
  | i :: xs, es, μ, d5, d6, hj, hk, hl => by
    have hl' : es.length + 60 * (xs.length + 1) < 100000 := hl
    have hin := hj i (by simp)
    obtain ⟨e6, h1⟩ := loop_j2 (k := k) hR hin hpt d3 d4 d7 d8 (List.range i) es μ d6 (fun j hj' => by have := List.mem_range.mp hj'; omega) hk (by simp; omega)
    have hbody : B__law_corners_3 [some (.lst R), some (.int 2), some (.ref k), d3, d4, some (.int (i : Int)), d6, d7, d8] μ = .nx [some (.lst R), some (.int 2), some (.ref k), d3, d4, some (.int (i : Int)), e6, d7, d8] (μ.set k (.lst (es ++ (List.range i).map (pt i)))) := by
      unfold B__law_corners_3
      simp [-List.map_append, rng_nat (μ := μ) (show i ≤ 100 by omega), h1]
    have hk' : (μ.set k (.lst (es ++ (List.range i).map (pt i))))[k]? = some (.lst (es ++ (List.range i).map (pt i))) := List.getElem?_set_self (List.getElem?_eq_some_iff.mp hk).1
    obtain ⟨f5, f6, h⟩ := loop_i2 hR hn hpt d3 d4 d7 d8 xs (es ++ (List.range i).map (pt i)) _ (some (.int (i : Int))) e6 (fun j hj' => hj j (by simp [hj'])) hk' (by simp; omega)
    refine ⟨f5, f6, ?_⟩
    rw [int_map_cons, forGo_nx (by rfl) hbody, h, List.set_set]
    simp
/-- .. by three -/
theorem loop_k3 {R : List D} {n i j k : Nat} {pt : Nat → Nat → Nat → D} (hR : R.length = n) (hi : i < n) (hj : j < n) (hpt : ∀ i j l (μ : Store), i < n → j < n → l < n → ∃ a b c, R[i]? = some a ∧ R[j]? = some b ∧ R[l]? = some c ∧ F__law_three.run [a, b, c] μ = .ok (pt i j l) μ) (d3 d4 d8 : Option D) : ∀ (xs : List Nat) (es : List D) (μ : Store) (d7 : Option D), (∀ j ∈ xs, j < n) → μ[k]? = some (.lst es) → es.length + xs.length < 100000 →
    ∃ e7, forGo (tgName 7) B__law_corners_1 [] (xs.map fun k : Nat => D.int (k : Int)) [some (.lst R), some (.int 3), some (.ref k), d3, d4, some (.int (i : Int)), some (.int (j : Int)), d7, d8] μ = .nx [some (.lst R), some (.int 3), some (.ref k), d3, d4, some (.int (i : Int)), some (.int (j : Int)), e7, d8] (μ.set k (.lst (es ++ xs.map (pt i j))))
  | [], es, μ, d7, _, hk, _ => ⟨d7, by
    obtain ⟨hl, he⟩ := List.getElem?_eq_some_iff.mp hk
    simp [← he]⟩
  | l :: xs, es, μ, d7, hjs, hk, hl => by
    have hl' : es.length + (xs.length + 1) < 100000 := hl
    have hln := hjs l (by simp)
    obtain ⟨a, b, c, ha, hb, hc, habc⟩ := hpt i j l μ hi hj hln
    have hp := app_eq (d := pt i j l) hk (sl_lt (by omega))
    have hty := ty_ref hk
    have har : (3 : Nat) = F__law_three.ar := rfl
    have hai : atI R (i : Int) = some a := by rw [Lite.atI_nat, ha]
    have hbj : atI R (j : Int) = some b := by rw [Lite.atI_nat, hb]
    have hcl : atI R (l : Int) = some c := by rw [Lite.atI_nat, hc]
    have hbody : B__law_corners_1 [some (.lst R), some (.int 3), some (.ref k), d3, d4, some (.int (i : Int)), some (.int (j : Int)), some (.int (l : Int)), d8] μ = .nx [some (.lst R), some (.int 3), some (.ref k), d3, d4, some (.int (i : Int)), some (.int (j : Int)), some (.int (l : Int)), d8] (μ.set k (.lst (es ++ [pt i j l]))) := by
      unfold B__law_corners_1
      simp [hty, hai, hbj, hcl, ← har, habc, hp]
    have hk' : (μ.set k (.lst (es ++ [pt i j l])))[k]? = some (.lst (es ++ [pt i j l])) := List.getElem?_set_self (List.getElem?_eq_some_iff.mp hk).1
    obtain ⟨e7, h⟩ := loop_k3 hR hi hj hpt d3 d4 d8 xs (es ++ [pt i j l]) _ (some (.int (l : Int))) (fun j hj' => hjs j (by simp [hj'])) hk' (by simp; omega)
    refine ⟨e7, ?_⟩
    rw [int_map_cons, forGo_nx (by rfl) hbody, h, List.set_set]
    simp
theorem loop_j3 {R : List D} {n i k : Nat} {pt : Nat → Nat → Nat → D} (hR : R.length = n) (hi : i < n) (hn : n ≤ 30) (hpt : ∀ i j l (μ : Store), i < n → j < n → l < n → ∃ a b c, R[i]? = some a ∧ R[j]? = some b ∧ R[l]? = some c ∧ F__law_three.run [a, b, c] μ = .ok (pt i j l) μ) (d3 d4 d8 : Option D) : ∀ (xs : List Nat) (es : List D) (μ : Store) (d6 d7 : Option D), (∀ j ∈ xs, j < n) → μ[k]? = some (.lst es) → es.length + 30 * xs.length < 100000 →
    ∃ e6 e7, forGo (tgName 6) B__law_corners_2 [] (xs.map fun k : Nat => D.int (k : Int)) [some (.lst R), some (.int 3), some (.ref k), d3, d4, some (.int (i : Int)), d6, d7, d8] μ = .nx [some (.lst R), some (.int 3), some (.ref k), d3, d4, some (.int (i : Int)), e6, e7, d8] (μ.set k (.lst (es ++ xs.flatMap fun j => (List.range j).map (pt i j))))
  | [], es, μ, d6, d7, _, hk, _ => ⟨d6, d7, by
    obtain ⟨hl, he⟩ := List.getElem?_eq_some_iff.mp hk
    simp [← he]⟩
  | j :: xs, es, μ, d6, d7, hjs, hk, hl => by
    have hl' : es.length + 30 * (xs.length + 1) < 100000 := hl
    have hjn := hjs j (by simp)
    obtain ⟨e7, h1⟩ := loop_k3 (k := k) hR hi hjn hpt d3 d4 d8 (List.range j) es μ d7 (fun j hj' => by have := List.mem_range.mp hj'; omega) hk (by simp; omega)
    have hbody : B__law_corners_2 [some (.lst R), some (.int 3), some (.ref k), d3, d4, some (.int (i : Int)), some (.int (j : Int)), d7, d8] μ = .nx [some (.lst R), some (.int 3), some (.ref k), d3, d4, some (.int (i : Int)), some (.int (j : Int)), e7, d8] (μ.set k (.lst (es ++ (List.range j).map (pt i j)))) := by
      unfold B__law_corners_2
      simp [-List.map_append, rng_nat (μ := μ) (show j ≤ 100 by omega), h1]
    have hk' : (μ.set k (.lst (es ++ (List.range j).map (pt i j))))[k]? = some (.lst (es ++ (List.range j).map (pt i j))) := List.getElem?_set_self (List.getElem?_eq_some_iff.mp hk).1
    obtain ⟨f6, f7, h⟩ := loop_j3 hR hi hn hpt d3 d4 d8 xs (es ++ (List.range j).map (pt i j)) _ (some (.int (j : Int))) e7 (fun j hj' => hjs j (by simp [hj'])) hk' (by simp; omega)
    refine ⟨f6, f7, ?_⟩
    rw [int_map_cons, forGo_nx (by rfl) hbody, h, List.set_set]
    simp
theorem loop_i3 {R : List D} {n k : Nat} {pt : Nat → Nat → Nat → D} (hR : R.length = n) (hn : n ≤ 30) (hpt : ∀ i j l (μ : Store), i < n → j < n → l < n → ∃ a b c, R[i]? = some a ∧ R[j]? = some b ∧ R[l]? = some c ∧ F__law_three.run [a, b, c] μ = .ok (pt i j l) μ) (d3 d4 d8 : Option D) : ∀ (xs : List Nat) (es : List D) (μ : Store) (d5 d6 d7 : Option D), (∀ j ∈ xs, j < n) → μ[k]? = some (.lst es) → es.length + 900 * xs.length < 100000 →
    ∃ e5 e6 e7, forGo (tgName 5) B__law_corners_3 [] (xs.map fun k : Nat => D.int (k : Int)) [some (.lst R), some (.int 3), some (.ref k), d3, d4, d5, d6, d7, d8] μ = .nx [some (.lst R), some (.int 3), some (.ref k), d3, d4, e5, e6, e7, d8] (μ.set k (.lst (es ++ xs.flatMap fun i => (List.range i).flatMap fun j => (List.range j).map (pt i j))))
  | [], es, μ, d5, d6, d7, _, hk, _ => ⟨d5, d6, d7, by
    obtain ⟨hl, he⟩ := List.getElem?_eq_some_iff.mp hk
    simp [← he]⟩
  | i :: xs, es, μ, d5, d6, d7, hj, hk, hl => by
    have hl' : es.length + 900 * (xs.length + 1) < 100000 := hl
    have hin := hj i (by simp)
    obtain ⟨e6, e7, h1⟩ := loop_j3 (k := k) hR hin hn hpt d3 d4 d8 (List.range i) es μ d6 d7 (fun j hj' => by have := List.mem_range.mp hj'; omega) hk (by simp; omega)
    have hbody : B__law_corners_3 [some (.lst R), some (.int 3), some (.ref k), d3, d4, some (.int (i : Int)), d6, d7, d8] μ = .nx [some (.lst R), some (.int 3), some (.ref k), d3, d4, some (.int (i : Int)), e6, e7, d8] (μ.set k (.lst (es ++ (List.range i).flatMap fun j => (List.range j).map (pt i j)))) := by
      unfold B__law_corners_3
      simp [-List.map_append, rng_nat (μ := μ) (show i ≤ 100 by omega), h1]
    have hlen : ((List.range i).flatMap fun j => (List.range j).map (pt i j)).length ≤ 900 := by
      have : ∀ (ys : List Nat), (∀ y ∈ ys, y ≤ 30) → (ys.flatMap fun j => (List.range j).map (pt i j)).length ≤ 30 * ys.length := fun ys => by
        induction ys with
        | nil => intro _; simp
        | cons y ys ih =>
          intro h
          have := ih fun z hz => h z (by simp [hz])
          have := h y (by simp)
          rw [List.flatMap_cons, List.length_append, List.length_map, List.length_range, List.length_cons]
          omega
      have h2 := this (List.range i) fun y hy => by have := List.mem_range.mp hy; omega
      rw [List.length_range] at h2
      omega
    have hk' : (μ.set k (.lst (es ++ (List.range i).flatMap fun j => (List.range j).map (pt i j))))[k]? = some (.lst (es ++ (List.range i).flatMap fun j => (List.range j).map (pt i j))) := List.getElem?_set_self (List.getElem?_eq_some_iff.mp hk).1
    obtain ⟨f5, f6, f7, h⟩ := loop_i3 hR hn hpt d3 d4 d8 xs (es ++ (List.range i).flatMap fun j => (List.range j).map (pt i j)) _ (some (.int (i : Int))) e6 e7 (fun j hj' => hj j (by simp [hj'])) hk' (by rw [List.length_append]; omega)
    refine ⟨f5, f6, f7, ?_⟩
    rw [int_map_cons, forGo_nx (by rfl) hbody, h, List.set_set]
    simp
end K14

set_option Elab.async false
set_option linter.all false
set_option maxRecDepth 100000
namespace K14
open PySem L2 Lite LP
/-- points that are kept -/
def keptU (rows : List LR) (pts : List (Option LR)) : List LR := pts.filterMap fun o => o.filter (inU rows)
theorem loop_keep {R : D} {rows : List LR} {ps : List D} {k k2 : Nat} (hne : k2 ≠ k) (d1 d4 d5 d6 d7 : Option D) : ∀ (pts : List (Option LR)) (fs : List LR) (μ : Store) (d8 : Option D), (∀ x, some x ∈ pts → ∀ μ, F__law_is_in.run [R, lrD x] μ = .ok (.bl (inU rows x)) μ) → μ[k]? = some (.lst ps) → μ[k2]? = some (.lst (fs.map lrD)) → fs.length + pts.length < 100000 →
    ∃ e8, forGo (tgName 8) B__law_corners_4 [(k, ps)] (pts.map pt3) [some R, d1, some (.ref k), some (.ref k2), d4, d5, d6, d7, d8] μ = .nx [some R, d1, some (.ref k), some (.ref k2), d4, d5, d6, d7, e8] (μ.set k2 (.lst ((fs ++ keptU rows pts).map lrD)))
  | [], fs, μ, d8, _, hk, hk2, _ => ⟨d8, by
    obtain ⟨hl, he⟩ := List.getElem?_eq_some_iff.mp hk2
    rw [List.map_nil, forGo_nilG (guard_one hk)]
    unfold keptU
    simp [← he]⟩
  | o :: pts, fs, μ, d8, hin, hk, hk2, hl => by
    have hl' : fs.length + (pts.length + 1) < 100000 := hl
    have har : (2 : Nat) = F__law_is_in.ar := rfl
    rw [List.map_cons]
    cases o with
    | none =>
      have hbody : B__law_corners_4 [some R, d1, some (.ref k), some (.ref k2), d4, d5, d6, d7, some .non] μ = .nx [some R, d1, some (.ref k), some (.ref k2), d4, d5, d6, d7, some .non] μ := by
        unfold B__law_corners_4
        simp [isNon]
      obtain ⟨e8, h⟩ := loop_keep hne d1 d4 d5 d6 d7 pts fs μ (some .non) (fun x hx => hin x (by simp [hx])) hk hk2 (by omega)
      exact ⟨e8, by rw [forGo_nxG (guard_one hk) (by rfl) hbody]; exact h⟩
    | some x =>
      have hx := hin x (by simp) μ
      have hnn : isNon (lrD x) = false := rfl
      cases q : inU rows x with
      | false =>
        rw [q] at hx
        have hbody : B__law_corners_4 [some R, d1, some (.ref k), some (.ref k2), d4, d5, d6, d7, some (lrD x)] μ = .nx [some R, d1, some (.ref k), some (.ref k2), d4, d5, d6, d7, some (lrD x)] μ := by
          unfold B__law_corners_4
          simp [hnn, ← har, hx]
        obtain ⟨e8, h⟩ := loop_keep hne d1 d4 d5 d6 d7 pts fs μ (some (lrD x)) (fun x hx => hin x (by simp [hx])) hk hk2 (by omega)
        refine ⟨e8, ?_⟩
        rw [forGo_nxG (guard_one hk) (by rfl) hbody, h]
        unfold keptU
        simp [q, Option.filter]
      | true =>
        rw [q] at hx
        have hty := ty_ref hk2
        have hp := app_eq (d := lrD x) hk2 (sl_lt (by rw [List.length_map]; omega))
        have em : fs.map lrD ++ [lrD x] = (fs ++ [x]).map lrD := by simp
        rw [em] at hp
        have hbody : B__law_corners_4 [some R, d1, some (.ref k), some (.ref k2), d4, d5, d6, d7, some (lrD x)] μ = .nx [some R, d1, some (.ref k), some (.ref k2), d4, d5, d6, d7, some (lrD x)] (μ.set k2 (.lst ((fs ++ [x]).map lrD))) := by
          unfold B__law_corners_4
          simp [-List.map_append, hnn, ← har, hx, hty, hp]
        have hk2' : (μ.set k2 (.lst ((fs ++ [x]).map lrD)))[k2]? = some (.lst ((fs ++ [x]).map lrD)) := List.getElem?_set_self (List.getElem?_eq_some_iff.mp hk2).1
        have hk' : (μ.set k2 (.lst ((fs ++ [x]).map lrD)))[k]? = some (.lst ps) := by rw [List.getElem?_set_ne hne]; exact hk
        obtain ⟨e8, h⟩ := loop_keep hne d1 d4 d5 d6 d7 pts (fs ++ [x]) _ (some (lrD x)) (fun x hx => hin x (by simp [hx])) hk' hk2' (by simp; omega)
        refine ⟨e8, ?_⟩
        rw [forGo_nxG (guard_one hk) (by rfl) hbody, h, List.set_set]
        unfold keptU
        simp [q, Option.filter]
/-- the corner points of rows -/
structure R2 where
  a : Int
  b : Int
  n : Int
def lr2 (x : R2) : LR := ([x.a, x.b], x.n)
def lr3 (x : R3) : LR := ([x.a, x.b, x.c], x.n)
def R2.sz (w : Nat) (x : R2) : Prop := Sz w x.a ∧ Sz w x.b ∧ Sz w x.n
def r2U (f g : R2) : Option LR := (twoU f.a f.b f.n g.a g.b g.n).map fun x => ([x.1, x.2.1], x.2.2)
theorem pt2_eq {f g : R2} : pt2 (twoU f.a f.b f.n g.a g.b g.n) = pt3 (r2U f g) := by
  unfold r2U
  cases twoU f.a f.b f.n g.a g.b g.n <;> rfl
def pts2 (l : List R2) : List (Option LR) := (List.range l.length).flatMap fun i => (List.range i).map fun j => r2U (l.getD i ⟨0, 0, 0⟩) (l.getD j ⟨0, 0, 0⟩)
def pts3 (l : List R3) : List (Option LR) := (List.range l.length).flatMap fun i => (List.range i).flatMap fun j => (List.range j).map fun m => threeU (l.getD i ⟨0, 0, 0, 0⟩) (l.getD j ⟨0, 0, 0, 0⟩) (l.getD m ⟨0, 0, 0, 0⟩)
theorem r2U_sz {f g : R2} {w : Nat} (hf : f.sz w) (hg : g.sz w) {x : LR} (h : r2U f g = some x) : (∀ z ∈ x.1, Sz (w + w + 1) z) ∧ Sz (w + w + 1) x.2 ∧ 0 < x.2 := by
  unfold r2U at h
  obtain ⟨y, hy, rfl⟩ := Option.map_eq_some_iff.mp h
  obtain ⟨s1, s2, s3, s4⟩ := two_sz hf.1 hf.2.1 hf.2.2 hg.1 hg.2.1 hg.2.2 hy
  refine ⟨fun z hz => ?_, s3, s4⟩
  simp only [List.mem_cons, List.not_mem_nil, or_false] at hz
  rcases hz with rfl | rfl
  · exact s1
  · exact s2
theorem oneU_sz {f g h : R3} {w : Nat} (hf : f.sz w) (hg : g.sz w) (hh : h.sz w) (hc : f.c ≠ 0) {x : LR} (e : oneU f g h = some x) : (∀ z ∈ x.1, Sz (6 * w + 10) z) ∧ Sz (6 * w + 10) x.2 ∧ 0 < x.2 := by
  unfold oneU at e
  obtain ⟨y, hy, rfl⟩ := Option.map_eq_some_iff.mp e
  obtain ⟨g1, g2, g3⟩ := fl_sz hf hg
  obtain ⟨i1, i2, i3⟩ := fl_sz hf hh
  obtain ⟨s1, s2, s3, s4⟩ := two_sz g1 g2 g3 i1 i2 i3 hy
  obtain ⟨f1, f2, f3, f4⟩ := hf
  have hab : Sz w (f.c.natAbs : Int) := by unfold Sz at *; omega
  have hpos : 0 < (f.c.natAbs : Int) := by omega
  have sg : Sz 1 (if 0 < f.c then 1 else -1) := by unfold Sz; split <;> decide
  refine ⟨fun z hz => ?_, (hab.mul s3).mono (by omega), Int.mul_pos hpos s4⟩
  unfold liftU at hz
  simp only [List.mem_cons, List.not_mem_nil, or_false] at hz
  rcases hz with rfl | rfl | rfl
  · exact (hab.mul s1).mono (by omega)
  · exact (hab.mul s2).mono (by omega)
  · exact (sg.mul (((f4.mul s3).sub (f1.mul s1)).sub ((f2.mul s2).mono (Nat.le_succ _)))).mono (by omega)
theorem threeU_sz {a b c : R3} {w : Nat} (ha : a.sz w) (hb : b.sz w) (hc : c.sz w) {x : LR} (e : threeU a b c = some x) : (∀ z ∈ x.1, Sz (6 * w + 10) z) ∧ Sz (6 * w + 10) x.2 ∧ 0 < x.2 := by
  unfold threeU at e
  split at e
  · exact oneU_sz ha hc hb (by assumption) e
  · split at e
    · exact oneU_sz hb ha hc (by assumption) e
    · split at e
      · exact oneU_sz hc hb ha (by assumption) e
      · cases e
theorem getD_mem' {A : Type} {l : List A} {i : Nat} {d : A} (h : i < l.length) : l.getD i d ∈ l := by
  rw [List.getD_eq_getElem?_getD, List.getElem?_eq_getElem h]; simp
theorem pts2_mem {l : List R2} {o : Option LR} (h : o ∈ pts2 l) : ∃ f ∈ l, ∃ g ∈ l, o = r2U f g := by
  unfold pts2 at h
  obtain ⟨i, hi, h⟩ := List.mem_flatMap.mp h
  obtain ⟨j, hj, rfl⟩ := List.mem_map.mp h
  have h1 := List.mem_range.mp hi
  have h2 := List.mem_range.mp hj
  exact ⟨_, getD_mem' h1, _, getD_mem' (by omega), rfl⟩
theorem pts3_mem {l : List R3} {o : Option LR} (h : o ∈ pts3 l) : ∃ f ∈ l, ∃ g ∈ l, ∃ k ∈ l, o = threeU f g k := by
  unfold pts3 at h
  obtain ⟨i, hi, h⟩ := List.mem_flatMap.mp h
  obtain ⟨j, hj, h⟩ := List.mem_flatMap.mp h
  obtain ⟨m, hm, rfl⟩ := List.mem_map.mp h
  have h1 := List.mem_range.mp hi
  have h2 := List.mem_range.mp hj
  have h3 := List.mem_range.mp hm
  exact ⟨_, getD_mem' h1, _, getD_mem' (by omega), _, getD_mem' (by omega), rfl⟩
theorem flat_map {A B C : Type} {f : B → C} {g : A → List B} {l : List A} : (l.flatMap g).map f = l.flatMap fun x => (g x).map f := by
  induction l with
  | nil => rfl
  | cons x l ih => simp [List.flatMap_cons, ih]
theorem get_map {A : Type} {f : A → D} {l : List A} {i : Nat} {d : A} (h : i < l.length) : (l.map f)[i]? = some (f (l.getD i d)) := by
  rw [List.getElem?_map, List.getD_eq_getElem?_getD, List.getElem?_eq_getElem h]; rfl
theorem flat_len {A : Type} {g : Nat → List A} {m : Nat} : ∀ (l : List Nat), (∀ x ∈ l, (g x).length ≤ m) → (l.flatMap g).length ≤ m * l.length
  | [], _ => by simp
  | x :: l, h => by
    have h1 := flat_len l fun y hy => h y (by simp [hy])
    have h2 := h x (by simp)
    rw [List.flatMap_cons, List.length_append, List.length_cons, Nat.mul_succ]
    omega
theorem run_corners2 {l : List R2} {w : Nat} (μ : Store) (hl : l.length ≤ 30) (hw : w ≤ 10000) (hs : ∀ x ∈ l, x.sz w) : F__law_corners.run [.lst ((l.map lr2).map lrD), .int 2] μ = .ok (.lst ((keptU (l.map lr2) (pts2 l)).map lrD)) μ := by
  rw [show F__law_corners.run = runF N__law_corners G__law_corners from rfl]
  have hR : ((l.map lr2).map lrD).length = l.length := by simp
  obtain ⟨e5, e6, h1⟩ := loop_i2 (R := (l.map lr2).map lrD) (n := l.length) (k := μ.length) (pt := fun i j => pt3 (r2U (l.getD i ⟨0, 0, 0⟩) (l.getD j ⟨0, 0, 0⟩))) hR (by omega) (fun i j μ hi hj => by
    refine ⟨lrD (lr2 (l.getD i ⟨0, 0, 0⟩)), lrD (lr2 (l.getD j ⟨0, 0, 0⟩)), by rw [List.map_map]; exact get_map (f := lrD ∘ lr2) hi, by rw [List.map_map]; exact get_map (f := lrD ∘ lr2) hj, ?_⟩
    have s1 := hs _ (getD_mem' (d := ⟨0, 0, 0⟩) hi)
    have s2 := hs _ (getD_mem' (d := ⟨0, 0, 0⟩) hj)
    have := run_two μ (by omega) s1.1 s1.2.1 s1.2.2 s2.1 s2.2.1 s2.2.2
    rw [pt2_eq] at this
    exact this) (some (.ref (μ.length + 1))) (some (.int (l.length : Nat))) none none (List.range l.length) [] (μ ++ [.lst []] ++ [.lst []]) none none (fun j hj => List.mem_range.mp hj) (by simp) (by simp; omega)
  have ef : ([] ++ (List.range l.length).flatMap fun i => (List.range i).map fun j => pt3 (r2U (l.getD i ⟨0, 0, 0⟩) (l.getD j ⟨0, 0, 0⟩))) = (pts2 l).map pt3 := by
    unfold pts2
    rw [flat_map, List.nil_append]
    simp only [List.map_map]
    rfl
  rw [ef] at h1
  have es : (μ ++ [Ob.lst []] ++ [Ob.lst []]).set μ.length (.lst ((pts2 l).map pt3)) = μ ++ [.lst ((pts2 l).map pt3), .lst []] := by simp
  rw [es] at h1
  have hpl : (pts2 l).length ≤ 30 * 30 := by
    unfold pts2
    have := flat_len (m := 30) (g := fun i => (List.range i).map fun j => r2U (l.getD i ⟨0, 0, 0⟩) (l.getD j ⟨0, 0, 0⟩)) (List.range l.length) fun x hx => by
      have := List.mem_range.mp hx
      simp; omega
    rw [List.length_range] at this
    omega
  obtain ⟨e8, h2⟩ := loop_keep (R := .lst ((l.map lr2).map lrD)) (rows := l.map lr2) (ps := (pts2 l).map pt3) (k := μ.length) (k2 := μ.length + 1) (by omega) (some (.int 2)) (some (.int (l.length : Nat))) e5 e6 none (pts2 l) [] (μ ++ [.lst ((pts2 l).map pt3), .lst []]) none (fun x hx μ => by
    obtain ⟨f, hf, g, hg, e⟩ := pts2_mem hx
    obtain ⟨a, b, _⟩ := r2U_sz (hs f hf) (hs g hg) e.symm
    refine run_is_in (w := w) (v := w + w + 1) μ (by omega) (fun r hr => ?_) ⟨a, b⟩
    obtain ⟨y, hy, rfl⟩ := List.mem_map.mp hr
    obtain ⟨y1, y2, y3⟩ := hs y hy
    refine ⟨by simp [lr2], fun z hz => ?_, y3⟩
    simp only [lr2, List.mem_cons, List.not_mem_nil, or_false] at hz
    rcases hz with rfl | rfl
    · exact y1
    · exact y2) (by simp) (by simp) (by simp; omega)
  have es2 : (μ ++ [Ob.lst ((pts2 l).map pt3), Ob.lst []]).set (μ.length + 1) (.lst (([] ++ keptU (l.map lr2) (pts2 l)).map lrD)) = μ ++ [.lst ((pts2 l).map pt3), .lst ((keptU (l.map lr2) (pts2 l)).map lrD)] := by
    rw [List.set_append_right _ _ (by omega)]
    simp
  rw [es2] at h2
  have mk0 : mkRef [] μ = .ok (.ref μ.length) (μ ++ [Ob.lst []]) := mkRef_le (sl_le (by simp))
  have mk1 : mkRef [] (μ ++ [Ob.lst []]) = .ok (.ref (μ.length + 1)) (μ ++ [Ob.lst []] ++ [Ob.lst []]) := by
    have := mkRef_le (μ := μ ++ [Ob.lst []]) (ds := []) (sl_le (by simp))
    simpa using this
  have hit : itmOf (.ref μ.length) (μ ++ [Ob.lst ((pts2 l).map pt3), Ob.lst []]) = .ok ⟨(pts2 l).map pt3, [(μ.length, (pts2 l).map pt3)]⟩ (μ ++ [Ob.lst ((pts2 l).map pt3), Ob.lst []]) := itm_ref (by simp)
  refine runF_own (i := μ.length + 1) (ext := [.lst ((pts2 l).map pt3), .lst ((keptU (l.map lr2) (pts2 l)).map lrD)]) ?_ (by omega) (by rw [List.getElem?_append_right (by omega)]; simp) (belowL_map fun x _ => by simp [lrD])
  show G__law_corners [some (.lst ((l.map lr2).map lrD)), some (.int 2), none, none, none, none, none, none, none] μ = _
  have hlen : biLen [.lst ((l.map lr2).map lrD)] (μ ++ [Ob.lst []] ++ [Ob.lst []]) = .ok (.int (l.length : Nat)) (μ ++ [Ob.lst []] ++ [Ob.lst []]) := by rw [bi_lenL, hR]
  have hrg := rng_nat (μ := μ ++ [Ob.lst []] ++ [Ob.lst []]) (n := l.length) (by omega)
  unfold G__law_corners
  generalize hA : μ ++ [Ob.lst []] ++ [Ob.lst []] = A at *
  generalize hB : μ ++ [Ob.lst ((pts2 l).map pt3), Ob.lst []] = B at *
  simp [-List.map_map, mk0, mk1, hlen, hrg, h1, hit, h2]
end K14

set_option Elab.async false
set_option linter.all false
set_option maxRecDepth 100000
namespace K14
open PySem L2 Lite LP
theorem run_corners3 {l : List R3} {w : Nat} (μ : Store) (hl : l.length ≤ 30) (hw : w ≤ 10000) (hs : ∀ x ∈ l, x.sz w) : F__law_corners.run [.lst ((l.map lr3).map lrD), .int 3] μ = .ok (.lst ((keptU (l.map lr3) (pts3 l)).map lrD)) μ := by
  rw [show F__law_corners.run = runF N__law_corners G__law_corners from rfl]
  have hR : ((l.map lr3).map lrD).length = l.length := by simp
  obtain ⟨e5, e6, e7, h1⟩ := loop_i3 (R := (l.map lr3).map lrD) (n := l.length) (k := μ.length) (pt := fun i j m => pt3 (threeU (l.getD i ⟨0, 0, 0, 0⟩) (l.getD j ⟨0, 0, 0, 0⟩) (l.getD m ⟨0, 0, 0, 0⟩))) hR (by omega) (fun i j m μ hi hj hm => by
    refine ⟨lrD (lr3 (l.getD i ⟨0, 0, 0, 0⟩)), lrD (lr3 (l.getD j ⟨0, 0, 0, 0⟩)), lrD (lr3 (l.getD m ⟨0, 0, 0, 0⟩)), by rw [List.map_map]; exact get_map (f := lrD ∘ lr3) hi, by rw [List.map_map]; exact get_map (f := lrD ∘ lr3) hj, by rw [List.map_map]; exact get_map (f := lrD ∘ lr3) hm, ?_⟩
    exact run_three μ hw (hs _ (getD_mem' hi)) (hs _ (getD_mem' hj)) (hs _ (getD_mem' hm))) (some (.ref (μ.length + 1))) (some (.int (l.length : Nat))) none (List.range l.length) [] (μ ++ [.lst []] ++ [.lst []]) none none none (fun j hj => List.mem_range.mp hj) (by simp) (by simp; omega)
  have ef : ([] ++ (List.range l.length).flatMap fun i => (List.range i).flatMap fun j => (List.range j).map fun m => pt3 (threeU (l.getD i ⟨0, 0, 0, 0⟩) (l.getD j ⟨0, 0, 0, 0⟩) (l.getD m ⟨0, 0, 0, 0⟩))) = (pts3 l).map pt3 := by
    unfold pts3
    rw [flat_map, List.nil_append]
    simp only [flat_map, List.map_map]
    rfl
  rw [ef] at h1
  have es : (μ ++ [Ob.lst []] ++ [Ob.lst []]).set μ.length (.lst ((pts3 l).map pt3)) = μ ++ [.lst ((pts3 l).map pt3), .lst []] := by simp
  rw [es] at h1
  have hpl : (pts3 l).length ≤ 900 * 30 := by
    unfold pts3
    have := flat_len (m := 900) (g := fun i => (List.range i).flatMap fun j => (List.range j).map fun m => threeU (l.getD i ⟨0, 0, 0, 0⟩) (l.getD j ⟨0, 0, 0, 0⟩) (l.getD m ⟨0, 0, 0, 0⟩)) (List.range l.length) fun x hx => by
      have hx' := List.mem_range.mp hx
      have := flat_len (m := 30) (g := fun j => (List.range j).map fun m => threeU (l.getD x ⟨0, 0, 0, 0⟩) (l.getD j ⟨0, 0, 0, 0⟩) (l.getD m ⟨0, 0, 0, 0⟩)) (List.range x) fun y hy => by
        have := List.mem_range.mp hy
        simp; omega
      rw [List.length_range] at this
      omega
    rw [List.length_range] at this
    omega
  obtain ⟨e8, h2⟩ := loop_keep (R := .lst ((l.map lr3).map lrD)) (rows := l.map lr3) (ps := (pts3 l).map pt3) (k := μ.length) (k2 := μ.length + 1) (by omega) (some (.int 3)) (some (.int (l.length : Nat))) e5 e6 e7 (pts3 l) [] (μ ++ [.lst ((pts3 l).map pt3), .lst []]) none (fun x hx μ => by
    obtain ⟨f, hf, g, hg, k, hk, e⟩ := pts3_mem hx
    obtain ⟨a, b, _⟩ := threeU_sz (hs f hf) (hs g hg) (hs k hk) e.symm
    refine run_is_in (w := w) (v := 6 * w + 10) μ (by omega) (fun r hr => ?_) ⟨a, b⟩
    obtain ⟨y, hy, rfl⟩ := List.mem_map.mp hr
    obtain ⟨y1, y2, y3, y4⟩ := hs y hy
    refine ⟨by simp [lr3], fun z hz => ?_, y4⟩
    simp only [lr3, List.mem_cons, List.not_mem_nil, or_false] at hz
    rcases hz with rfl | rfl | rfl
    · exact y1
    · exact y2
    · exact y3) (by simp) (by simp) (by simp; omega)
  have es2 : (μ ++ [Ob.lst ((pts3 l).map pt3), Ob.lst []]).set (μ.length + 1) (.lst (([] ++ keptU (l.map lr3) (pts3 l)).map lrD)) = μ ++ [.lst ((pts3 l).map pt3), .lst ((keptU (l.map lr3) (pts3 l)).map lrD)] := by
    rw [List.set_append_right _ _ (by omega)]
    simp
  rw [es2] at h2
  have mk0 : mkRef [] μ = .ok (.ref μ.length) (μ ++ [Ob.lst []]) := mkRef_le (sl_le (by simp))
  have mk1 : mkRef [] (μ ++ [Ob.lst []]) = .ok (.ref (μ.length + 1)) (μ ++ [Ob.lst []] ++ [Ob.lst []]) := by
    have := mkRef_le (μ := μ ++ [Ob.lst []]) (ds := []) (sl_le (by simp))
    simpa using this
  have hit : itmOf (.ref μ.length) (μ ++ [Ob.lst ((pts3 l).map pt3), Ob.lst []]) = .ok ⟨(pts3 l).map pt3, [(μ.length, (pts3 l).map pt3)]⟩ (μ ++ [Ob.lst ((pts3 l).map pt3), Ob.lst []]) := itm_ref (by simp)
  refine runF_own (i := μ.length + 1) (ext := [.lst ((pts3 l).map pt3), .lst ((keptU (l.map lr3) (pts3 l)).map lrD)]) ?_ (by omega) (by rw [List.getElem?_append_right (by omega)]; simp) (belowL_map fun x _ => by simp [lrD])
  show G__law_corners [some (.lst ((l.map lr3).map lrD)), some (.int 3), none, none, none, none, none, none, none] μ = _
  have hlen : biLen [.lst ((l.map lr3).map lrD)] (μ ++ [Ob.lst []] ++ [Ob.lst []]) = .ok (.int (l.length : Nat)) (μ ++ [Ob.lst []] ++ [Ob.lst []]) := by rw [bi_lenL, hR]
  have hrg := rng_nat (μ := μ ++ [Ob.lst []] ++ [Ob.lst []]) (n := l.length) (by omega)
  unfold G__law_corners
  generalize hA : μ ++ [Ob.lst []] ++ [Ob.lst []] = A at *
  generalize hB : μ ++ [Ob.lst ((pts3 l).map pt3), Ob.lst []] = B at *
  simp [-List.map_map, mk0, mk1, hlen, hrg, h1, hit, h2]
/-- the corners of a panel's rows -/
structure Rows2 (P : Pn) (l : List R2) : Prop where
  eq : lrP P = l.map lr2
  sz : ∀ x ∈ l, x.sz 6
  len : l.length ≤ 12
structure Rows3 (P : Pn) (l : List R3) : Prop where
  eq : lrP P = l.map lr3
  sz : ∀ x ∈ l, x.sz 6
  len : l.length ≤ 12
theorem lrP_ok {P : Pn} {cs : List Cl} (O : PnOk P cs) : (∀ r ∈ lrP P, r.1.length = P.sl.length ∧ (∀ z ∈ r.1, Sz 6 z) ∧ Sz 6 r.2) ∧ (lrP P).length ≤ 12 := by
  have s6 : ∀ z : Int, z.natAbs ≤ 40 → Sz 6 z := fun z h => Nat.lt_of_le_of_lt h (by decide)
  refine ⟨fun r hr => ?_, ?_⟩
  · unfold lrP at hr
    rcases List.mem_append.mp hr with h | h
    · obtain ⟨l, hl, hrl⟩ := List.mem_flatten.mp h
      obtain ⟨⟨p, k⟩, hp, rfl⟩ := List.mem_map.mp hl
      have hp2 : p ∈ P.sl := List.mem_of_getElem? (List.mem_zipIdx_iff_getElem?.mp hp)
      obtain ⟨a, b, c⟩ := O.sl p hp2
      unfold lrS at hrl
      rcases List.mem_cons.mp hrl with e | hrl
      · subst e
        exact ⟨unit_len, fun z hz => s6 z (Nat.le_trans (unit_le z hz) (by omega)), s6 _ (by show p.2.natAbs ≤ 40; omega)⟩
      · have e : r = (negL (unitL P.sl.length k), -p.1) := by simpa using hrl
        subst e
        exact ⟨by show (negL _).length = _; rw [neg_len, unit_len], fun z hz => s6 z (Nat.le_trans (neg_le unit_le z hz) (by omega)), s6 _ (by show (-p.1).natAbs ≤ 40; omega)⟩
    · obtain ⟨l, hl, hrl⟩ := List.mem_flatten.mp h
      obtain ⟨q, hq, rfl⟩ := List.mem_map.mp hl
      have R := O.rl q hq
      have r1 : ∀ z ∈ q.1, z.natAbs ≤ 40 := fun z hz => by have := R.rng z hz; omega
      have r2 : q.2.2.natAbs ≤ 40 := by have := R.lo; have := R.hi; omega
      unfold lrR at hrl
      rcases List.mem_cons.mp hrl with e | hrl
      · subst e
        exact ⟨R.len, fun z hz => s6 z (r1 z hz), s6 _ r2⟩
      · split at hrl
        · have e : r = (negL q.1, -q.2.2) := by simpa using hrl
          subst e
          exact ⟨by show (negL _).length = _; rw [neg_len, R.len], fun z hz => s6 z (neg_le r1 z hz), s6 _ (by show (-q.2.2).natAbs ≤ 40; omega)⟩
        · cases hrl
  · have h1 : ∀ (xs : List (Int × Int)) (k n : Nat), ((xs.zipIdx k).map (lrS n)).flatten.length = 2 * xs.length := fun xs => by
      induction xs with
      | nil => intro k n; rfl
      | cons x xs ih => intro k n; rw [List.zipIdx_cons, List.map_cons, List.flatten_cons, List.length_append, ih]; unfold lrS; simp; omega
    have h2 : ∀ (l : List Rl), ((l.map lrR).flatten).length ≤ 2 * l.length := fun l => by
      induction l with
      | nil => simp
      | cons r l ih =>
        have := lrR_len r
        rw [List.map_cons, List.flatten_cons, List.length_append, List.length_cons]
        omega
    unfold lrP
    rw [List.length_append, h1]
    have := h2 P.rl
    have := O.rn
    have := O.three
    omega
theorem rows2_of : ∀ (L : List LR), (∀ r ∈ L, r.1.length = 2 ∧ (∀ z ∈ r.1, Sz 6 z) ∧ Sz 6 r.2) → ∃ l : List R2, L = l.map lr2 ∧ ∀ x ∈ l, x.sz 6
  | [], _ => ⟨[], rfl, by simp⟩
  | (f, n) :: L, h => by
    obtain ⟨l, hl, hs⟩ := rows2_of L fun r hr => h r (by simp [hr])
    obtain ⟨h1, h2, h3⟩ := h (f, n) (by simp)
    match f, h1 with
    | [a, b], _ =>
      refine ⟨⟨a, b, n⟩ :: l, by rw [hl]; rfl, fun x hx => ?_⟩
      rcases List.mem_cons.mp hx with e | e
      · subst e
        exact ⟨h2 a (by simp), h2 b (by simp), h3⟩
      · exact hs x e
theorem rows3_of : ∀ (L : List LR), (∀ r ∈ L, r.1.length = 3 ∧ (∀ z ∈ r.1, Sz 6 z) ∧ Sz 6 r.2) → ∃ l : List R3, L = l.map lr3 ∧ ∀ x ∈ l, x.sz 6
  | [], _ => ⟨[], rfl, by simp⟩
  | (f, n) :: L, h => by
    obtain ⟨l, hl, hs⟩ := rows3_of L fun r hr => h r (by simp [hr])
    obtain ⟨h1, h2, h3⟩ := h (f, n) (by simp)
    match f, h1 with
    | [a, b, c], _ =>
      refine ⟨⟨a, b, c, n⟩ :: l, by rw [hl]; rfl, fun x hx => ?_⟩
      rcases List.mem_cons.mp hx with e | e
      · subst e
        exact ⟨h2 a (by simp), h2 b (by simp), h2 c (by simp), h3⟩
      · exact hs x e
/-- the corners of a panel, with what is known of each -/
structure Corners (P : Pn) (cn : List LR) : Prop where
  sz : ∀ x ∈ cn, (∀ z ∈ x.1, Sz 50 z) ∧ Sz 50 x.2 ∧ 0 < x.2
  two : P.sl.length = 2 → ∃ l : List R2, lrP P = l.map lr2 ∧ cn = keptU (l.map lr2) (pts2 l)
  three : P.sl.length = 3 → ∃ l : List R3, lrP P = l.map lr3 ∧ cn = keptU (l.map lr3) (pts3 l)
theorem kept_mem {rows : List LR} {pts : List (Option LR)} {x : LR} (h : x ∈ keptU rows pts) : some x ∈ pts ∧ inU rows x = true := by
  unfold keptU at h
  obtain ⟨o, ho, hf⟩ := List.mem_filterMap.mp h
  cases o with
  | none => cases hf
  | some y =>
    cases q : inU rows y with
    | true =>
      have e : (some y).filter (inU rows) = some y := by simp [Option.filter, q]
      rw [show (some y).filter (inU rows) = some x from hf] at e
      cases e
      exact ⟨ho, q⟩
    | false =>
      have e : (some y).filter (inU rows) = none := by simp [Option.filter, q]
      rw [show (some y).filter (inU rows) = some x from hf] at e
      cases e
theorem run_corners {P : Pn} {cs : List Cl} (μ : Store) (O : PnOk P cs) : ∃ cn, F__law_corners.run [.lst ((lrP P).map lrD), .int (P.sl.length : Nat)] μ = .ok (.lst (cn.map lrD)) μ ∧ Corners P cn := by
  obtain ⟨h1, h2⟩ := lrP_ok O
  have o2 := O.two
  have o3 := O.three
  by_cases q : P.sl.length = 2
  · obtain ⟨l, hl, hs⟩ := rows2_of (lrP P) fun r hr => by rw [← q]; exact h1 r hr
    have hll : l.length ≤ 12 := by rw [hl, List.length_map] at h2; exact h2
    have hr := run_corners2 (w := 6) μ (by omega) (by omega) hs
    refine ⟨keptU (l.map lr2) (pts2 l), by rw [hl, q]; exact hr, ⟨fun x hx => ?_, fun _ => ⟨l, hl, rfl⟩, fun e => by omega⟩⟩
    obtain ⟨hx1, _⟩ := kept_mem hx
    obtain ⟨f, hf, g, hg, e⟩ := pts2_mem hx1
    obtain ⟨a, b, c⟩ := r2U_sz (hs f hf) (hs g hg) e.symm
    exact ⟨fun z hz => (a z hz).mono (by omega), b.mono (by omega), c⟩
  · have q3 : P.sl.length = 3 := by omega
    obtain ⟨l, hl, hs⟩ := rows3_of (lrP P) fun r hr => by rw [← q3]; exact h1 r hr
    have hll : l.length ≤ 12 := by rw [hl, List.length_map] at h2; exact h2
    have hr := run_corners3 (w := 6) μ (by omega) (by omega) hs
    refine ⟨keptU (l.map lr3) (pts3 l), by rw [hl, q3]; exact hr, ⟨fun x hx => ?_, fun e => by omega, fun _ => ⟨l, hl, rfl⟩⟩⟩
    obtain ⟨hx1, _⟩ := kept_mem hx
    obtain ⟨f, hf, g, hg, k, hk, e⟩ := pts3_mem hx1
    obtain ⟨a, b, c⟩ := threeU_sz (hs f hf) (hs g hg) (hs k hk) e.symm
    exact ⟨fun z hz => (a z hz).mono (by omega), b.mono (by omega), c⟩
theorem run_law_within {P Q : Pn} {cs ds : List Cl} (μ : Store) (O : PnOk P cs) (O2 : PnOk Q ds) : ∃ cn, Corners P cn ∧ F__law_is_within.run [pnD P, pnD Q] μ = .ok (.bl (cn.all fun x => inU (lrP Q) x)) μ := by
  obtain ⟨cn, hc, hC⟩ := run_corners μ O
  refine ⟨cn, hC, ?_⟩
  have hp := run_rows μ O
  have hq := run_rows μ O2
  obtain ⟨q1, q2⟩ := lrP_ok O2
  have har : (1 : Nat) = F__law_rows.ar := rfl
  have har2 : (2 : Nat) = F__law_corners.ar := rfl
  have har3 : (2 : Nat) = F__law_is_in.ar := rfl
  rw [show F__law_is_within.run = runF N__law_is_within G__law_is_within from rfl]
  refine runF_rt ?_ rfl
  have loop : ∀ (l : List LR) (d3 : Option D), (∀ x ∈ l, x ∈ cn) → ((l.all fun x => inU (lrP Q) x) = true → ∃ e3, forGo (tgName 3) B__law_is_within_1 [] (l.map lrD) [some (pnD P), some (pnD Q), some (.lst ((lrP Q).map lrD)), d3] μ = .nx [some (pnD P), some (pnD Q), some (.lst ((lrP Q).map lrD)), e3] μ) ∧ ((l.all fun x => inU (lrP Q) x) = false → forGo (tgName 3) B__law_is_within_1 [] (l.map lrD) [some (pnD P), some (pnD Q), some (.lst ((lrP Q).map lrD)), d3] μ = .rt (.bl false) μ) := by
    intro l
    induction l with
    | nil => exact fun d3 _ => ⟨fun _ => ⟨d3, by simp⟩, fun h => by simp at h⟩
    | cons x l ih =>
      intro d3 hl
      obtain ⟨s1, s2, _⟩ := hC.sz x (hl x (by simp))
      have hi := run_is_in (rows := lrP Q) (x := x) (w := 6) (v := 50) μ (by omega) (fun r hr => by
        obtain ⟨a, b, c⟩ := q1 r hr
        exact ⟨by rw [a]; have := O2.three; omega, b, c⟩) ⟨s1, s2⟩
      cases e : inU (lrP Q) x with
      | true =>
        rw [e] at hi
        have hb : B__law_is_within_1 [some (pnD P), some (pnD Q), some (.lst ((lrP Q).map lrD)), some (lrD x)] μ = .nx [some (pnD P), some (pnD Q), some (.lst ((lrP Q).map lrD)), some (lrD x)] μ := by
          unfold B__law_is_within_1
          simp [← har3, hi]
        rw [List.map_cons, forGo_nx (by rfl) hb, List.all_cons, e, Bool.true_and]
        exact ih _ fun y hy => hl y (by simp [hy])
      | false =>
        rw [e] at hi
        have hb : B__law_is_within_1 [some (pnD P), some (pnD Q), some (.lst ((lrP Q).map lrD)), some (lrD x)] μ = .rt (.bl false) μ := by
          unfold B__law_is_within_1
          simp [← har3, hi]
        rw [List.map_cons, List.all_cons, e, Bool.false_and]
        exact ⟨fun h => by simp at h, fun _ => forGo_rt (by rfl) hb⟩
  obtain ⟨l1, l2⟩ := loop cn none fun x hx => hx
  show G__law_is_within [some (pnD P), some (pnD Q), none, none] μ = _
  have hlen : ∀ μ : Store, (sBi biLen (sCons (sBin opSub1 (sVar 0) (sCon (.int 0))) (sNil))) [some (pnD P), some (pnD Q), some (.lst ((lrP Q).map lrD)), none] μ = .ok (.int (P.sl.length : Nat)) μ := fun μ => by unfold pnD; simp
  unfold G__law_is_within
  cases e : cn.all fun x => inU (lrP Q) x with
  | true =>
    obtain ⟨e3, h⟩ := l1 e
    simp [-ev_bi, ← har, ← har2, hp, hq, hlen, hc, h]
  | false => simp [-ev_bi, ← har, ← har2, hp, hq, hlen, hc, l2 e]
theorem run_law_unlike {P Q : Pn} {cs ds : List Cl} (μ : Store) (O : PnOk P cs) (O2 : PnOk Q ds) (he : ¬ P.sl.length = Q.sl.length) {y z : Nat → Rat} (hy : Feas (rowsP P) P.sl.length y) (hz : Feas (rowsP Q) Q.sl.length z) : F__law_unlike.run [pnD P, pnD Q] μ = .ok (.bl true) μ := by
  have h := run_within_unlike μ O O2 he hy hz
  have har : (2 : Nat) = F_within.ar := rfl
  rw [show F__law_unlike.run = runF N__law_unlike G__law_unlike from rfl]
  refine runF_rt ?_ rfl
  show G__law_unlike [some (pnD P), some (pnD Q), none] μ = _
  unfold G__law_unlike ssTryIs
  simp [← har, h]
end K14

set_option Elab.async false
set_option linter.all false
set_option maxRecDepth 100000
namespace K14
open PySem L2 Lite LP
/-- a rule at a point -/
def holdsR (r : Rl) (n : Nat) (y : Nat → Rat) : Prop := if r.2.1 then dotL r.1 y n = (r.2.2 : Rat) else dotL r.1 y n ≤ (r.2.2 : Rat)
def InP (P : Pn) (y : Nat → Rat) : Prop := ∀ r ∈ allR P, holdsR r P.sl.length y
theorem dot_neg {l : List Int} {y : Nat → Rat} {n : Nat} : dotL (negL l) y n = - dotL l y n := by
  unfold dotL
  induction n with
  | zero => show (0 : Rat) = -0; grind
  | succ n ih =>
    show sm n _ + ((at_ (negL l) n : Int) : Rat) * y n = -(sm n _ + ((at_ l n : Int) : Rat) * y n)
    rw [ih, at_neg, rc_neg]; grind
theorem dot_app {f g : List Int} {y : Nat → Rat} {n : Nat} (h : n ≤ f.length) : dotL (f ++ g) y n = dotL f y n := by
  unfold dotL
  exact sm_congr fun j hj => by rw [at_app_l (by omega)]
theorem val_row {f : List Int} {b : Int} {n : Nat} {y : Nat → Rat} (h : f.length = n) : val (f ++ [-b]) n y = dotL f y n - (b : Rat) := by
  unfold val
  rw [dot_app (by omega), at_app_r (by omega), h, Nat.sub_self]
  show _ + ((-b : Int) : Rat) = _
  rw [rc_neg]; grind
theorem val_neg {l : List Int} {n : Nat} {y : Nat → Rat} : val (negL l) n y = - val l n y := by
  unfold val
  rw [dot_neg, at_neg, rc_neg]; grind
theorem rows_iff {r : Rl} {n : Nat} {y : Nat → Rat} (h : r.1.length = n) : (∀ q ∈ rowsR r, 0 ≤ val q.1 n y) ↔ holdsR r n y := by
  unfold rowsR holdsR
  constructor
  · intro hq
    have h1 := hq _ (List.mem_cons_self)
    rw [val_neg, val_row h] at h1
    split
    · rename_i q
      have h2 := hq (r.1 ++ [-r.2.2], false) (by rw [if_pos q]; simp)
      rw [show ((r.1 ++ [-r.2.2], false) : Row).1 = r.1 ++ [-r.2.2] from rfl, val_row h] at h2
      grind
    · grind
  · intro hh q hq
    rcases List.mem_cons.mp hq with e | e
    · subst e
      show 0 ≤ val (negL _) n y
      rw [val_neg, val_row h]
      split at hh <;> grind
    · split at e
      · have e' : q = (r.1 ++ [-r.2.2], false) := by simpa using e
        subst e'
        rename_i q1
        rw [if_pos q1] at hh
        show 0 ≤ val (r.1 ++ [-r.2.2]) n y
        rw [val_row h]; grind
      · cases e
theorem row_false {r : Rl} : ∀ q ∈ rowsR r, q.2 = false := fun q hq => by
  unfold rowsR at hq
  rcases List.mem_cons.mp hq with e | e
  · subst e; rfl
  · split at e
    · have e' : q = (r.1 ++ [-r.2.2], false) := by simpa using e
      subst e'; rfl
    · cases e
theorem rowsP_iff {P : Pn} {cs : List Cl} (O : PnOk P cs) {y : Nat → Rat} : (∀ q ∈ rowsP P, 0 ≤ val q.1 P.sl.length y) ↔ InP P y := by
  unfold rowsP InP
  constructor
  · intro h r hr
    exact (rows_iff (all_sm O r hr).len).mp fun q hq => h q (List.mem_flatten.mpr ⟨_, List.mem_map.mpr ⟨r, hr, rfl⟩, hq⟩)
  · intro h q hq
    obtain ⟨l, hl, hql⟩ := List.mem_flatten.mp hq
    obtain ⟨r, hr, rfl⟩ := List.mem_map.mp hl
    exact (rows_iff (all_sm O r hr).len).mpr (h r hr) q hql
theorem dot_unit {n k : Nat} {y : Nat → Rat} (hk : k < n) : dotL (unitL n k) y n = y k := by
  unfold dotL
  rw [sm_one k hk fun j hj hn => by rw [at_unit hj, if_neg hn]; show (0 : Rat) * _ = 0; grind]
  rw [at_unit hk, if_pos rfl]
  show (1 : Rat) * y k = y k
  grind
theorem nn_of {P : Pn} {cs : List Cl} (O : PnOk P cs) {y : Nat → Rat} (h : InP P y) : ∀ j, j < P.sl.length → 0 ≤ y j := by
  intro j hj
  have hp : P.sl[j] ∈ P.sl := List.getElem_mem hj
  have hm : (negL (unitL P.sl.length j), false, -P.sl[j].1) ∈ allR P := by
    unfold allR slRules
    refine List.mem_append.mpr (.inl (List.mem_flatten.mpr ⟨slR P.sl.length (P.sl[j], j), List.mem_map.mpr ⟨(P.sl[j], j), ?_, rfl⟩, by unfold slR; simp⟩))
    exact List.mem_zipIdx_iff_getElem?.mpr (List.getElem?_eq_getElem hj)
  have h1 := h _ hm
  unfold holdsR at h1
  rw [if_neg (by simp)] at h1
  have h2 : - y j ≤ -(P.sl[j].1 : Rat) := by
    rw [← rc_neg]
    have : dotL (negL (unitL P.sl.length j)) y P.sl.length = - y j := by rw [dot_neg, dot_unit hj]
    rw [← this]; exact h1
  have h3 := (O.sl _ hp).1
  have h4 : (0 : Rat) ≤ (P.sl[j].1 : Rat) := by rw [← rc_zero]; exact rle.mpr h3
  grind
theorem feas_iff {P : Pn} {cs : List Cl} (O : PnOk P cs) {y : Nat → Rat} : Feas (rowsP P) P.sl.length y ↔ InP P y := by
  constructor
  · intro h
    exact (rowsP_iff O).mp fun q hq => (h.row q hq).1
  · intro h
    refine ⟨nn_of O h, fun q hq => ⟨(rowsP_iff O).mpr h q hq, fun hs => ?_⟩⟩
    have := ((panel_rows_ok O).1 q hq).2.2
    rw [this] at hs; cases hs
theorem brk_out {P Q : Pn} {cs ds : List Cl} (O : PnOk P cs) (O2 : PnOk Q ds) (he : P.sl.length = Q.sl.length) {q : Row} (hq : q ∈ rowsP Q) {y : Nat → Rat} (h : Feas (brk (rowsP P) q) P.sl.length y) : InP P y ∧ ¬ InP Q y := by
  refine ⟨(rowsP_iff O).mp fun r hr => (h.row r (List.mem_append.mpr (.inl hr))).1, fun hQ => ?_⟩
  have h1 := (h.row (negL q.1, true) (List.mem_append.mpr (.inr (by simp)))).2 rfl
  have h2 := (rowsP_iff O2).mpr hQ q hq
  rw [show ((negL q.1, true) : Row).1 = negL q.1 from rfl, val_neg, he] at h1
  grind
theorem out_brk {P Q : Pn} {cs ds : List Cl} (O : PnOk P cs) (O2 : PnOk Q ds) (he : P.sl.length = Q.sl.length) {y : Nat → Rat} (h1 : InP P y) (h2 : ¬ InP Q y) : ∃ q ∈ rowsP Q, Feas (brk (rowsP P) q) P.sl.length y := by
  refine Classical.byContradiction fun hn => h2 ((rowsP_iff O2).mp fun q hq => Classical.byContradiction fun hv => hn ⟨q, hq, ?_⟩)
  refine ⟨nn_of O h1, fun r hr => ?_⟩
  unfold brk at hr
  rcases List.mem_append.mp hr with a | a
  · refine ⟨(rowsP_iff O).mpr h1 r a, fun hs => ?_⟩
    have := ((panel_rows_ok O).1 r a).2.2
    rw [this] at hs; cases hs
  · have e : r = (negL q.1, true) := by simpa using a
    subst e
    show 0 ≤ val (negL q.1) _ y ∧ (_ → 0 < val (negL q.1) _ y)
    rw [val_neg, he]
    exact ⟨by grind, fun _ => by grind⟩
/-- the law's rows say the same -/
theorem lrR_iff {r : Rl} {n : Nat} {y : Nat → Rat} : (∀ q ∈ lrR r, dotL q.1 y n ≤ (q.2 : Rat)) ↔ holdsR r n y := by
  unfold lrR holdsR
  constructor
  · intro hq
    have h1 := hq _ (List.mem_cons_self)
    split
    · rename_i q
      have h2 := hq (negL r.1, -r.2.2) (by rw [if_pos q]; simp)
      rw [show ((negL r.1, -r.2.2) : LR).1 = negL r.1 from rfl, dot_neg, show ((negL r.1, -r.2.2) : LR).2 = -r.2.2 from rfl, rc_neg] at h2
      have h1' : dotL r.1 y n ≤ (r.2.2 : Rat) := h1
      grind
    · exact h1
  · intro hh q hq
    rcases List.mem_cons.mp hq with e | e
    · subst e
      show dotL r.1 y n ≤ (r.2.2 : Rat)
      split at hh <;> grind
    · split at e
      · have e' : q = (negL r.1, -r.2.2) := by simpa using e
        subst e'
        rename_i q1
        rw [if_pos q1] at hh
        show dotL (negL r.1) y n ≤ ((-r.2.2 : Int) : Rat)
        rw [dot_neg, rc_neg]; grind
      · cases e
theorem lrP_iff {P : Pn} {y : Nat → Rat} : (∀ q ∈ lrP P, dotL q.1 y P.sl.length ≤ (q.2 : Rat)) ↔ InP P y := by
  have hsl : ∀ (p : (Int × Int) × Nat), (∀ q ∈ lrS P.sl.length p, dotL q.1 y P.sl.length ≤ (q.2 : Rat)) ↔ ∀ r ∈ slR P.sl.length p, holdsR r P.sl.length y := by
    intro p
    unfold lrS slR
    constructor
    · intro h r hr
      have h1 := h (unitL P.sl.length p.2, p.1.2) (by simp)
      have h2 := h (negL (unitL P.sl.length p.2), -p.1.1) (by simp)
      rcases List.mem_cons.mp hr with e | e
      · subst e; unfold holdsR; rw [if_neg (by simp)]; exact h2
      · have e' : r = (unitL P.sl.length p.2, false, p.1.2) := by simpa using e
        subst e'; unfold holdsR; rw [if_neg (by simp)]; exact h1
    · intro h q hq
      have h1 := h (negL (unitL P.sl.length p.2), false, -p.1.1) (by simp)
      have h2 := h (unitL P.sl.length p.2, false, p.1.2) (by simp)
      unfold holdsR at h1 h2
      rw [if_neg (by simp)] at h1 h2
      rcases List.mem_cons.mp hq with e | e
      · subst e; exact h2
      · have e' : q = (negL (unitL P.sl.length p.2), -p.1.1) := by simpa using e
        subst e'; exact h1
  unfold lrP InP allR slRules
  constructor
  · intro h r hr
    rcases List.mem_append.mp hr with a | a
    · obtain ⟨l, hl, hrl⟩ := List.mem_flatten.mp a
      obtain ⟨p, hp, rfl⟩ := List.mem_map.mp hl
      exact (hsl p).mp (fun q hq => h q (List.mem_append.mpr (.inl (List.mem_flatten.mpr ⟨_, List.mem_map.mpr ⟨p, hp, rfl⟩, hq⟩)))) r hrl
    · exact lrR_iff.mp fun q hq => h q (List.mem_append.mpr (.inr (List.mem_flatten.mpr ⟨_, List.mem_map.mpr ⟨r, a, rfl⟩, hq⟩)))
  · intro h q hq
    rcases List.mem_append.mp hq with a | a
    · obtain ⟨l, hl, hql⟩ := List.mem_flatten.mp a
      obtain ⟨p, hp, rfl⟩ := List.mem_map.mp hl
      exact (hsl p).mpr (fun r hr => h r (List.mem_append.mpr (.inl (List.mem_flatten.mpr ⟨_, List.mem_map.mpr ⟨p, hp, rfl⟩, hr⟩)))) q hql
    · obtain ⟨l, hl, hql⟩ := List.mem_flatten.mp a
      obtain ⟨r, hr, rfl⟩ := List.mem_map.mp hl
      exact lrR_iff.mpr (h r (List.mem_append.mpr (.inr hr))) q hql
end K14

set_option Elab.async false
set_option linter.all false
namespace CO
/-! moving along a direction till a row is reached; a row: the value a of its factors at the point, the value c at the direction, the bound b -/
theorem way {a b c : Rat} (h : a ≤ b) (hc : 0 < c) : ∃ s : Rat, 0 ≤ s ∧ a + s * c = b := by
  have hi : 0 < c⁻¹ := Rat.inv_pos.mpr hc
  refine ⟨(b - a) * c⁻¹, Rat.mul_nonneg (by grind) (by grind), ?_⟩
  rw [Rat.mul_assoc, Rat.inv_mul_cancel _ (by grind)]
  grind
/-- the least way, among rows that the direction leads to -/
theorem first_hit {A : Type} (a c b : A → Rat) : ∀ (l : List A), (∀ x ∈ l, a x ≤ b x) → (∃ x ∈ l, 0 < c x) → ∃ t : Rat, 0 ≤ t ∧ (∀ x ∈ l, a x + t * c x ≤ b x) ∧ ∃ x ∈ l, 0 < c x ∧ a x + t * c x = b x
  | [], _, h => by obtain ⟨x, hx, _⟩ := h; cases hx
  | y :: l, hb, h => by
    have hy := hb y (by simp)
    by_cases hl : ∃ x ∈ l, 0 < c x
    · obtain ⟨t, t0, h1, x, hx, hc, he⟩ := first_hit a c b l (fun x hx => hb x (by simp [hx])) hl
      by_cases q : a y + t * c y ≤ b y
      · refine ⟨t, t0, fun z hz => ?_, x, by simp [hx], hc, he⟩
        rcases List.mem_cons.mp hz with e | e
        · rw [e]; exact q
        · exact h1 z e
      · have hcy : 0 < c y := by
          refine Classical.byContradiction fun hn => q ?_
          have : 0 ≤ t * (-(c y)) := Rat.mul_nonneg t0 (by grind)
          grind
        obtain ⟨s, s0, hs⟩ := way hy hcy
        have hst : s ≤ t := by
          refine Classical.byContradiction fun hn => q ?_
          have h2 : 0 ≤ (s - t) * c y := Rat.mul_nonneg (by grind) (by grind)
          grind
        refine ⟨s, s0, fun z hz => ?_, y, by simp, hcy, hs⟩
        rcases List.mem_cons.mp hz with e | e
        · rw [e]; grind
        · have h2 := h1 z e
          by_cases q2 : 0 ≤ c z
          · have : 0 ≤ (t - s) * c z := Rat.mul_nonneg (by grind) q2
            grind
          · have h3 : 0 ≤ s * (-(c z)) := Rat.mul_nonneg s0 (by grind)
            have h4 := hb z (by simp [e])
            grind
    · have hcy : 0 < c y := by
        obtain ⟨x, hx, hc⟩ := h
        rcases List.mem_cons.mp hx with e | e
        · rw [← e]; exact hc
        · exact absurd ⟨x, e, hc⟩ hl
      obtain ⟨s, s0, hs⟩ := way hy hcy
      refine ⟨s, s0, fun z hz => ?_, y, by simp, hcy, hs⟩
      rcases List.mem_cons.mp hz with e | e
      · rw [e]; grind
      · have hn : ¬ 0 < c z := fun q => hl ⟨z, e, q⟩
        have h3 : 0 ≤ s * (-(c z)) := Rat.mul_nonneg s0 (by grind)
        have h4 := hb z (by simp [e])
        grind
end CO

set_option Elab.async false
set_option linter.all false
namespace CO
/-- a row in two dimensions -/
structure R2 where
  p : Rat
  q : Rat
  b : Rat
/-- two dimensions: from a point of the rows to a corner where x*g + y*h is not less; the rows bound all ways -/
theorem corner2 (l : List R2) (x y g h : Rat) (hin : ∀ r ∈ l, r.p * x + r.q * y ≤ r.b) (hbd : ∀ u v : Rat, (u ≠ 0 ∨ v ≠ 0) → ∃ r ∈ l, 0 < r.p * u + r.q * v) :
    ∃ x' y', (∀ r ∈ l, r.p * x' + r.q * y' ≤ r.b) ∧ g * x + h * y ≤ g * x' + h * y' ∧ ∃ r ∈ l, ∃ s ∈ l, r.p * x' + r.q * y' = r.b ∧ s.p * x' + s.q * y' = s.b ∧ r.p * s.q - r.q * s.p ≠ 0 := by
  -- one row tight
  have step : ∀ (x y u v : Rat), (∀ r ∈ l, r.p * x + r.q * y ≤ r.b) → (u ≠ 0 ∨ v ≠ 0) → ∃ t : Rat, ∃ r ∈ l, (∀ r ∈ l, r.p * (x + t * u) + r.q * (y + t * v) ≤ r.b) ∧ g * x + h * y ≤ g * (x + t * u) + h * (y + t * v) ∧ r.p * (x + t * u) + r.q * (y + t * v) = r.b ∧ r.p * u + r.q * v ≠ 0 := by
    have half : ∀ (x y u v : Rat), (∀ r ∈ l, r.p * x + r.q * y ≤ r.b) → (u ≠ 0 ∨ v ≠ 0) → 0 ≤ g * u + h * v → ∃ t : Rat, ∃ r ∈ l, (∀ r ∈ l, r.p * (x + t * u) + r.q * (y + t * v) ≤ r.b) ∧ g * x + h * y ≤ g * (x + t * u) + h * (y + t * v) ∧ r.p * (x + t * u) + r.q * (y + t * v) = r.b ∧ r.p * u + r.q * v ≠ 0 := by
      intro x y u v hx hne hg
      obtain ⟨t, t0, h1, r, hr, hc, he⟩ := first_hit (fun r : R2 => r.p * x + r.q * y) (fun r => r.p * u + r.q * v) (fun r => r.b) l hx (hbd u v hne)
      refine ⟨t, r, hr, fun s hs => ?_, ?_, ?_, by grind⟩
      · have := h1 s hs; grind
      · have := Rat.mul_nonneg t0 hg; grind
      · grind
    intro x y u v hx hne
    by_cases q : 0 ≤ g * u + h * v
    · exact half x y u v hx hne q
    · obtain ⟨t, r, hr, h1, h2, h3, h4⟩ := half x y (-u) (-v) hx (hne.imp (fun z e => z (by grind)) (fun z e => z (by grind))) (by grind)
      refine ⟨-t, r, hr, fun s hs => ?_, ?_, ?_, ?_⟩
      · have := h1 s hs; grind
      · grind
      · grind
      · intro e; apply h4; grind
  obtain ⟨t1, r, hr, a1, a2, a3, a4⟩ := step x y 1 0 hin (.inl (by grind))
  have hr0 : -r.q ≠ 0 ∨ r.p ≠ 0 := by
    refine Classical.byContradiction fun q => a4 ?_
    have hq : r.q = 0 := Classical.byContradiction fun z => q (.inl (by grind))
    have hp : r.p = 0 := Classical.byContradiction fun z => q (.inr z)
    rw [hp, hq]; grind
  obtain ⟨t2, s, hs, b1, b2, b3, b4⟩ := step _ _ (-r.q) r.p a1 hr0
  exact ⟨_, _, b1, Rat.le_trans a2 b2, r, hr, s, hs, by grind, b3, by intro e; apply b4; grind⟩
end CO

set_option Elab.async false
set_option linter.all false
namespace CO
structure R3 where
  p : Rat
  q : Rat
  o : Rat
  b : Rat
def R3.at (r : R3) (x y z : Rat) : Rat := r.p * x + r.q * y + r.o * z
theorem step3 (l : List R3) (g h k : Rat) (hbd : ∀ u v w : Rat, (u ≠ 0 ∨ v ≠ 0 ∨ w ≠ 0) → ∃ r ∈ l, 0 < r.at u v w) (x y z u v w : Rat) (hin : ∀ r ∈ l, r.at x y z ≤ r.b) (hne : u ≠ 0 ∨ v ≠ 0 ∨ w ≠ 0) :
    ∃ t : Rat, ∃ r ∈ l, (∀ r ∈ l, r.at (x + t * u) (y + t * v) (z + t * w) ≤ r.b) ∧ g * x + h * y + k * z ≤ g * (x + t * u) + h * (y + t * v) + k * (z + t * w) ∧ r.at (x + t * u) (y + t * v) (z + t * w) = r.b ∧ r.at u v w ≠ 0 := by
  have half : ∀ (u v w : Rat), (u ≠ 0 ∨ v ≠ 0 ∨ w ≠ 0) → 0 ≤ g * u + h * v + k * w → ∃ t : Rat, ∃ r ∈ l, (∀ r ∈ l, r.at (x + t * u) (y + t * v) (z + t * w) ≤ r.b) ∧ g * x + h * y + k * z ≤ g * (x + t * u) + h * (y + t * v) + k * (z + t * w) ∧ r.at (x + t * u) (y + t * v) (z + t * w) = r.b ∧ r.at u v w ≠ 0 := by
    intro u v w hne hg
    obtain ⟨t, t0, h1, r, hr, hc, he⟩ := first_hit (fun r : R3 => r.at x y z) (fun r => r.at u v w) (fun r => r.b) l hin (hbd u v w hne)
    have hexp : ∀ r : R3, r.at (x + t * u) (y + t * v) (z + t * w) = r.at x y z + t * r.at u v w := fun r => by unfold R3.at; grind
    refine ⟨t, r, hr, fun s hs => ?_, ?_, ?_, by grind⟩
    · rw [hexp]; exact h1 s hs
    · have := Rat.mul_nonneg t0 hg; grind
    · rw [hexp]; exact he
  by_cases q : 0 ≤ g * u + h * v + k * w
  · exact half u v w hne q
  · obtain ⟨t, r, hr, h1, h2, h3, h4⟩ := half (-u) (-v) (-w) (hne.imp (fun z e => z (by grind)) fun hh => hh.imp (fun z e => z (by grind)) (fun z e => z (by grind))) (by grind)
    have e1 : x + t * -u = x + -t * u := by grind
    have e2 : y + t * -v = y + -t * v := by grind
    have e3 : z + t * -w = z + -t * w := by grind
    rw [e1, e2, e3] at h2 h3
    refine ⟨-t, r, hr, fun s hs => ?_, h2, h3, ?_⟩
    · have := h1 s hs
      rw [e1, e2, e3] at this; exact this
    · intro e; apply h4; unfold R3.at at *; grind
/-- three dimensions -/
theorem corner3 (l : List R3) (x y z g h k : Rat) (hin : ∀ r ∈ l, r.at x y z ≤ r.b) (hbd : ∀ u v w : Rat, (u ≠ 0 ∨ v ≠ 0 ∨ w ≠ 0) → ∃ r ∈ l, 0 < r.at u v w) :
    ∃ x' y' z', (∀ r ∈ l, r.at x' y' z' ≤ r.b) ∧ g * x + h * y + k * z ≤ g * x' + h * y' + k * z' ∧ ∃ r ∈ l, ∃ s ∈ l, ∃ t ∈ l, r.at x' y' z' = r.b ∧ s.at x' y' z' = s.b ∧ t.at x' y' z' = t.b ∧ t.at (r.q * s.o - r.o * s.q) (r.o * s.p - r.p * s.o) (r.p * s.q - r.q * s.p) ≠ 0 := by
  obtain ⟨t1, r, hr, a1, a2, a3, a4⟩ := step3 l g h k hbd x y z 1 0 0 hin (.inl (by grind))
  have hp : r.p ≠ 0 := fun e => a4 (by unfold R3.at; rw [e]; grind)
  -- orthogonal to r
  obtain ⟨t2, s, hs, b1, b2, b3, b4⟩ := step3 l g h k hbd _ _ _ (-r.q) r.p 0 a1 (.inr (.inl hp))
  have hm : r.p * s.q - r.q * s.p ≠ 0 := fun e => b4 (by unfold R3.at; grind)
  obtain ⟨t3, t, ht, c1, c2, c3, c4⟩ := step3 l g h k hbd _ _ _ (r.q * s.o - r.o * s.q) (r.o * s.p - r.p * s.o) (r.p * s.q - r.q * s.p) b1 (.inr (.inr hm))
  refine ⟨_, _, _, c1, Rat.le_trans a2 (Rat.le_trans b2 c2), r, hr, s, hs, t, ht, ?_, ?_, c3, c4⟩
  · unfold R3.at at *; grind
  · unfold R3.at at *; grind
end CO

set_option Elab.async false
set_option linter.all false
set_option maxRecDepth 100000
namespace K14
open PySem L2 Lite LP
theorem dot_2 {a b : Int} {y : Nat → Rat} : dotL [a, b] y 2 = (a : Rat) * y 0 + (b : Rat) * y 1 := by
  show (0 + (a : Rat) * y 0) + (b : Rat) * y 1 = _
  grind
theorem dot_3 {a b c : Int} {y : Nat → Rat} : dotL [a, b, c] y 3 = (a : Rat) * y 0 + (b : Rat) * y 1 + (c : Rat) * y 2 := by
  show ((0 + (a : Rat) * y 0) + (b : Rat) * y 1) + (c : Rat) * y 2 = _
  grind
def ptP (x : LR) : Nat → Rat := fun j => ((at_ x.1 j : Int) : Rat) / (x.2 : Rat)
theorem div_mul' {a b : Rat} (h : 0 < b) : b * (a / b) = a := by
  have : b ≠ 0 := by grind
  grind
/-- an integer row at an integer point -/
theorem in2 {a b n t u d : Int} (hd : 0 < d) : (a * t + b * u ≤ n * d) ↔ (a : Rat) * ((t : Rat) / (d : Rat)) + (b : Rat) * ((u : Rat) / (d : Rat)) ≤ (n : Rat) := by
  have hd' : (0 : Rat) < (d : Rat) := rlt.mpr hd
  have e1 := div_mul' (a := (t : Rat)) hd'
  have e2 := div_mul' (a := (u : Rat)) hd'
  rw [← rle, rc_add, rc_mul, rc_mul, rc_mul]
  generalize (t : Rat) / (d : Rat) = x at *
  generalize (u : Rat) / (d : Rat) = y at *
  rw [← e1, ← e2]
  constructor
  · intro h
    refine Classical.byContradiction fun hn => ?_
    have := Rat.mul_lt_mul_of_pos_right (Rat.not_le.mp hn) hd'
    grind
  · intro h
    have := Rat.mul_le_mul_of_nonneg_right h (Rat.le_of_lt hd')
    grind
theorem in3 {a b c n t u v d : Int} (hd : 0 < d) : (a * t + b * u + c * v ≤ n * d) ↔ (a : Rat) * ((t : Rat) / (d : Rat)) + (b : Rat) * ((u : Rat) / (d : Rat)) + (c : Rat) * ((v : Rat) / (d : Rat)) ≤ (n : Rat) := by
  have hd' : (0 : Rat) < (d : Rat) := rlt.mpr hd
  have e1 := div_mul' (a := (t : Rat)) hd'
  have e2 := div_mul' (a := (u : Rat)) hd'
  have e3 := div_mul' (a := (v : Rat)) hd'
  rw [← rle, rc_add, rc_add, rc_mul, rc_mul, rc_mul, rc_mul]
  generalize (t : Rat) / (d : Rat) = x at *
  generalize (u : Rat) / (d : Rat) = y at *
  generalize (v : Rat) / (d : Rat) = z at *
  rw [← e1, ← e2, ← e3]
  constructor
  · intro h
    refine Classical.byContradiction fun hn => ?_
    have := Rat.mul_lt_mul_of_pos_right (Rat.not_le.mp hn) hd'
    grind
  · intro h
    have := Rat.mul_le_mul_of_nonneg_right h (Rat.le_of_lt hd')
    grind
theorem inU2 {l : List R2} {t u d : Int} (hd : 0 < d) : inU (l.map lr2) ([t, u], d) = true ↔ ∀ r ∈ l.map lr2, dotL r.1 (ptP ([t, u], d)) 2 ≤ (r.2 : Rat) := by
  unfold inU
  rw [List.all_eq_true]
  constructor
  · intro h r hr
    have h1 := of_decide_eq_true (h r hr)
    obtain ⟨x, hx, rfl⟩ := List.mem_map.mp hr
    unfold lr2 at h1 ⊢
    rw [dot_2]
    refine in2 hd |>.mp ?_
    have e : sumZ [x.a, x.b] [t, u] = x.a * t + x.b * u := by simp [sumZ]
    show x.a * t + x.b * u ≤ x.n * d
    rw [← e]; exact h1
  · intro h r hr
    have h1 := h r hr
    obtain ⟨x, hx, rfl⟩ := List.mem_map.mp hr
    unfold lr2 at h1 ⊢
    rw [dot_2] at h1
    refine decide_eq_true ?_
    have e : sumZ [x.a, x.b] [t, u] = x.a * t + x.b * u := by simp [sumZ]
    show sumZ [x.a, x.b] [t, u] ≤ x.n * d
    rw [e]; exact (in2 hd).mpr h1
theorem inU3 {l : List R3} {t u v d : Int} (hd : 0 < d) : inU (l.map lr3) ([t, u, v], d) = true ↔ ∀ r ∈ l.map lr3, dotL r.1 (ptP ([t, u, v], d)) 3 ≤ (r.2 : Rat) := by
  unfold inU
  rw [List.all_eq_true]
  have e : ∀ x : R3, sumZ [x.a, x.b, x.c] [t, u, v] = x.a * t + x.b * u + x.c * v := fun x => by simp [sumZ]; omega
  constructor
  · intro h r hr
    have h1 := of_decide_eq_true (h r hr)
    obtain ⟨x, hx, rfl⟩ := List.mem_map.mp hr
    unfold lr3 at h1 ⊢
    rw [dot_3]
    refine in3 hd |>.mp ?_
    show x.a * t + x.b * u + x.c * v ≤ x.n * d
    rw [← e]; exact h1
  · intro h r hr
    have h1 := h r hr
    obtain ⟨x, hx, rfl⟩ := List.mem_map.mp hr
    unfold lr3 at h1 ⊢
    rw [dot_3] at h1
    refine decide_eq_true ?_
    show sumZ [x.a, x.b, x.c] [t, u, v] ≤ x.n * d
    rw [e]; exact (in3 hd).mpr h1
/-- the point of two rows is there, and is where both are tight -/
theorem two_pt {p q n r s m : Int} (h : p * s - q * r ≠ 0) {x y : Rat} (h1 : (p : Rat) * x + (q : Rat) * y = n) (h2 : (r : Rat) * x + (s : Rat) * y = m) : ∃ t u d : Int, twoU p q n r s m = some (t, u, d) ∧ 0 < d ∧ (t : Rat) = (d : Rat) * x ∧ (u : Rat) = (d : Rat) * y := by
  have a1 : ((n * s - q * m : Int) : Rat) = ((p * s - q * r : Int) : Rat) * x := by
    rw [rc_sub, rc_sub, rc_mul, rc_mul, rc_mul, rc_mul, ← h1, ← h2]; grind
  have a2 : ((p * m - n * r : Int) : Rat) = ((p * s - q * r : Int) : Rat) * y := by
    rw [rc_sub, rc_sub, rc_mul, rc_mul, rc_mul, rc_mul, ← h1, ← h2]; grind
  unfold twoU
  rw [if_neg h]
  by_cases q : 0 < p * s - q * r
  · rw [if_pos q]
    exact ⟨_, _, _, rfl, q, a1, a2⟩
  · rw [if_neg q]
    refine ⟨_, _, _, rfl, by omega, ?_, ?_⟩
    · rw [rc_neg, rc_neg, a1]; grind
    · rw [rc_neg, rc_neg, a2]; grind
theorem div_eq {t d : Int} {x : Rat} (hd : 0 < d) (h : (t : Rat) = (d : Rat) * x) : (t : Rat) / (d : Rat) = x := by
  have hd' : (0 : Rat) < (d : Rat) := rlt.mpr hd
  rw [h]
  have : (d : Rat) ≠ 0 := by grind
  grind
def det3 (f g h : R3) : Int := f.a * (g.b * h.c - g.c * h.b) - f.b * (g.a * h.c - g.c * h.a) + f.c * (g.a * h.b - g.b * h.a)
def tight3 (f : R3) (x y z : Rat) : Prop := (f.a : Rat) * x + (f.b : Rat) * y + (f.c : Rat) * z = f.n
theorem one_pt {f g h : R3} (hd : det3 f g h ≠ 0) (hc : f.c ≠ 0) {x y z : Rat} (hf : tight3 f x y z) (hg : tight3 g x y z) (hh : tight3 h x y z) : ∃ t u v d : Int, oneU f g h = some ([t, u, v], d) ∧ 0 < d ∧ (t : Rat) = (d : Rat) * x ∧ (u : Rat) = (d : Rat) * y ∧ (v : Rat) = (d : Rat) * z := by
  unfold tight3 at hf hg hh
  have e : flA f g * flB f h - flB f g * flA f h = f.c * det3 f g h := by unfold flA flB det3; grind
  have hne : flA f g * flB f h - flB f g * flA f h ≠ 0 := by
    rw [e]; exact Int.mul_ne_zero hc hd
  have t1 : (flA f g : Rat) * x + (flB f g : Rat) * y = (flN f g : Int) := by
    unfold flA flB flN
    simp only [rc_sub, rc_mul]
    rw [← hf, ← hg]; grind
  have t2 : (flA f h : Rat) * x + (flB f h : Rat) * y = (flN f h : Int) := by
    unfold flA flB flN
    simp only [rc_sub, rc_mul]
    rw [← hf, ← hh]; grind
  obtain ⟨t, u, d, w1, w2, w3, w4⟩ := two_pt hne t1 t2
  refine ⟨(f.c.natAbs : Int) * t, (f.c.natAbs : Int) * u, (if 0 < f.c then 1 else -1) * (f.n * d - f.a * t - f.b * u), (f.c.natAbs : Int) * d, ?_, Int.mul_pos (by omega) w2, ?_, ?_, ?_⟩
  · unfold oneU
    rw [w1]; rfl
  · rw [rc_mul, rc_mul, w3]; grind
  · rw [rc_mul, rc_mul, w4]; grind
  · have e3 : ((f.n * d - f.a * t - f.b * u : Int) : Rat) = (d : Rat) * (f.c : Rat) * z := by
      simp only [rc_sub, rc_mul]
      rw [w3, w4, ← hf]; grind
    have e4 : ((if 0 < f.c then (1 : Int) else -1 : Int) : Rat) * (f.c : Rat) = ((f.c.natAbs : Int) : Rat) := by
      rw [← rc_mul]
      congr 1
      split <;> omega
    rw [rc_mul, e3, rc_mul, ← e4]; grind
theorem three_pt {a b c : R3} (hd : det3 a b c ≠ 0) {x y z : Rat} (h1 : tight3 a x y z) (h2 : tight3 b x y z) (h3 : tight3 c x y z) : ∃ t u v d : Int, threeU a b c = some ([t, u, v], d) ∧ 0 < d ∧ (t : Rat) = (d : Rat) * x ∧ (u : Rat) = (d : Rat) * y ∧ (v : Rat) = (d : Rat) * z := by
  unfold threeU
  by_cases q1 : a.c = 0
  · rw [if_neg (by omega)]
    by_cases q2 : b.c = 0
    · rw [if_neg (by omega)]
      by_cases q3 : c.c = 0
      · refine absurd ?_ hd
        unfold det3
        rw [q1, q2, q3]; grind
      · rw [if_pos q3]
        exact one_pt (by intro e; apply hd; unfold det3 at *; grind) q3 h3 h2 h1
    · rw [if_pos q2]
      exact one_pt (by intro e; apply hd; unfold det3 at *; grind) q2 h2 h1 h3
  · rw [if_pos q1]
    exact one_pt (by intro e; apply hd; unfold det3 at *; grind) q1 h1 h3 h2
theorem mem_get {A : Type} {l : List A} {x : A} {d : A} (h : x ∈ l) : ∃ i, i < l.length ∧ l.getD i d = x := by
  obtain ⟨i, hi, he⟩ := List.mem_iff_getElem.mp h
  exact ⟨i, hi, by rw [List.getD_eq_getElem?_getD, List.getElem?_eq_getElem hi]; exact he⟩
theorem pts2_in {l : List R2} {i j : Nat} (hi : i < l.length) (hj : j < i) : r2U (l.getD i ⟨0, 0, 0⟩) (l.getD j ⟨0, 0, 0⟩) ∈ pts2 l := by
  unfold pts2
  exact List.mem_flatMap.mpr ⟨i, List.mem_range.mpr hi, List.mem_map.mpr ⟨j, List.mem_range.mpr hj, rfl⟩⟩
theorem pts3_in {l : List R3} {i j m : Nat} (hi : i < l.length) (hj : j < i) (hm : m < j) : threeU (l.getD i ⟨0, 0, 0, 0⟩) (l.getD j ⟨0, 0, 0, 0⟩) (l.getD m ⟨0, 0, 0, 0⟩) ∈ pts3 l := by
  unfold pts3
  exact List.mem_flatMap.mpr ⟨i, List.mem_range.mpr hi, List.mem_flatMap.mpr ⟨j, List.mem_range.mpr hj, List.mem_map.mpr ⟨m, List.mem_range.mpr hm, rfl⟩⟩⟩
theorem kept_in {rows : List LR} {pts : List (Option LR)} {x : LR} (h : some x ∈ pts) (hi : inU rows x = true) : x ∈ keptU rows pts := by
  unfold keptU
  exact List.mem_filterMap.mpr ⟨some x, h, by simp [Option.filter, hi]⟩
end K14

set_option Elab.async false
set_option linter.all false
set_option maxRecDepth 100000
namespace K14
open PySem L2 Lite LP
def c2 (x : R2) : CO.R2 := ⟨(x.a : Rat), (x.b : Rat), (x.n : Rat)⟩
def c3 (x : R3) : CO.R3 := ⟨(x.a : Rat), (x.b : Rat), (x.c : Rat), (x.n : Rat)⟩
theorem sl_row {P : Pn} {k : Nat} (hk : k < P.sl.length) : (unitL P.sl.length k, P.sl[k].2) ∈ lrP P ∧ (negL (unitL P.sl.length k), -P.sl[k].1) ∈ lrP P := by
  have h : (P.sl[k], k) ∈ P.sl.zipIdx 0 := List.mem_zipIdx_iff_getElem?.mpr (List.getElem?_eq_getElem hk)
  unfold lrP
  exact ⟨List.mem_append.mpr (.inl (List.mem_flatten.mpr ⟨_, List.mem_map.mpr ⟨_, h, rfl⟩, by unfold lrS; simp⟩)), List.mem_append.mpr (.inl (List.mem_flatten.mpr ⟨_, List.mem_map.mpr ⟨_, h, rfl⟩, by unfold lrS; simp⟩))⟩
theorem sl_row' {P : Pn} {k n : Nat} (hn : P.sl.length = n) (hk : k < n) : ∃ lo hi : Int, (unitL n k, hi) ∈ lrP P ∧ (negL (unitL n k), lo) ∈ lrP P := by
  subst hn
  exact ⟨_, _, sl_row hk⟩
theorem row2_of {P : Pn} {l : List R2} (hl : lrP P = l.map lr2) {a b n : Int} (h : ([a, b], n) ∈ lrP P) : (⟨a, b, n⟩ : R2) ∈ l := by
  rw [hl] at h
  obtain ⟨x, hx, e⟩ := List.mem_map.mp h
  unfold lr2 at e
  simp only [Prod.mk.injEq, List.cons.injEq, and_true] at e
  obtain ⟨⟨e1, e2⟩, e3⟩ := e
  rw [← e1, ← e2, ← e3]; exact hx
theorem row3_of {P : Pn} {l : List R3} (hl : lrP P = l.map lr3) {a b c n : Int} (h : ([a, b, c], n) ∈ lrP P) : (⟨a, b, c, n⟩ : R3) ∈ l := by
  rw [hl] at h
  obtain ⟨x, hx, e⟩ := List.mem_map.mp h
  unfold lr3 at e
  simp only [Prod.mk.injEq, List.cons.injEq, and_true] at e
  obtain ⟨⟨e1, e2, e4⟩, e3⟩ := e
  rw [← e1, ← e2, ← e3, ← e4]; exact hx
theorem bound2 {P : Pn} {l : List R2} (h2 : P.sl.length = 2) (hl : lrP P = l.map lr2) : ∀ u v : Rat, (u ≠ 0 ∨ v ≠ 0) → ∃ r ∈ l.map c2, 0 < r.p * u + r.q * v := by
  obtain ⟨_, _, s0, s0'⟩ := sl_row' (k := 0) h2 (by omega)
  obtain ⟨_, _, s1, s1'⟩ := sl_row' (k := 1) h2 (by omega)
  have m0 := row2_of hl s0
  have m1 := row2_of hl s0'
  have m2 := row2_of hl s1
  have m3 := row2_of hl s1'
  intro u v h
  have z1 : ((-1 : Int) : Rat) = -1 := rfl
  have z2 : ((1 : Int) : Rat) = 1 := rfl
  have z0 : ((0 : Int) : Rat) = 0 := rfl
  have z3 : ((-0 : Int) : Rat) = 0 := rfl
  by_cases q : u = 0
  · by_cases q2 : 0 < v
    · exact ⟨_, List.mem_map.mpr ⟨_, m2, rfl⟩, by unfold c2; simp [z0, z2]; grind⟩
    · exact ⟨_, List.mem_map.mpr ⟨_, m3, rfl⟩, by unfold c2; simp [z0, z1, z3]; grind⟩
  · by_cases q2 : 0 < u
    · exact ⟨_, List.mem_map.mpr ⟨_, m0, rfl⟩, by unfold c2; simp [z0, z2]; grind⟩
    · exact ⟨_, List.mem_map.mpr ⟨_, m1, rfl⟩, by unfold c2; simp [z0, z1, z3]; grind⟩
theorem bound3 {P : Pn} {l : List R3} (h2 : P.sl.length = 3) (hl : lrP P = l.map lr3) : ∀ u v w : Rat, (u ≠ 0 ∨ v ≠ 0 ∨ w ≠ 0) → ∃ r ∈ l.map c3, 0 < r.at u v w := by
  obtain ⟨_, _, s0, s0'⟩ := sl_row' (k := 0) h2 (by omega)
  obtain ⟨_, _, s1, s1'⟩ := sl_row' (k := 1) h2 (by omega)
  obtain ⟨_, _, s2, s2'⟩ := sl_row' (k := 2) h2 (by omega)
  have m0 := row3_of hl s0
  have m1 := row3_of hl s0'
  have m2 := row3_of hl s1
  have m3 := row3_of hl s1'
  have m4 := row3_of hl s2
  have m5 := row3_of hl s2'
  intro u v w h
  have z1 : ((-1 : Int) : Rat) = -1 := rfl
  have z2 : ((1 : Int) : Rat) = 1 := rfl
  have z0 : ((0 : Int) : Rat) = 0 := rfl
  have z3 : ((-0 : Int) : Rat) = 0 := rfl
  by_cases q : u = 0
  · by_cases q1 : v = 0
    · by_cases q2 : 0 < w
      · exact ⟨_, List.mem_map.mpr ⟨_, m4, rfl⟩, by unfold c3 CO.R3.at; simp [z0, z2]; grind⟩
      · exact ⟨_, List.mem_map.mpr ⟨_, m5, rfl⟩, by unfold c3 CO.R3.at; simp [z0, z1, z3]; grind⟩
    · by_cases q2 : 0 < v
      · exact ⟨_, List.mem_map.mpr ⟨_, m2, rfl⟩, by unfold c3 CO.R3.at; simp [z0, z2]; grind⟩
      · exact ⟨_, List.mem_map.mpr ⟨_, m3, rfl⟩, by unfold c3 CO.R3.at; simp [z0, z1, z3]; grind⟩
  · by_cases q2 : 0 < u
    · exact ⟨_, List.mem_map.mpr ⟨_, m0, rfl⟩, by unfold c3 CO.R3.at; simp [z0, z2]; grind⟩
    · exact ⟨_, List.mem_map.mpr ⟨_, m1, rfl⟩, by unfold c3 CO.R3.at; simp [z0, z1, z3]; grind⟩
/-- a corner where a row of integers is not less, two dimensions -/
theorem corner_2 {P : Pn} {l : List R2} (h2 : P.sl.length = 2) (hl : lrP P = l.map lr2) {y : Nat → Rat} (hy : InP P y) (a b : Int) : ∃ x ∈ keptU (l.map lr2) (pts2 l), (∃ t u d, x = ([t, u], d)) ∧ 0 < x.2 ∧ (a : Rat) * y 0 + (b : Rat) * y 1 ≤ (a : Rat) * ptP x 0 + (b : Rat) * ptP x 1 := by
  have hin := lrP_iff.mpr hy
  rw [hl, h2] at hin
  obtain ⟨x', y', e1, e2, r, hr, s, hs, e3, e4, e5⟩ := CO.corner2 (l.map c2) (y 0) (y 1) a b (fun r hr => by
    obtain ⟨x, hx, rfl⟩ := List.mem_map.mp hr
    have := hin (lr2 x) (List.mem_map.mpr ⟨x, hx, rfl⟩)
    unfold lr2 at this
    rw [dot_2] at this
    exact this) (bound2 h2 hl)
  obtain ⟨f, hf, rfl⟩ := List.mem_map.mp hr
  obtain ⟨g, hg, rfl⟩ := List.mem_map.mp hs
  obtain ⟨i, hi, ei⟩ := mem_get (d := ⟨0, 0, 0⟩) hf
  obtain ⟨j, hj, ej⟩ := mem_get (d := ⟨0, 0, 0⟩) hg
  have hdet : f.a * g.b - f.b * g.a ≠ 0 := by
    intro e
    apply e5
    have : ((f.a * g.b - f.b * g.a : Int) : Rat) = 0 := by rw [e]; rfl
    rw [rc_sub, rc_mul, rc_mul] at this
    exact this
  have key : ∀ (f g : R2) (i j : Nat), i < l.length → l.getD i ⟨0, 0, 0⟩ = f → l.getD j ⟨0, 0, 0⟩ = g → j < i → f.a * g.b - f.b * g.a ≠ 0 → (f.a : Rat) * x' + (f.b : Rat) * y' = f.n → (g.a : Rat) * x' + (g.b : Rat) * y' = g.n → ∃ t u d : Int, ([t, u], d) ∈ keptU (l.map lr2) (pts2 l) ∧ 0 < d ∧ (t : Rat) / (d : Rat) = x' ∧ (u : Rat) / (d : Rat) = y' := by
    intro f g i j hi ei ej hji hd h1 h2
    obtain ⟨t, u, d, w1, w2, w3, w4⟩ := two_pt hd h1 h2
    have d1 := div_eq w2 w3
    have d2 := div_eq w2 w4
    refine ⟨t, u, d, kept_in ?_ ((inU2 w2).mpr fun r hr => ?_), w2, d1, d2⟩
    · have := pts2_in hi hji
      rw [ei, ej] at this
      have e : r2U f g = some ([t, u], d) := by unfold r2U; rw [w1]; rfl
      rw [← e]; exact this
    · obtain ⟨x, hx, rfl⟩ := List.mem_map.mp hr
      have h3 := e1 (c2 x) (List.mem_map.mpr ⟨x, hx, rfl⟩)
      unfold lr2
      rw [dot_2]
      show (x.a : Rat) * ((t : Rat) / (d : Rat)) + (x.b : Rat) * ((u : Rat) / (d : Rat)) ≤ x.n
      rw [d1, d2]
      exact h3
  have fin : ∃ t u d : Int, ([t, u], d) ∈ keptU (l.map lr2) (pts2 l) ∧ 0 < d ∧ (t : Rat) / (d : Rat) = x' ∧ (u : Rat) / (d : Rat) = y' := by
    by_cases q : j < i
    · exact key f g i j hi ei ej q hdet e3 e4
    · by_cases q2 : i < j
      · exact key g f j i hj ej ei q2 (by intro e; apply hdet; grind) e4 e3
      · have : i = j := by omega
        subst this
        rw [← ei, ← ej] at hdet
        refine absurd ?_ hdet
        grind
  obtain ⟨t, u, d, k1, k2, k3, k4⟩ := fin
  refine ⟨_, k1, ⟨t, u, d, rfl⟩, k2, ?_⟩
  show _ ≤ (a : Rat) * ((t : Rat) / (d : Rat)) + (b : Rat) * ((u : Rat) / (d : Rat))
  rw [k3, k4]
  exact e2
theorem corner_3 {P : Pn} {l : List R3} (h2 : P.sl.length = 3) (hl : lrP P = l.map lr3) {y : Nat → Rat} (hy : InP P y) (a b c : Int) : ∃ x ∈ keptU (l.map lr3) (pts3 l), (∃ t u v d, x = ([t, u, v], d)) ∧ 0 < x.2 ∧ (a : Rat) * y 0 + (b : Rat) * y 1 + (c : Rat) * y 2 ≤ (a : Rat) * ptP x 0 + (b : Rat) * ptP x 1 + (c : Rat) * ptP x 2 := by
  have hin := lrP_iff.mpr hy
  rw [hl, h2] at hin
  obtain ⟨x', y', z', e1, e2, r, hr, s, hs, w, hw, e3, e4, e6, e5⟩ := CO.corner3 (l.map c3) (y 0) (y 1) (y 2) a b c (fun r hr => by
    obtain ⟨x, hx, rfl⟩ := List.mem_map.mp hr
    have := hin (lr3 x) (List.mem_map.mpr ⟨x, hx, rfl⟩)
    unfold lr3 at this
    rw [dot_3] at this
    exact this) (bound3 h2 hl)
  obtain ⟨f, hf, rfl⟩ := List.mem_map.mp hr
  obtain ⟨g, hg, rfl⟩ := List.mem_map.mp hs
  obtain ⟨h, hh, rfl⟩ := List.mem_map.mp hw
  obtain ⟨i, hi, ei⟩ := mem_get (d := ⟨0, 0, 0, 0⟩) hf
  obtain ⟨j, hj, ej⟩ := mem_get (d := ⟨0, 0, 0, 0⟩) hg
  obtain ⟨m, hm, em⟩ := mem_get (d := ⟨0, 0, 0, 0⟩) hh
  have hdet : det3 f g h ≠ 0 := by
    intro e
    apply e5
    have : ((det3 f g h : Int) : Rat) = 0 := by rw [e]; rfl
    unfold det3 at this
    simp only [rc_sub, rc_mul, rc_add] at this
    unfold c3 CO.R3.at
    simp only
    grind
  have key : ∀ (f g h : R3) (i j m : Nat), i < l.length → l.getD i ⟨0, 0, 0, 0⟩ = f → l.getD j ⟨0, 0, 0, 0⟩ = g → l.getD m ⟨0, 0, 0, 0⟩ = h → j < i → m < j → det3 f g h ≠ 0 → tight3 f x' y' z' → tight3 g x' y' z' → tight3 h x' y' z' → ∃ t u v d : Int, ([t, u, v], d) ∈ keptU (l.map lr3) (pts3 l) ∧ 0 < d ∧ (t : Rat) / (d : Rat) = x' ∧ (u : Rat) / (d : Rat) = y' ∧ (v : Rat) / (d : Rat) = z' := by
    intro f g h i j m hi ei ej em hji hmj hd h1 h2 h3
    obtain ⟨t, u, v, d, w1, w2, w3, w4, w5⟩ := three_pt hd h1 h2 h3
    have d1 := div_eq w2 w3
    have d2 := div_eq w2 w4
    have d3 := div_eq w2 w5
    refine ⟨t, u, v, d, kept_in ?_ ((inU3 w2).mpr fun r hr => ?_), w2, d1, d2, d3⟩
    · have := pts3_in hi hji hmj
      rw [ei, ej, em, w1] at this
      exact this
    · obtain ⟨x, hx, rfl⟩ := List.mem_map.mp hr
      have h3 := e1 (c3 x) (List.mem_map.mpr ⟨x, hx, rfl⟩)
      unfold lr3
      rw [dot_3]
      show (x.a : Rat) * ((t : Rat) / (d : Rat)) + (x.b : Rat) * ((u : Rat) / (d : Rat)) + (x.c : Rat) * ((v : Rat) / (d : Rat)) ≤ x.n
      rw [d1, d2, d3]
      exact h3
  have hne : i ≠ j ∧ j ≠ m ∧ i ≠ m := by
    refine ⟨fun q => hdet ?_, fun q => hdet ?_, fun q => hdet ?_⟩
    · subst q; rw [← ei, ← ej]; unfold det3; grind
    · subst q; rw [← ej, ← em]; unfold det3; grind
    · subst q; rw [← ei, ← em]; unfold det3; grind
  obtain ⟨n1, n2, n3⟩ := hne
  have fin : ∃ t u v d : Int, ([t, u, v], d) ∈ keptU (l.map lr3) (pts3 l) ∧ 0 < d ∧ (t : Rat) / (d : Rat) = x' ∧ (u : Rat) / (d : Rat) = y' ∧ (v : Rat) / (d : Rat) = z' := by
    have p1 : det3 f h g ≠ 0 := by intro e; apply hdet; unfold det3 at *; grind
    have p2 : det3 g f h ≠ 0 := by intro e; apply hdet; unfold det3 at *; grind
    have p3 : det3 g h f ≠ 0 := by intro e; apply hdet; unfold det3 at *; grind
    have p4 : det3 h f g ≠ 0 := by intro e; apply hdet; unfold det3 at *; grind
    have p5 : det3 h g f ≠ 0 := by intro e; apply hdet; unfold det3 at *; grind
    by_cases q : j < i
    · by_cases q1 : m < j
      · exact key f g h i j m hi ei ej em q q1 hdet e3 e4 e6
      · by_cases q2 : m < i
        · exact key f h g i m j hi ei em ej q2 (by omega) p1 e3 e6 e4
        · exact key h f g m i j hm em ei ej (by omega) q p4 e6 e3 e4
    · by_cases q1 : m < i
      · exact key g f h j i m hj ej ei em (by omega) q1 p2 e4 e3 e6
      · by_cases q2 : m < j
        · exact key g h f j m i hj ej em ei q2 (by omega) p3 e4 e6 e3
        · exact key h g f m j i hm em ej ei (by omega) (by omega) p5 e6 e4 e3
  obtain ⟨t, u, v, d, k1, k2, k3, k4, k5⟩ := fin
  refine ⟨_, k1, ⟨t, u, v, d, rfl⟩, k2, ?_⟩
  show _ ≤ (a : Rat) * ((t : Rat) / (d : Rat)) + (b : Rat) * ((u : Rat) / (d : Rat)) + (c : Rat) * ((v : Rat) / (d : Rat))
  rw [k3, k4, k5]
  exact e2
end K14

set_option Elab.async false
set_option linter.all false
set_option maxRecDepth 100000
namespace K14
open PySem L2 Lite LP
theorem dot_len2 {r : LR} {y z : Nat → Rat} (h : r.1.length = 2) (h0 : y 0 = z 0) (h1 : y 1 = z 1) : dotL r.1 y 2 = dotL r.1 z 2 := by
  unfold dotL
  refine sm_congr fun j hj => ?_
  have : j = 0 ∨ j = 1 := by omega
  rcases this with rfl | rfl
  · rw [h0]
  · rw [h1]
theorem dot_at {l : List Int} {n : Nat} {y : Nat → Rat} : dotL l y (n + 1) = dotL l y n + ((at_ l n : Int) : Rat) * y n := rfl
theorem dot_two {l : List Int} {y : Nat → Rat} : dotL l y 2 = ((at_ l 0 : Int) : Rat) * y 0 + ((at_ l 1 : Int) : Rat) * y 1 := by
  show (0 + _) + _ = _
  grind
theorem dot_three {l : List Int} {y : Nat → Rat} : dotL l y 3 = ((at_ l 0 : Int) : Rat) * y 0 + ((at_ l 1 : Int) : Rat) * y 1 + ((at_ l 2 : Int) : Rat) * y 2 := by
  show ((0 + _) + _) + _ = _
  grind
/-- the law's answer is whether the one's positions are the other's -/
theorem law_iff {P Q : Pn} {cs ds : List Cl} (O : PnOk P cs) (O2 : PnOk Q ds) (he : P.sl.length = Q.sl.length) {cn : List LR} (hC : Corners P cn) : (cn.all fun x => inU (lrP Q) x) = true ↔ ∀ y, InP P y → InP Q y := by
  have o2 := O.two
  have o3 := O.three
  have hQ := (lrP_ok O2).1
  rw [List.all_eq_true]
  by_cases q : P.sl.length = 2
  · obtain ⟨l, hl, hcn⟩ := hC.two q
    obtain ⟨m, hm, _⟩ := rows2_of (lrP Q) fun r hr => by rw [← q, he]; exact hQ r hr
    have q2 : Q.sl.length = 2 := by omega
    constructor
    · intro h y hy
      refine lrP_iff.mp fun r hr => Classical.byContradiction fun hn => ?_
      rw [q2, dot_two] at hn
      obtain ⟨x, hx, ⟨t, u, d, rfl⟩, hd, hge⟩ := corner_2 q hl hy (at_ r.1 0) (at_ r.1 1)
      have hxin := h _ (by rw [hcn]; exact hx)
      rw [hm] at hxin
      have := (inU2 hd).mp hxin r (by rw [← hm]; exact hr)
      rw [dot_two] at this
      grind
    · intro h x hx
      have hpos := (hC.sz x hx).2.2
      rw [hcn] at hx
      obtain ⟨k1, k2⟩ := kept_mem hx
      obtain ⟨f, hf, g, hg, e⟩ := pts2_mem k1
      have hsh : ∃ t u d, x = ([t, u], d) := by
        unfold r2U at e
        obtain ⟨y, _, rfl⟩ := Option.map_eq_some_iff.mp e.symm
        exact ⟨_, _, _, rfl⟩
      obtain ⟨t, u, d, rfl⟩ := hsh
      have hP : InP P (ptP ([t, u], d)) := lrP_iff.mp fun r hr => by
        rw [q]; rw [hl] at hr
        exact (inU2 hpos).mp k2 r hr
      have hq := lrP_iff.mpr (h _ hP)
      rw [hm]
      refine (inU2 hpos).mpr fun r hr => ?_
      have := hq r (by rw [hm]; exact hr)
      rw [q2] at this; exact this
  · have q3 : P.sl.length = 3 := by omega
    obtain ⟨l, hl, hcn⟩ := hC.three q3
    obtain ⟨m, hm, _⟩ := rows3_of (lrP Q) fun r hr => by rw [← q3, he]; exact hQ r hr
    have q2 : Q.sl.length = 3 := by omega
    constructor
    · intro h y hy
      refine lrP_iff.mp fun r hr => Classical.byContradiction fun hn => ?_
      rw [q2, dot_three] at hn
      obtain ⟨x, hx, ⟨t, u, v, d, rfl⟩, hd, hge⟩ := corner_3 q3 hl hy (at_ r.1 0) (at_ r.1 1) (at_ r.1 2)
      have hxin := h _ (by rw [hcn]; exact hx)
      rw [hm] at hxin
      have := (inU3 hd).mp hxin r (by rw [← hm]; exact hr)
      rw [dot_three] at this
      grind
    · intro h x hx
      have hpos := (hC.sz x hx).2.2
      rw [hcn] at hx
      obtain ⟨k1, k2⟩ := kept_mem hx
      obtain ⟨f, hf, g, hg, k, hk, e⟩ := pts3_mem k1
      have hone : ∀ a b c : R3, oneU a b c = some x → ∃ t u v d, x = ([t, u, v], d) := fun a b c e => by
        unfold oneU at e
        obtain ⟨y, _, rfl⟩ := Option.map_eq_some_iff.mp e
        exact ⟨_, _, _, _, rfl⟩
      have hsh : ∃ t u v d, x = ([t, u, v], d) := by
        have e' := e.symm
        unfold threeU at e'
        split at e'
        · exact hone _ _ _ e'
        · split at e'
          · exact hone _ _ _ e'
          · split at e'
            · exact hone _ _ _ e'
            · cases e'
      obtain ⟨t, u, v, d, rfl⟩ := hsh
      have hP : InP P (ptP ([t, u, v], d)) := lrP_iff.mp fun r hr => by
        rw [q3]; rw [hl] at hr
        exact (inU3 hpos).mp k2 r hr
      have hq := lrP_iff.mpr (h _ hP)
      rw [hm]
      refine (inU3 hpos).mpr fun r hr => ?_
      have := hq r (by rw [hm]; exact hr)
      rw [q2] at this; exact this
theorem low_part {t b : Int} (hb : 0 < b) : Nat.gcd (lowP t b).1.natAbs (lowP t b).2.natAbs = 1 := by
  unfold lowP
  have hg : gcdL [t, b] = Nat.gcd t.natAbs b.natAbs := by
    show Nat.gcd t.natAbs (Nat.gcd b.natAbs 0) = _
    rw [Nat.gcd_zero_right]
  have hgp : 0 < Nat.gcd t.natAbs b.natAbs := Nat.gcd_pos_of_pos_right _ (by omega)
  have hp : part [t, b] = (Nat.gcd t.natAbs b.natAbs : Int) := by
    unfold part
    rw [hg, if_pos hgp]
  show Nat.gcd (t / part [t, b]).natAbs (b / part [t, b]).natAbs = 1
  rw [Int.natAbs_ediv_of_dvd (part_dvd (by simp)), Int.natAbs_ediv_of_dvd (part_dvd (by simp)), hp, Int.natAbs_natCast]
  exact Nat.coprime_div_gcd_div_gcd hgp
theorem sum_gcd : ∀ (l : List (Int × (Int × Int))) (s : Int × Int), 0 < s.2 → (∀ x ∈ l, 0 < x.2.2) → (l = [] → Nat.gcd s.1.natAbs s.2.natAbs = 1) → Nat.gcd (sumU l s).1.natAbs (sumU l s).2.natAbs = 1
  | [], s, hs, _, h => h rfl
  | x :: l, s, hs, hx, _ => by
    have hp := Int.mul_pos hs (hx x (by simp))
    exact sum_gcd l _ (low_pos hp) (fun y hy => hx y (by simp [hy])) fun _ => low_part hp
theorem tot_dot {f : List Int} {l : List (Int × Int)} (h : f.length = l.length) : totR (f.zip l) = dotL f (ptOf l) l.length := by
  have gen : ∀ (f : List Int) (l : List (Int × Int)) (y : Nat → Rat) (k : Nat), f.length = l.length → (∀ j, j < l.length → y (k + j) = frR (l.getD j (0, 1))) → totR (f.zip l) = sm l.length (fun j => ((at_ f j : Int) : Rat) * y (k + j)) := by
    intro f
    induction f with
    | nil =>
      intro l y k hl _
      cases l with
      | nil => rfl
      | cons a l => simp at hl
    | cons a f ih =>
      intro l y k hl hy
      cases l with
      | nil => simp at hl
      | cons b l =>
        have hl' : f.length = l.length := by simpa using hl
        have h0 := hy 0 (by simp)
        have h1 := ih l y (k + 1) hl' fun j hj => by
          have := hy (j + 1) (by simp; omega)
          rw [show k + 1 + j = k + (j + 1) by omega, this]; rfl
        show (a : Rat) * frR b + totR (f.zip l) = _
        rw [h1]
        have e := sm_split 1 l.length (fun j => ((at_ (a :: f) j : Int) : Rat) * y (k + j))
        rw [show (b :: l).length = 1 + l.length by simp; omega, e]
        have e1 : sm 1 (fun j => ((at_ (a :: f) j : Int) : Rat) * y (k + j)) = (a : Rat) * frR b := by
          show 0 + (a : Rat) * y (k + 0) = _
          rw [h0]
          show 0 + (a : Rat) * frR b = _
          grind
        rw [e1]
        congr 1
        refine sm_congr fun j _ => ?_
        have e2 : at_ (a :: f) (1 + j) = at_ f j := by unfold at_; rw [Nat.add_comm]; rfl
        rw [e2, show k + (1 + j) = k + 1 + j by omega]
  have := gen f l (ptOf l) 0 h fun j hj => by rw [Nat.zero_add]; rfl
  rw [this]
  unfold dotL
  exact sm_congr fun j _ => by rw [Nat.zero_add]
theorem holds_iff {r : Rl} {n : Nat} {l : List (Int × Int)} (hr : r.1.length = n) (hn : 0 < n) (h : PsOk n l) : holdsU r (sumU (r.1.zip l) (0, 1)) = true ↔ holdsR r n (ptOf l) := by
  unfold holdsR
  have hx : ∀ x ∈ r.1.zip l, 0 < x.2.2 := fun x hx => (h.fr _ (List.of_mem_zip hx).2).1
  obtain ⟨s1, s2⟩ := sum_rat (r.1.zip l) (0, 1) (by decide) hx
  have s3 := sum_gcd (r.1.zip l) (0, 1) (by decide) hx fun _ => by decide
  have e0 : frR (0, 1) = 0 := by
    show ((0 : Int) : Rat) / ((1 : Int) : Rat) = 0
    have : ((0 : Int) : Rat) = 0 := rfl
    rw [this]; grind
  rw [e0, tot_dot (by rw [hr, h.len]), h.len] at s2
  generalize sumU (r.1.zip l) (0, 1) = s at *
  have hd : (0 : Rat) < (s.2 : Rat) := rlt.mpr s1
  have e1 := div_mul' (a := (s.1 : Rat)) hd
  have e2 : frR s = (s.1 : Rat) / (s.2 : Rat) := rfl
  rw [← e2, s2] at e1
  have e3 : (0 : Rat) + dotL r.1 (ptOf l) n = dotL r.1 (ptOf l) n := by grind
  rw [e3] at e1
  generalize dotL r.1 (ptOf l) n = t at *
  -- s.1 = s.2 * t
  have heq : s = (r.2.2, 1) ↔ t = (r.2.2 : Rat) := by
    constructor
    · intro e
      rw [e] at e1
      have : (1 : Rat) * t = (r.2.2 : Rat) := e1
      grind
    · intro e
      rw [e] at e1
      have e4 : s.2 * r.2.2 = s.1 := by
        apply rc_inj
        rw [rc_mul]; exact e1
      have hdv : s.2.natAbs ∣ s.1.natAbs := Int.natAbs_dvd_natAbs.mpr ⟨r.2.2, e4.symm⟩
      rw [Nat.gcd_eq_right hdv] at s3
      have h1 : s.2 = 1 := by omega
      rw [h1, Int.one_mul] at e4
      exact Prod.ext e4.symm h1
  have hlt : s.1 < r.2.2 * s.2 ↔ t < (r.2.2 : Rat) := by
    rw [← rlt, rc_mul, ← e1]
    constructor
    · intro h
      refine Classical.byContradiction fun hn => ?_
      have := Rat.mul_le_mul_of_nonneg_right (Rat.not_lt.mp hn) (Rat.le_of_lt hd)
      grind
    · intro h
      have := Rat.mul_lt_mul_of_pos_right h hd
      grind
  unfold holdsU
  rw [Bool.or_eq_true, Bool.and_eq_true, decide_eq_true_iff, decide_eq_true_iff, heq, hlt]
  cases r.2.1 with
  | true => simp
  | false =>
    simp
    constructor
    · rintro (h | h) <;> grind
    · intro h
      by_cases q : t = (r.2.2 : Rat)
      · exact .inl q
      · exact .inr (by grind)
theorem pos_iff {P : Pn} {cs : List Cl} (O : PnOk P cs) {l : List (Int × Int)} (h : PsOk P.sl.length l) : ((allR P).all fun r => holdsU r (sumU (r.1.zip l) (0, 1))) = true ↔ InP P (ptOf l) := by
  have o2 := O.two
  rw [List.all_eq_true]
  constructor
  · intro hh r hr
    exact (holds_iff (all_sm O r hr).len (by omega) h).mp (hh r hr)
  · intro hh r hr
    exact (holds_iff (all_sm O r hr).len (by omega) h).mpr (hh r hr)
end K14

set_option Elab.async false
set_option linter.all false
set_option maxRecDepth 100000
namespace K14
open PySem L2 Lite LP
theorem ne_bl {a b : Bool} {μ : Store} : cmpNe (.bl a) (.bl b) μ = some (a != b) := by
  have h : cmpNe (.bl a) (.bl b) μ = cmpNe (.bl a) (.bl b) [] := rfl
  rw [h]
  cases a <;> cases b <;> decide +kernel
/-- what the program tells of two panels -/
theorem told {P Q : Pn} {cs ds : List Cl} (μ : Store) (O : PnOk P cs) (O2 : PnOk Q ds) (he : P.sl.length = Q.sl.length) {y z : Nat → Rat} (hy : InP P y) (hz : InP Q z) :
    ∃ o : Option (List (Int × Int)), F_within.run [pnD P, pnD Q] μ = .ok (.bl o.isNone) μ ∧
      F_outside.run [pnD P, pnD Q] μ = .ok (match o with | none => .non | some l => .tup (l.map frD)) μ ∧
      (o = none ↔ ∀ y, InP P y → InP Q y) ∧
      (∀ l, o = some l → PsOk P.sl.length l ∧ InP P (ptOf l) ∧ ¬ InP Q (ptOf l)) := by
  obtain ⟨o, h1, h2, h3, h4⟩ := run_within μ O O2 he ((feas_iff O).mpr hy) ((feas_iff O2).mpr hz)
  have hsome : ∀ l, o = some l → PsOk P.sl.length l ∧ InP P (ptOf l) ∧ ¬ InP Q (ptOf l) := fun l hl => by
    obtain ⟨q, hq, hd⟩ := h4 l hl
    obtain ⟨a, b, c⟩ := hd.yes l rfl
    exact ⟨⟨a, b⟩, brk_out O O2 he hq c⟩
  refine ⟨o, h1, h2, ⟨fun e y hP => Classical.byContradiction fun hn => ?_, fun h => ?_⟩, hsome⟩
  · obtain ⟨q, hq, hf⟩ := out_brk O O2 he hP hn
    exact h3 e q hq y hf
  · cases e : o with
    | none => rfl
    | some l =>
      obtain ⟨_, a, b⟩ := hsome l e
      exact absurd (h _ a) b
theorem body_pair {P Q : Pn} {cs ds : List Cl} (μ : Store) (O : PnOk P cs) (O2 : PnOk Q ds) (he : P.sl.length = Q.sl.length) {y z : Nat → Rat} (hy : InP P y) (hz : InP Q z) (d0 d1 d2 d3 d4 d5 d8 d9 d10 d11 : Option D) :
    ∃ e8 e9, B_law_1 [d0, d1, d2, d3, d4, d5, some (pnD P), some (pnD Q), d8, d9, d10, d11] μ = .nx [d0, d1, d2, d3, d4, d5, some (pnD P), some (pnD Q), e8, e9, d10, d11] μ := by
  obtain ⟨o, h1, h2, h3, h4⟩ := told μ O O2 he hy hz
  obtain ⟨cn, hC, h5⟩ := run_law_within μ O O2
  have hdue : (cn.all fun x => inU (lrP Q) x) = o.isNone := by
    have hi := law_iff O O2 he hC
    cases e : o with
    | none => exact hi.mpr (h3.mp e)
    | some l =>
      cases q : cn.all fun x => inU (lrP Q) x with
      | false => rfl
      | true =>
        have := h3.mpr (hi.mp q)
        rw [e] at this; cases this
  rw [hdue] at h5
  have har : (2 : Nat) = F__law_is_within.ar := rfl
  have har2 : (2 : Nat) = F_outside.ar := rfl
  have har3 : (2 : Nat) = F_within.ar := rfl
  have har4 : (2 : Nat) = F_is_positions.ar := rfl
  cases e : o with
  | none =>
    rw [e] at h1 h2 h5
    refine ⟨some (.bl true), some .non, ?_⟩
    unfold B_law_1
    have n1 := ne_bl (a := true) (b := true) (μ := μ)
    simp [← har, ← har2, ← har3, ← har4, h1, h2, h5, n1, isNon]
  | some l =>
    obtain ⟨p1, p2, p3⟩ := h4 l e
    rw [e] at h1 h2 h5
    have q1 := run_is_positions μ O ((feas_iff O).mpr hy) p1
    rw [(pos_iff O p1).mpr p2] at q1
    rw [he] at p1
    have q2 := run_is_positions μ O2 ((feas_iff O2).mpr hz) p1
    have hf : ((allR Q).all fun r => holdsU r (sumU (r.1.zip l) (0, 1))) = false := by
      cases q : (allR Q).all fun r => holdsU r (sumU (r.1.zip l) (0, 1)) with
      | false => rfl
      | true => exact absurd ((pos_iff O2 p1).mp q) p3
    rw [hf] at q2
    refine ⟨some (.bl false), some (.tup (l.map frD)), ?_⟩
    have n1 := ne_bl (a := false) (b := false) (μ := μ)
    unfold B_law_1
    simp [← har, ← har2, ← har3, ← har4, h1, h2, h5, n1, isNon, q1, q2]
/-- the spot of a drawn panel -/
def spR (spot : List Int) : Nat → Rat := fun j => ((spot.getD j 0 : Int) : Rat)
theorem dot_spot {f spot : List Int} (h : f.length = spot.length) : dotL f (spR spot) spot.length = (dotI f spot : Rat) := by
  have gen : ∀ (f spot : List Int) (y : Nat → Rat) (k : Nat), f.length = spot.length → (∀ j, j < spot.length → y (k + j) = ((spot.getD j 0 : Int) : Rat)) → sm spot.length (fun j => ((at_ f j : Int) : Rat) * y (k + j)) = (dotI f spot : Rat) := by
    intro f
    induction f with
    | nil =>
      intro l y k hl _
      cases l with
      | nil => rfl
      | cons a l => simp at hl
    | cons a f ih =>
      intro l y k hl hy
      cases l with
      | nil => simp at hl
      | cons b l =>
        have hl' : f.length = l.length := by simpa using hl
        have h0 := hy 0 (by simp)
        have h1 := ih l y (k + 1) hl' fun j hj => by
          have := hy (j + 1) (by simp; omega)
          rw [show k + 1 + j = k + (j + 1) by omega, this]; rfl
        have e0 : dotI (a :: f) (b :: l) = a * b + dotI f l := by simp [dotI]
        rw [e0, rc_add, rc_mul, ← h1]
        have e := sm_split 1 l.length (fun j => ((at_ (a :: f) j : Int) : Rat) * y (k + j))
        rw [show (b :: l).length = 1 + l.length by simp; omega, e]
        have e1 : sm 1 (fun j => ((at_ (a :: f) j : Int) : Rat) * y (k + j)) = (a : Rat) * (b : Rat) := by
          show 0 + (a : Rat) * y (k + 0) = _
          rw [h0]
          show 0 + (a : Rat) * (b : Rat) = _
          grind
        rw [e1]
        congr 1
        refine sm_congr fun j _ => ?_
        have e2 : at_ (a :: f) (1 + j) = at_ f j := by unfold at_; rw [Nat.add_comm]; rfl
        rw [e2, show k + (1 + j) = k + 1 + j by omega]
  have := gen f spot (spR spot) 0 h fun j hj => by rw [Nat.zero_add]; rfl
  rw [← this]
  unfold dotL
  exact sm_congr fun j _ => by rw [Nat.zero_add]
theorem spot_in {many most : Nat} {P : Pn} {cs : List Cl} {spot : List Int} (h : Drawn many P cs spot most) : InP P (spR spot) := by
  intro r hr
  have hm := h.hm
  have hl := h.len
  unfold allR slRules at hr
  rcases List.mem_append.mp hr with a | a
  · obtain ⟨l, hl2, hrl⟩ := List.mem_flatten.mp a
    obtain ⟨⟨p, k⟩, hp, rfl⟩ := List.mem_map.mp hl2
    have hp2 := List.mem_zipIdx_iff_getElem?.mp hp
    have hp2 : P.sl[k]? = some p := hp2
    obtain ⟨hk, he⟩ := List.getElem?_eq_some_iff.mp hp2
    have hks : k < spot.length := by omega
    have hz := h.hspot (p, spot[k]) (by rw [List.mem_iff_getElem]; exact ⟨k, by rw [List.length_zip]; omega, by simp [he]⟩)
    have e1 : spR spot k = (spot[k] : Rat) := by unfold spR; rw [List.getD_eq_getElem?_getD, List.getElem?_eq_getElem hks]; rfl
    unfold slR at hrl
    rcases List.mem_cons.mp hrl with e | e
    · subst e
      unfold holdsR
      rw [if_neg (by simp)]
      show dotL (negL (unitL _ k)) _ _ ≤ ((-p.1 : Int) : Rat)
      rw [dot_neg, dot_unit hk, e1, rc_neg]
      have := rle.mpr hz.1
      grind
    · have e' : r = (unitL P.sl.length k, false, p.2) := by simpa using e
      subst e'
      unfold holdsR
      rw [if_neg (by simp)]
      show dotL (unitL _ k) _ _ ≤ (p.2 : Rat)
      rw [dot_unit hk, e1]
      exact rle.mpr hz.2
  · have R := h.rls r a
    have hlen : r.1.length = spot.length := by rw [R.ok.len, hl]
    have := R.at_
    unfold holdsI at this
    unfold holdsR
    rw [show P.sl.length = spot.length by omega, dot_spot hlen]
    split
    · rename_i q
      rw [if_pos q] at this
      rw [this]
    · rename_i q
      rw [if_neg q] at this
      exact rle.mpr this
end K14

set_option Elab.async false
set_option linter.all false
set_option maxRecDepth 100000
namespace K14
open PySem L2 Lite LP
theorem eq_intz {i j : Int} {μ : Store} : cmpEq (.int i) (.int j) μ = some (decide (i = j)) := eq_int
/-- a panel with fewer rules -/
def lessP (P : Pn) (k : Nat) : Pn := ⟨P.sl, P.rl.take k, P.cells, P.keeps⟩
theorem less_ok {P : Pn} {cs : List Cl} (O : PnOk P cs) (k : Nat) : PnOk (lessP P k) cs :=
  ⟨O.two, O.three, O.sl, by show (P.rl.take k).length ≤ 3; rw [List.length_take]; have := O.rn; omega, fun r hr => O.rl r (List.mem_of_mem_take hr), O.cn, O.ce, O.cl, O.kl, O.kr, O.ka⟩
theorem less_in {P : Pn} {y : Nat → Rat} (h : InP P y) (k : Nat) : InP (lessP P k) y := by
  intro r hr
  refine h r ?_
  unfold allR lessP at *
  rcases List.mem_append.mp hr with a | a
  · exact List.mem_append.mpr (.inl a)
  · exact List.mem_append.mpr (.inr (List.mem_of_mem_take a))
theorem bi_min {i j : Int} {μ : Store} : biMin [.int i, .int j] μ = .ok (.int (min i j)) μ := by
  show R.ok (D.int _) μ = _
  congr 2
  simp [Int.min_def]
  split <;> omega
theorem body_k {ns : List Int} {k : Nat} (hk : k < 1000) (μ : Store) (d2 d3 d4 d5 d6 d7 d8 d9 d10 d11 : Option D) :
    ∃ e2 e3 e4 e5 e6 e7 e8 e9 μ', B_law_2 [some (.scr ns), some (.int (k : Nat)), d2, d3, d4, d5, d6, d7, d8, d9, d10, d11] μ = .nx [some (.scr ns), some (.int (k : Nat)), e2, e3, e4, e5, e6, e7, e8, e9, d10, d11] μ' := by
  obtain ⟨es, hs, h0⟩ := run_source (ns := ns) μ hk
  have S0 : Src μ.length (μ ++ [Ob.lst es]) := ⟨es, by simp, hs⟩
  generalize μ ++ [Ob.lst es] = μ0 at *
  generalize μ.length = i at *
  obtain ⟨d, μ1, a1, a2, a3⟩ := run_of S0 (ds := [.int 2, .int 2, .int 3]) (by simp) (by simp) rfl
  have S1 := a3.src S0
  obtain ⟨many, rfl, hm⟩ : ∃ m : Nat, d = .int (m : Int) ∧ (m = 2 ∨ m = 3) := by
    simp only [List.mem_cons, List.not_mem_nil, or_false] at a2
    rcases a2 with e | e | e
    · exact ⟨2, e, .inl rfl⟩
    · exact ⟨2, e, .inl rfl⟩
    · exact ⟨3, e, .inr rfl⟩
  obtain ⟨P, cs, sp, μ2, b1, b2, b3⟩ := run_panel S1 (many := many) (most := 2) (by omega) (by omega) (by omega)
  have S2 := b3.src S1
  obtain ⟨Q0, ds0, sp0, μ3, c1, c2, c3⟩ := run_panel S2 (many := many) (most := 2) (by omega) (by omega) (by omega)
  have S3 := c3.src S2
  obtain ⟨r, μ4, r1, r2, r3, r4⟩ := run_draw S3 (m := 2) (by omega) (by omega)
  have S4 := r4.src S3
  have hP := spot_in b2
  have har : (2 : Nat) = F__law_source.ar := rfl
  have har2 : (2 : Nat) = F__law_of.ar := rfl
  have har3 : (3 : Nat) = F__law_panel.ar := rfl
  have har4 : (2 : Nat) = F__law_draw.ar := rfl
  have har5 : (2 : Nat) = F__law_unlike.ar := rfl
  -- the other panel
  have hother : ∃ Q ds z μ5, ssIf (sTruth (sBin (cmpR cmpEq) (sCall F__law_draw (sCons (sVar 2) (sCons (sCon (.int 2)) (sNil)))) (sCon (.int 0)))) (ssAsg (sBin opAdd (sTup (sCons (sBin opSub1 (sVar 4) (sCon (.int 0))) (sCons (sSlice (sBin opSub1 (sVar 4) (sCon (.int 1))) (sPartN) (sPart (sBin opSub (sBi biLen (sCons (sBin opSub1 (sVar 4) (sCon (.int 1))) (sNil))) (sCall F__law_draw (sCons (sVar 2) (sCons (sCon (.int 2)) (sNil))))))) (sNil)))) (sSlice (sVar 4) (sPart (sCon (.int 2))) (sPartN))) (tgName 5)) (ssNil) [some (.scr ns), some (.int (k : Nat)), some (.ref i), some (.int (many : Nat)), some (pnD P), some (pnD Q0), d6, d7, d8, d9, d10, d11] μ3 = .nx [some (.scr ns), some (.int (k : Nat)), some (.ref i), some (.int (many : Nat)), some (pnD P), some (pnD Q), d6, d7, d8, d9, d10, d11] μ5 ∧ PnOk Q ds ∧ InP Q z ∧ Q.sl.length = many ∧ Step i μ4 μ5 := by
    by_cases q : r = 0
    · obtain ⟨t, μ5, t1, t2, t3, t4⟩ := run_draw S4 (m := 2) (by omega) (by omega)
      have hcut : cutD (P.rl.map rlD) none (some ((P.rl.length : Int) - t)) = (P.rl.take (P.rl.length - t.toNat)).map rlD := by
        by_cases z : P.rl.length = 0
        · have e : P.rl = [] := List.length_eq_zero_iff.mp z
          rw [e]; simp [Lite.cutD]
        · have e : ((P.rl.length : Int) - t) = ((P.rl.length - t.toNat : Nat) : Int) := by omega
          rw [e, cut_to, List.map_take]
      have hcut2 : cutD [D.tup (P.sl.map slD), .tup (P.rl.map rlD), .tup P.cells, .tup (ilD P.keeps)] (some 2) none = [.tup P.cells, .tup (ilD P.keeps)] := cut_from (k := 2)
      refine ⟨lessP P (P.rl.length - t.toNat), cs, spR sp, μ5, ?_, less_ok b2.ok _, less_in hP _, b2.hm, t4⟩
      have aa := add_tup (μ := μ5) (ds := [D.tup (P.sl.map slD), .tup ((P.rl.take (P.rl.length - t.toNat)).map rlD)]) (es := [.tup P.cells, .tup (ilD P.keeps)]) (sl_le (by simp))
      have eq0 := eq_intz (i := r) (j := 0) (μ := μ4)
      rw [decide_eq_true q] at eq0
      have hl : (((P.rl.map rlD).length : Nat) : Int) = (P.rl.length : Nat) := by rw [List.length_map]
      unfold pnD lessP
      simp [-List.map_take, ← har4, r1, q, t1, hcut, hcut2, aa]
    · refine ⟨Q0, ds0, spR sp0, μ4, ?_, c2.ok, spot_in c2, c2.hm, Step.refl S4⟩
      simp [← har4, r1, q]
  obtain ⟨Q, ds, z, μ5, o1, o2, o3, o4, o5⟩ := hother
  have S5 := o5.src S4
  have he : P.sl.length = Q.sl.length := by rw [b2.hm, o4]
  -- the three couples
  obtain ⟨u8, u9, p1⟩ := body_pair μ5 b2.ok o2 he hP o3 (some (.scr ns)) (some (.int (k : Nat))) (some (.ref i)) (some (.int (many : Nat))) (some (pnD P)) (some (pnD Q)) d8 d9 d10 d11
  obtain ⟨v8, v9, p2⟩ := body_pair μ5 o2 b2.ok he.symm o3 hP (some (.scr ns)) (some (.int (k : Nat))) (some (.ref i)) (some (.int (many : Nat))) (some (pnD P)) (some (pnD Q)) u8 u9 d10 d11
  obtain ⟨w8, w9, p3⟩ := body_pair μ5 b2.ok b2.ok rfl hP hP (some (.scr ns)) (some (.int (k : Nat))) (some (.ref i)) (some (.int (many : Nat))) (some (pnD P)) (some (pnD Q)) v8 v9 d10 d11
  have hfor : forGo (tgTup 2 (tgCons (tgName 6) (tgCons (tgName 7) tgNil))) B_law_1 [] [.tup [pnD P, pnD Q], .tup [pnD Q, pnD P], .tup [pnD P, pnD P]] [some (.scr ns), some (.int (k : Nat)), some (.ref i), some (.int (many : Nat)), some (pnD P), some (pnD Q), d6, d7, d8, d9, d10, d11] μ5 = .nx [some (.scr ns), some (.int (k : Nat)), some (.ref i), some (.int (many : Nat)), some (pnD P), some (pnD Q), some (pnD P), some (pnD P), w8, w9, d10, d11] μ5 := by
    rw [forGo_nx (by rfl) p1, forGo_nx (by rfl) p2, forGo_nx (by rfl) p3, forGo_nil]
  -- the unlike one
  obtain ⟨T, ts, spt, μ6, g1, g2, g3⟩ := run_panel S5 (many := 5 - many) (most := 1) (by omega) (by omega) (by omega)
  have h5 : ((5 - many : Nat) : Int) = 5 - (many : Int) := by omega
  rw [h5] at g1
  have hun := run_law_unlike μ6 b2.ok g2.ok (by rw [b2.hm, g2.hm]; omega) ((feas_iff b2.ok).mpr hP) ((feas_iff g2.ok).mpr (spot_in g2))
  refine ⟨some (.ref i), some (.int (many : Nat)), some (pnD P), some (pnD Q), some (pnD P), some (pnD P), w8, w9, μ6, ?_⟩
  unfold B_law_2
  have s1 : ssAsg (sCall F__law_source (sCons (sVar 0) (sCons (sVar 1) (sNil)))) (tgName 2) [some (.scr ns), some (.int (k : Nat)), d2, d3, d4, d5, d6, d7, d8, d9, d10, d11] μ = .nx [some (.scr ns), some (.int (k : Nat)), some (.ref i), d3, d4, d5, d6, d7, d8, d9, d10, d11] μ0 := by
    simp [← har, h0]
  have s2 : ssAsg (sCall F__law_of (sCons (sVar 2) (sCons (sLst (sCons (sCon (.int 2)) (sCons (sCon (.int 2)) (sCons (sCon (.int 3)) (sNil))))) (sNil)))) (tgName 3) [some (.scr ns), some (.int (k : Nat)), some (.ref i), d3, d4, d5, d6, d7, d8, d9, d10, d11] μ0 = .nx [some (.scr ns), some (.int (k : Nat)), some (.ref i), some (.int (many : Nat)), d4, d5, d6, d7, d8, d9, d10, d11] μ1 := by
    simp [← har2, a1]
  have s3 : ssAsg (sCall F__law_panel (sCons (sVar 2) (sCons (sVar 3) (sCons (sCon (.int 2)) (sNil))))) (tgName 4) [some (.scr ns), some (.int (k : Nat)), some (.ref i), some (.int (many : Nat)), d4, d5, d6, d7, d8, d9, d10, d11] μ1 = .nx [some (.scr ns), some (.int (k : Nat)), some (.ref i), some (.int (many : Nat)), some (pnD P), d5, d6, d7, d8, d9, d10, d11] μ2 := by
    have b1' : F__law_panel.run [.ref i, .int (many : Nat), .int 2] μ1 = .ok (pnD P) μ2 := b1
    simp [← har3, b1']
  have s4 : ssAsg (sCall F__law_panel (sCons (sVar 2) (sCons (sVar 3) (sCons (sCon (.int 2)) (sNil))))) (tgName 5) [some (.scr ns), some (.int (k : Nat)), some (.ref i), some (.int (many : Nat)), some (pnD P), d5, d6, d7, d8, d9, d10, d11] μ2 = .nx [some (.scr ns), some (.int (k : Nat)), some (.ref i), some (.int (many : Nat)), some (pnD P), some (pnD Q0), d6, d7, d8, d9, d10, d11] μ3 := by
    have c1' : F__law_panel.run [.ref i, .int (many : Nat), .int 2] μ2 = .ok (pnD Q0) μ3 := c1
    simp [← har3, c1']
  rw [ev_seq, s1, an_nx, ev_seq, s2, an_nx, ev_seq, s3, an_nx, ev_seq, s4, an_nx, ev_seq, o1, an_nx]
  have g1' : F__law_panel.run [.ref i, .int (5 - (many : Int)), .int 1] μ5 = .ok (pnD T) μ6 := g1
  simp [hfor, ← har3, ← har5, g1', hun]
theorem loop_k {ns : List Int} : ∀ (xs : List Nat) (μ : Store) (d1 d2 d3 d4 d5 d6 d7 d8 d9 d10 d11 : Option D), (∀ k ∈ xs, k < 1000) →
    ∃ e1 e2 e3 e4 e5 e6 e7 e8 e9 μ', forGo (tgName 1) B_law_2 [] (xs.map fun k : Nat => D.int (k : Int)) [some (.scr ns), d1, d2, d3, d4, d5, d6, d7, d8, d9, d10, d11] μ = .nx [some (.scr ns), e1, e2, e3, e4, e5, e6, e7, e8, e9, d10, d11] μ'
  | [], μ, d1, d2, d3, d4, d5, d6, d7, d8, d9, d10, d11, _ => ⟨d1, d2, d3, d4, d5, d6, d7, d8, d9, μ, by simp⟩
  | k :: xs, μ, d1, d2, d3, d4, d5, d6, d7, d8, d9, d10, d11, h => by
    obtain ⟨e2, e3, e4, e5, e6, e7, e8, e9, μ1, h1⟩ := body_k (ns := ns) (h k (by simp)) μ d2 d3 d4 d5 d6 d7 d8 d9 d10 d11
    obtain ⟨f1, f2, f3, f4, f5, f6, f7, f8, f9, μ2, h2⟩ := loop_k (ns := ns) xs μ1 (some (.int (k : Nat))) e2 e3 e4 e5 e6 e7 e8 e9 d10 d11 fun j hj => h j (by simp [hj])
    refine ⟨f1, f2, f3, f4, f5, f6, f7, f8, f9, μ2, ?_⟩
    rw [int_map_cons, forGo_nx (by rfl) h1]
    exact h2
/-- the two written panels -/
def freeP : Pn := ⟨[(0, 10), (0, 10)], [], [], [0, 1]⟩
def pairP : Pn := ⟨[(0, 10), (0, 10)], [([1, -1], false, -2)], [], [0, 1]⟩
theorem ord2 : ∀ i : Nat, i < 2 → (i : Int) ∈ ([0, 1] : List Int) := fun i hi => by
  have : i = 0 ∨ i = 1 := by omega
  rcases this with rfl | rfl <;> decide
theorem free_ok : PnOk freeP [] := { two := by decide, three := by decide, sl := by decide, rn := by decide, rl := fun r hr => (by cases hr), cn := by decide, ce := rfl, cl := fun i c h => (by simp at h), kl := by decide, kr := by decide, ka := ord2 }
theorem pair_rl : RlOk 2 ([1, -1], false, -2) := ⟨by decide, by decide, ⟨1, by decide, by decide⟩, by decide, by decide⟩
theorem pair_rls : ∀ r ∈ pairP.rl, RlOk 2 r := fun r hr => by
  have e : r = ([1, -1], false, -2) := by simpa [pairP] using hr
  rw [e]
  exact pair_rl
theorem pair_ok : PnOk pairP [] := { two := (by decide), three := (by decide), sl := (by decide), rn := (by decide), rl := pair_rls, cn := (by decide), ce := rfl, cl := (fun i c h => (by simp at h)), kl := (by decide), kr := (by decide), ka := ord2 }
theorem allFree : allR freeP = [([-1, 0], false, 0), ([1, 0], false, 10), ([0, -1], false, 0), ([0, 1], false, 10)] := by decide
theorem allPair : allR pairP = [([-1, 0], false, 0), ([1, 0], false, 10), ([0, -1], false, 0), ([0, 1], false, 10), ([1, -1], false, -2)] := by decide
theorem holds_spot {f : List Int} {b : Int} {sp : List Int} (h : f.length = sp.length) : holdsR (f, false, b) sp.length (spR sp) ↔ dotI f sp ≤ b := by
  unfold holdsR
  rw [if_neg (by simp), dot_spot h]
  exact rle
theorem free_in : InP freeP (spR [0, 0]) := by
  intro r hr
  rw [allFree] at hr
  simp only [List.mem_cons, List.not_mem_nil, or_false] at hr
  rcases hr with rfl | rfl | rfl | rfl <;> exact (holds_spot (sp := [0, 0]) (by decide)).mpr (by decide)
theorem pair_in : InP pairP (spR [0, 2]) := by
  intro r hr
  rw [allPair] at hr
  simp only [List.mem_cons, List.not_mem_nil, or_false] at hr
  rcases hr with rfl | rfl | rfl | rfl | rfl <;> exact (holds_spot (sp := [0, 2]) (by decide)).mpr (by decide)
theorem free_out : ¬ InP pairP (spR [0, 0]) := fun h => by
  have := (holds_spot (sp := [0, 0]) (by decide)).mp (h ([1, -1], false, -2) (by rw [allPair]; simp))
  exact absurd this (by decide)
theorem pair_free {y : Nat → Rat} (h : InP pairP y) : InP freeP y := fun r hr => h r (by
  rw [allFree] at hr
  rw [allPair]
  simp only [List.mem_cons, List.not_mem_nil, or_false] at hr ⊢
  rcases hr with h | h | h | h <;> simp [h])
theorem law_run (ns : List Int) (hn : ns.length ≤ 63) : F_law.run [.scr ns] [] = .ok (.bl true) [] := by
  rw [show F_law.run = runF N_law G_law from rfl]
  have hfree : pnD freeP = .tup [.tup [.tup [.int 0, .int 10], .tup [.int 0, .int 10]], .tup [], .tup [], .tup [.int 0, .int 1]] := rfl
  have hpair : pnD pairP = .tup [.tup [.tup [.int 0, .int 10], .tup [.int 0, .int 10]], .tup [.tup [.tup [.int 1, .int (-1)], .str ("most" : PySem.Str), .int (-2)]], .tup [], .tup [.int 0, .int 1]] := rfl
  have har : (2 : Nat) = F_within.ar := rfl
  have har2 : (2 : Nat) = F_outside.ar := rfl
  obtain ⟨e1, e2, e3, e4, e5, e6, e7, e8, e9, μ', hl⟩ := loop_k (ns := ns) (List.range (1 + min ns.length 8)) [] none none none none none none none none none none none (fun k hk => by have := List.mem_range.mp hk; omega)
  obtain ⟨o, h1, h2, h3, _⟩ := told (P := pairP) (Q := freeP) μ' pair_ok free_ok rfl pair_in free_in
  have ho := h3.mpr fun y hy => pair_free hy
  rw [ho] at h1 h2
  obtain ⟨o', k1, k2, k3, _⟩ := told (P := freeP) (Q := pairP) μ' free_ok pair_ok rfl free_in pair_in
  have ho' : o'.isNone = false := by
    cases e : o' with
    | some _ => rfl
    | none => exact absurd (k3.mp e _ free_in) free_out
  rw [ho'] at k1
  have hG : G_law [some (.scr ns), none, none, none, none, none, none, none, none, none, none, none] [] = .rt (.bl true) μ' := by
    have hr : rngR (.int (1 + min (ns.length : Int) 8)) [] = .ok ⟨(List.range (1 + min ns.length 8)).map fun i : Nat => D.int (i : Int), []⟩ [] := by
      have := rng_nat (μ := []) (n := 1 + min ns.length 8) (by omega)
      have e : ((1 + min ns.length 8 : Nat) : Int) = 1 + min (ns.length : Int) 8 := by omega
      rw [e] at this; exact this
    have c1 : cutD [D.tup [.tup [.int 0, .int 10], .tup [.int 0, .int 10]], .tup [], .tup [], .tup [.int 0, .int 1]] none (some 1) = [.tup [.tup [.int 0, .int 10], .tup [.int 0, .int 10]]] := cut_to (k := 1)
    have c2 : cutD [D.tup [.tup [.int 0, .int 10], .tup [.int 0, .int 10]], .tup [], .tup [], .tup [.int 0, .int 1]] (some 2) none = [.tup [], .tup [.int 0, .int 1]] := cut_from (k := 2)
    have ad : ∀ (a b : List D), a.length + b.length ≤ 100 → opAdd (.tup a) (.tup b) μ' = .ok (.tup (a ++ b)) μ' := fun a b h => add_tup (sl_le h)
    rw [hfree, hpair] at h1 h2 k1
    unfold G_law
    simp [bi_min, hr, hl, c1, c2, ad, ← har, ← har2, h1, h2, k1, isNon]
  unfold runF
  have : G_law (([.scr ns] : List D).map some ++ List.replicate (N_law.length - ([.scr ns] : List D).length) none) [] = .rt (.bl true) μ' := hG
  rw [this]
  have hk : KeepOk [] μ' := ⟨Nat.zero_le _, fun i hi => absurd hi (Nat.not_lt_zero _)⟩
  simp only
  rw [if_pos hk, frz_below rfl]
  rfl
end K14

theorem PySem.Challenge.cw_draggedsums_k14_panels_within_others_holds : PySem.Challenge.rw_draggedsums_k14_panels_within_others.Holds := by
  exact K14.fin fun ns h _ => K14.law_run ns h

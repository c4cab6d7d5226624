import PyProof.Rows.All
import Wide.All
import OpenK.AllK
import Wide.FinOn
import HandS.ForMost
import HandS.ForExc
import HandS.IsInst
import HandS.Wide
import HandS.Gcd
import HandS.FStr
import HandS.Style
import HandS.Flow
import HandS.Zip
import HandS.WrittenGet
import HandS.TupMul
import HandS.TupAny
import HandS.Conv
import HandS.ExcInit
import HandS.ExcField
import HandS.TryMany
import HandS.WideBits
import KE.GoesEnum
import KE.GoesNew
import KE.GoesMore
import HandS.RaiseMore
import HandS.More
import HandS.Keys
import HandS.Words
import HandS.WordsExc
import HandS.Codes
import KE.KStateDown
import HandS.Head0
import HandS.Head1
import HandS.Head2
import HandS.Head3
import HandS.HeadEnd
import HandS.HeadHook1
import HandS.HeadHook2
import HandS.HeadHook4
import HandS.HeadHook3
import PySem.Challenge.RW_doubtpapers_k19_wider_spans
set_option Elab.async false
set_option linter.all false
set_option maxRecDepth 100000
set_option Elab.async false
set_option linter.all false
set_option maxRecDepth 100000
/-! A1: data trees, the store, how they lie in the abstract heap. -/
namespace G
open PySem L2

/-- the built-in classes that are asked for -/
inductive BT where
  | non | bl | int | str | tup | lst | dct
  deriving DecidableEq
def BT.name : BT → String
  | .non => "NoneType"
  | .bl => "bool"
  | .int => "int"
  | .str => "str"
  | .tup => "tuple"
  | .lst => "list"
  | .dct => "dict"
/-- data as trees; what may be written lies in a store (loc) -/
inductive D where
  | non | bl (b : Bool) | int (i : Int) | str (s : Str)
  | tup (l : List D) | lst (l : List D) | ro (l : List D)
  | obj (c : Nat) (ns : List Nat) (l : List D)
  | dct (ks : List Key) (l : List D)
  | loc (n : Nat)
  | fn (f : Nat) | cls (c : Nat) | ty (n : BT)

/-- what stands in the store -/
inductive O where
  | lst (l : List D)
  | dct (ks : List Key) (l : List D)
  | ins (c : Nat) (ns : List Nat) (l : List D)
abbrev Store := List O

/-- where classes and defs stand, what attributes are named -/
structure Nms where
  cls : Nat → Addr
  fn : Nat → Addr
  attr : Nat → Str
  /-- lists that are being made: nobody reads them yet -/
  hid : List Addr
def Nms.h (N : Nms) (η : List Addr) : Nms := { N with hid := η }
/-- a list that nobody writes -/
def RoL (K : PySem.W.Frag) (η ι : List Addr) (H : Hp) (a : Addr) (xs : List V) : Prop :=
  (H a = some (.lst xs) ∧ a ∉ ι ∧ a ∉ η) ∨ (∃ ob, H a = some (.frz ob (.lst xs))) ∨
    ∃ (o : Obj) (its : Array Value) (n : Nat), K.lookup a = some o ∧ o.cls = .type "list" ∧ o.dict = none ∧ o.data = .seq its n ∧ its.size ≤ sizeLine ∧ Vals xs its.toList
theorem RoL.sq {K : PySem.W.Frag} {η ι : List Addr} {H : Hp} {a : Addr} {xs : List V} (h : RoL K η ι H a xs) : SqL K H a xs := by
  rcases h with ⟨h, _⟩ | ⟨o, h⟩ | h
  · exact .inl (.inl h)
  · exact .inl (.inr ⟨o, h⟩)
  · exact .inr h
theorem RoL.of_sq {K : PySem.W.Frag} {η ι : List Addr} {H : Hp} {a : Addr} {xs : List V} (h : SqL K H a xs) (n : a ∉ ι) (m : a ∉ η) : RoL K η ι H a xs := by
  rcases h with (h | ⟨o, h⟩) | h
  · exact .inl ⟨h, n, m⟩
  · exact .inr (.inl ⟨o, h⟩)
  · exact .inr (.inr h)

section
variable (K : PySem.W.Frag) (N : Nms) (ι : List Addr) (H : Hp)
mutual
def rel : D → V → Prop
  | .non, v => v = .non
  | .bl b, v => v = .bl b
  | .int i, v => v = .int i
  | .str s, v => v = .str s
  | .tup l, v => ∃ a xs, v = .ref a ∧ SqT K H a xs ∧ rels l xs
  | .lst l, v => ∃ a xs, v = .ref a ∧ H a = some (.lst xs) ∧ (a ∉ ι ∧ a ∉ N.hid) ∧ rels l xs
  | .ro l, v => ∃ a xs, v = .ref a ∧ RoL K N.hid ι H a xs ∧ rels l xs
  | .obj c ns l, v => ∃ a dx xs, v = .ref a ∧ H a = some (.ins (N.cls c) dx ((ns.map N.attr).zip xs)) ∧ a ∉ ι ∧ ns.length = xs.length ∧ rels l xs
  | .dct ks l, v => ∃ a xs, v = .ref a ∧ H a = some (.dK (ks.zip xs)) ∧ a ∉ ι ∧ ks.length = xs.length ∧ rels l xs
  | .loc n, v => ∃ a, v = .ref a ∧ ι[n]? = some a
  | .fn f, v => v = .ref (N.fn f)
  | .cls c, v => v = .ref (N.cls c)
  | .ty n, v => v = .ty n.name
def rels : List D → List V → Prop
  | [], vs => vs = []
  | d :: l, vs => ∃ v xs, vs = v :: xs ∧ rel d v ∧ rels l xs
end
def relO : O → HO → Prop
  | .lst l, o => ∃ xs, o = .lst xs ∧ rels K N ι H l xs
  | .dct ks l, o => ∃ xs, o = .dK (ks.zip xs) ∧ ks.length = xs.length ∧ rels K N ι H l xs
  | .ins c ns l, o => ∃ dx xs, o = .ins (N.cls c) dx ((ns.map N.attr).zip xs) ∧ ns.length = xs.length ∧ rels K N ι H l xs
structure RelSt (st : Store) : Prop where
  len : ι.length = st.length
  nd : ι.Nodup
  hd : ∀ a ∈ N.hid, a ∉ ι ∧ ∃ o, H a = some o
  at_ : ∀ (n : Nat) (a : Addr) (o : O), ι[n]? = some a → st[n]? = some o → ∃ ho, H a = some ho ∧ relO K N ι H o ho
end
/-- the way from one state to a later one -/
structure Post (ι : List Addr) (H : Hp) (ι' : List Addr) (H' : Hp) : Prop where
  pre : ∃ more, ι' = ι ++ more
  new : ∀ a ∈ ι', a ∉ ι → H a = none
  keep : ∀ a o, H a = some o → a ∉ ι → H' a = some o

section
variable {K : PySem.W.Frag} {N : Nms} {ι ι' ι'' : List Addr} {H H' H'' : Hp} {st st' : Store}
theorem Post.refl : Post ι H ι H := ⟨⟨[], by simp⟩, fun a h n => absurd h n, fun _ _ h _ => h⟩
theorem Post.trans (p : Post ι H ι' H') (q : Post ι' H' ι'' H'') : Post ι H ι'' H'' where
  pre := by
    obtain ⟨m1, e1⟩ := p.pre
    obtain ⟨m2, e2⟩ := q.pre
    exact ⟨m1 ++ m2, by rw [e2, e1, List.append_assoc]⟩
  new := fun a h n => by
    by_cases hm : a ∈ ι'
    · exact p.new a hm n
    · have h1 := q.new a h hm
      cases e : H a with
      | none => rfl
      | some o => rw [p.keep a o e n] at h1; cases h1
  keep := fun a o h n => q.keep a o (p.keep a o h n) fun hm => by
    rw [p.new a hm n] at h; cases h
theorem Post.get (p : Post ι H ι' H') {n : Nat} {a : Addr} (h : ι[n]? = some a) : ι'[n]? = some a := by
  obtain ⟨m, e⟩ := p.pre
  rw [e, List.getElem?_append_left (List.getElem?_eq_some_iff.mp h).1]; exact h
/-- what stood is no new place -/
theorem Post.out (p : Post ι H ι' H') {a : Addr} {o : HO} (h : H a = some o) (n : a ∉ ι) : a ∉ ι' := fun hm => by
  rw [p.new a hm n] at h; cases h
theorem mem_of_get {n : Nat} {a : Addr} (h : ι[n]? = some a) : a ∈ ι := by
  obtain ⟨h1, rfl⟩ := List.getElem?_eq_some_iff.mp h; exact List.getElem_mem h1
/-- a place of the store is no tuple, nor locked -/
theorem RelSt.kind (r : RelSt K N ι H st) {a : Addr} (h : a ∈ ι) : (∃ xs, H a = some (.lst xs)) ∨ (∃ kvs, H a = some (.dK kvs)) ∨ ∃ C dx fs, H a = some (.ins C dx fs) := by
  obtain ⟨n, hn, rfl⟩ := List.getElem_of_mem h
  have hs : n < st.length := by rw [← r.len]; exact hn
  obtain ⟨ho, e, q⟩ := r.at_ n ι[n] st[n] (by simp [hn]) (by simp [hs])
  cases hst : st[n] with
  | lst l => rw [hst] at q; obtain ⟨xs, rfl, _⟩ := q; exact .inl ⟨_, e⟩
  | dct ks l => rw [hst] at q; obtain ⟨xs, rfl, _⟩ := q; exact .inr (.inl ⟨_, e⟩)
  | ins c ns l => rw [hst] at q; obtain ⟨dx, xs, rfl, _⟩ := q; exact .inr (.inr ⟨_, _, _, e⟩)
theorem RelSt.notTup (r : RelSt K N ι H st) {a : Addr} {xs : List V} (h : H a = some (.tup xs)) : a ∉ ι := fun hm => by
  rcases r.kind hm with ⟨_, e⟩ | ⟨_, e⟩ | ⟨_, _, _, e⟩ <;> (rw [h] at e; cases e)
theorem RelSt.notFrz (r : RelSt K N ι H st) {a : Addr} {ob : Obj} {u : HO} (h : H a = some (.frz ob u)) : a ∉ ι := fun hm => by
  rcases r.kind hm with ⟨_, e⟩ | ⟨_, e⟩ | ⟨_, _, _, e⟩ <;> (rw [h] at e; cases e)
theorem SqT.post {M : Nms} (r : RelSt K M ι H st) (p : Post ι H ι' H') {a : Addr} {xs : List V} (h : SqT K H a xs) : SqT K H' a xs := by
  rcases h with (h | ⟨o, h⟩) | h
  · exact .inl (.inl (p.keep _ _ h (r.notTup h)))
  · exact .inl (.inr ⟨o, p.keep _ _ h (r.notFrz h)⟩)
  · exact .inr h
theorem RoL.post {M : Nms} {η : List Addr} (r : RelSt K M ι H st) (p : Post ι H ι' H') {a : Addr} {xs : List V} (h : RoL K η ι H a xs) : RoL K η ι' H' a xs := by
  rcases h with ⟨h, n, m⟩ | ⟨o, h⟩ | h
  · exact .inl ⟨p.keep _ _ h n, p.out h n, m⟩
  · exact .inr (.inl ⟨o, p.keep _ _ h (r.notFrz h)⟩)
  · exact .inr (.inr h)
theorem RoL.fewer {η : List Addr} {a : Addr} {xs : List V} (h : RoL K η ι H a xs) (n : a ∈ ι' → a ∈ ι) : RoL K η ι' H a xs := by
  rcases h with ⟨h, q, m⟩ | h
  · exact .inl ⟨h, fun z => q (n z), m⟩
  · exact .inr h
mutual
theorem rel.post {M : Nms} (r : RelSt K M ι H st) (p : Post ι H ι' H') : ∀ {d : D} {v : V}, rel K N ι H d v → rel K N ι' H' d v
  | .non, _, h => h
  | .bl _, _, h => h
  | .int _, _, h => h
  | .str _, _, h => h
  | .tup _, _, ⟨a, xs, e, q, l⟩ => ⟨a, xs, e, SqT.post r p q, rels.post r p l⟩
  | .lst _, _, ⟨a, xs, e, q, n, l⟩ => ⟨a, xs, e, p.keep _ _ q n.1, ⟨p.out q n.1, n.2⟩, rels.post r p l⟩
  | .ro _, _, ⟨a, xs, e, q, l⟩ => ⟨a, xs, e, RoL.post r p q, rels.post r p l⟩
  | .obj _ _ _, _, ⟨a, dx, xs, e, q, n, z, l⟩ => ⟨a, dx, xs, e, p.keep _ _ q n, p.out q n, z, rels.post r p l⟩
  | .dct _ _, _, ⟨a, xs, e, q, n, z, l⟩ => ⟨a, xs, e, p.keep _ _ q n, p.out q n, z, rels.post r p l⟩
  | .loc _, _, ⟨a, e, q⟩ => ⟨a, e, p.get q⟩
  | .fn _, _, h => h
  | .cls _, _, h => h
  | .ty _, _, h => h
theorem rels.post {M : Nms} (r : RelSt K M ι H st) (p : Post ι H ι' H') : ∀ {l : List D} {vs : List V}, rels K N ι H l vs → rels K N ι' H' l vs
  | [], _, h => h
  | _ :: _, _, ⟨v, xs, e, a, b⟩ => ⟨v, xs, e, rel.post r p a, rels.post r p b⟩
end
theorem rels.length : ∀ {l : List D} {vs : List V}, rels K N ι H l vs → l.length = vs.length
  | [], _, h => by rw [show _ = [] from h]; rfl
  | _ :: _, _, ⟨v, xs, e, a, b⟩ => by rw [e, List.length_cons, List.length_cons, rels.length b]
theorem rels.get : ∀ {l : List D} {vs : List V} {n : Nat} {d : D}, rels K N ι H l vs → l[n]? = some d → ∃ v, vs[n]? = some v ∧ rel K N ι H d v
  | [], _, _, _, _, e => by simp at e
  | _ :: _, _, 0, _, ⟨v, xs, e, a, b⟩, e' => by simp at e'; subst e'; exact ⟨v, by rw [e]; rfl, a⟩
  | _ :: _, _, n + 1, _, ⟨v, xs, e, a, b⟩, e' => by
    obtain ⟨w, h1, h2⟩ := rels.get (n := n) b (by simpa using e')
    exact ⟨w, by rw [e]; simpa using h1, h2⟩
theorem rels.get' : ∀ {l : List D} {vs : List V} {n : Nat} {v : V}, rels K N ι H l vs → vs[n]? = some v → ∃ d, l[n]? = some d ∧ rel K N ι H d v
  | [], vs, n, v, h, e => by rw [show vs = [] from h] at e; simp at e
  | d :: _, _, 0, _, ⟨v, xs, e, a, b⟩, e' => by rw [e] at e'; simp at e'; subst e'; exact ⟨d, rfl, a⟩
  | _ :: _, _, n + 1, _, ⟨v, xs, e, a, b⟩, e' => by
    rw [e] at e'
    obtain ⟨w, h1, h2⟩ := rels.get' (n := n) b (by simpa using e')
    exact ⟨w, by simpa using h1, h2⟩
theorem rels.append : ∀ {l m : List D} {vs us : List V}, rels K N ι H l vs → rels K N ι H m us → rels K N ι H (l ++ m) (vs ++ us)
  | [], _, _, _, h, k => by rw [show _ = [] from h]; exact k
  | _ :: _, _, _, _, ⟨v, xs, e, a, b⟩, k => ⟨v, xs ++ _, by rw [e]; rfl, a, rels.append b k⟩
theorem rels.take : ∀ {l : List D} {vs : List V} (n : Nat), rels K N ι H l vs → rels K N ι H (l.take n) (vs.take n)
  | l, vs, 0, _ => by rw [List.take_zero, List.take_zero]; rfl
  | [], _, n + 1, h => by rw [show _ = [] from h]; rfl
  | _ :: _, _, n + 1, ⟨v, xs, e, a, b⟩ => ⟨v, xs.take n, by rw [e]; rfl, a, rels.take n b⟩
theorem rels.drop : ∀ {l : List D} {vs : List V} (n : Nat), rels K N ι H l vs → rels K N ι H (l.drop n) (vs.drop n)
  | l, vs, 0, h => h
  | [], _, n + 1, h => by rw [show _ = [] from h]; rfl
  | _ :: _, _, n + 1, ⟨v, xs, e, a, b⟩ => by rw [e]; exact rels.drop n b
theorem rels.set : ∀ {l : List D} {vs : List V} (n : Nat) {d : D} {v : V}, rels K N ι H l vs → rel K N ι H d v → rels K N ι H (l.set n d) (vs.set n v)
  | [], _, _, _, _, h, _ => by rw [show _ = [] from h]; rfl
  | _ :: _, _, 0, d, v, ⟨w, xs, e, a, b⟩, r => ⟨v, xs, by rw [e]; rfl, r, b⟩
  | _ :: _, _, n + 1, d, v, ⟨w, xs, e, a, b⟩, r => ⟨w, xs.set n v, by rw [e]; rfl, a, rels.set n b r⟩
theorem rels.one {d : D} {v : V} (h : rel K N ι H d v) : rels K N ι H [d] [v] := ⟨v, [], rfl, h, rfl⟩
theorem rels.two {d e : D} {v w : V} (h : rel K N ι H d v) (k : rel K N ι H e w) : rels K N ι H [d, e] [v, w] := ⟨v, [w], rfl, h, .one k⟩
theorem rels.mem {l : List D} {vs : List V} {v : V} (h : rels K N ι H l vs) (m : v ∈ vs) : ∃ d ∈ l, rel K N ι H d v := by
  obtain ⟨n, hn, rfl⟩ := List.getElem_of_mem m
  obtain ⟨d, e, r⟩ := h.get' (n := n) (List.getElem?_eq_getElem hn)
  exact ⟨d, List.mem_of_getElem? e, r⟩

theorem relO.post {M : Nms} (r : RelSt K M ι H st) (p : Post ι H ι' H') {o : O} {ho : HO} (h : relO K N ι H o ho) : relO K N ι' H' o ho := by
  cases o with
  | lst l => obtain ⟨xs, e, q⟩ := h; exact ⟨xs, e, q.post r p⟩
  | dct ks l => obtain ⟨xs, e, z, q⟩ := h; exact ⟨xs, e, z, q.post r p⟩
  | ins c ns l => obtain ⟨dx, xs, e, z, q⟩ := h; exact ⟨dx, xs, e, z, q.post r p⟩

/-- one untracked place is tracked: nothing of the store is touched -/
theorem Post.laid {a : Addr} {o : HO} (n : H a = none) : Post ι H ι (upd H a o) :=
  ⟨⟨[], by simp⟩, fun b h k => absurd h k, fun b u h _ => by rw [upd_ne (ne_of_none h n)]; exact h⟩
/-- .. and becomes a place of the store -/
theorem Post.pushed {a : Addr} {o : HO} (n : H a = none) : Post ι H (ι ++ [a]) (upd H a o) :=
  ⟨⟨[a], rfl⟩, fun b h k => by
    rcases List.mem_append.mp h with z | z
    · exact absurd z k
    · rw [List.mem_singleton.mp z]; exact n, fun b u h _ => by rw [upd_ne (ne_of_none h n)]; exact h⟩
/-- a place of the store is written -/
theorem Post.wrote {a : Addr} {o : HO} (m : a ∈ ι) : Post ι H ι (upd H a o) :=
  ⟨⟨[], by simp⟩, fun b h k => absurd h k, fun b u h k => by rw [upd_ne (by rintro rfl; exact k m)]; exact h⟩
theorem RelSt.keep (r : RelSt K N ι H st) (p : Post ι H ι H') (h : ∀ a ∈ ι, H' a = H a) : RelSt K N ι H' st :=
  ⟨r.len, r.nd, fun a ha => let ⟨n, o, e⟩ := r.hd a ha; ⟨n, o, p.keep a o e n⟩, fun n a o e1 e2 => by
    obtain ⟨ho, e, q⟩ := r.at_ n a o e1 e2
    exact ⟨ho, by rw [h a (mem_of_get e1)]; exact e, q.post r p⟩⟩
theorem RelSt.there (r : RelSt K N ι H st) {a : Addr} (h : a ∈ ι) : ∃ o, H a = some o := by
  rcases r.kind h with ⟨_, e⟩ | ⟨_, e⟩ | ⟨_, _, _, e⟩ <;> exact ⟨_, e⟩
theorem RelSt.laid (r : RelSt K N ι H st) {a : Addr} {o : HO} (n : H a = none) : RelSt K N ι (upd H a o) st :=
  r.keep (Post.laid n) fun b h => by
    obtain ⟨o', e⟩ := r.there h
    rw [upd_ne (ne_of_none e n)]
theorem RelSt.pushed (r : RelSt K N ι H st) {a : Addr} {o : HO} {x : O} (n : H a = none) (q : relO K N (ι ++ [a]) (upd H a o) x o) : RelSt K N (ι ++ [a]) (upd H a o) (st ++ [x]) := by
  have na : a ∉ ι := fun h => by obtain ⟨o', e⟩ := r.there h; rw [n] at e; cases e
  refine ⟨by simp [r.len], List.nodup_append.mpr ⟨r.nd, by simp, by rintro b hb c hc rfl; exact na (List.mem_singleton.mp hc ▸ hb)⟩, fun b hb => ?_, fun k b y e1 e2 => ?_⟩
  · obtain ⟨m, o', e⟩ := r.hd b hb
    exact ⟨fun z => (List.mem_append.mp z).elim m fun z' => (ne_of_none e n) (List.mem_singleton.mp z'), o', by rw [upd_ne (ne_of_none e n)]; exact e⟩
  by_cases hk : k < ι.length
  · rw [List.getElem?_append_left hk] at e1
    rw [List.getElem?_append_left (by rw [← r.len]; exact hk)] at e2
    obtain ⟨ho, e, q'⟩ := r.at_ k b y e1 e2
    exact ⟨ho, by rw [upd_ne (ne_of_none e n)]; exact e, q'.post r (Post.pushed n)⟩
  · have hk' : k = ι.length := by
      have := (List.getElem?_eq_some_iff.mp e1).1
      simp at this; omega
    subst hk'
    have e1' : a = b := by simpa using e1
    have e2' : x = y := by rw [r.len] at e2; simpa using e2
    subst e1' e2'
    exact ⟨o, upd_same, q⟩
theorem RelSt.wrote (r : RelSt K N ι H st) {n : Nat} {a : Addr} {o : HO} {x : O} (e : ι[n]? = some a) (q : relO K N ι (upd H a o) x o) : RelSt K N ι (upd H a o) (st.set n x) := by
  have hn : n < st.length := by rw [← r.len]; exact (List.getElem?_eq_some_iff.mp e).1
  refine ⟨by simp [r.len], r.nd, fun b hb => ?_, fun k b y e1 e2 => ?_⟩
  · obtain ⟨m, o', e'⟩ := r.hd b hb
    exact ⟨m, o', by rw [upd_ne (by rintro rfl; exact m (mem_of_get e))]; exact e'⟩
  by_cases hk : k = n
  · subst hk
    rw [e] at e1; cases e1
    rw [List.getElem?_set_self hn] at e2; cases e2
    exact ⟨o, upd_same, q⟩
  · rw [List.getElem?_set_ne (Ne.symm hk)] at e2
    obtain ⟨ho, e', q'⟩ := r.at_ k b y e1 e2
    have ne : b ≠ a := by
      rintro rfl
      obtain ⟨h1, z1⟩ := List.getElem?_eq_some_iff.mp e
      obtain ⟨h2, z2⟩ := List.getElem?_eq_some_iff.mp e1
      exact hk ((List.getElem_inj r.nd).mp (z2.trans z1.symm))
    exact ⟨ho, by rw [upd_ne ne]; exact e', q'.post r (Post.wrote (mem_of_get e))⟩
theorem RelSt.out (r : RelSt K N ι H st) {a : Addr} (n : H a = none) : a ∉ ι ∧ a ∉ N.hid := by
  constructor
  · intro h
    obtain ⟨o, e⟩ := r.there h
    rw [n] at e; cases e
  · intro h
    obtain ⟨_, o, e⟩ := r.hd a h
    rw [n] at e; cases e
theorem RelSt.get (r : RelSt K N ι H st) {n : Nat} {a : Addr} (e : ι[n]? = some a) {o : O} (h : st[n]? = some o) : ∃ ho, H a = some ho ∧ relO K N ι H o ho := r.at_ n a o e h

/-! ### a list that is being made -/
theorem SqT.ne {K : PySem.W.Frag} {H : Hp} {L a : Addr} {xs zs : List V} {o : HO} (hD : H L = some (.lst zs)) (h : SqT K H a xs) : SqT K (upd H L o) a xs := by
  rcases h with (h | ⟨ob, h⟩) | h
  · exact .inl (.inl (by rw [upd_ne (by rintro rfl; rw [hD] at h; cases h)]; exact h))
  · exact .inl (.inr ⟨ob, by rw [upd_ne (by rintro rfl; rw [hD] at h; cases h)]; exact h⟩)
  · exact .inr h
mutual
/-- what is hidden may change -/
theorem rel.hid {L : Addr} {zs : List V} {o : HO} (hh : L ∈ N.hid) (hD : H L = some (.lst zs)) : ∀ {d : D} {v : V}, rel K N ι H d v → rel K N ι (upd H L o) d v
  | .non, _, h => h
  | .bl _, _, h => h
  | .int _, _, h => h
  | .str _, _, h => h
  | .tup _, _, ⟨a, xs, e, q, l⟩ => ⟨a, xs, e, SqT.ne hD q, rels.hid hh hD l⟩
  | .lst _, _, ⟨a, xs, e, q, n, l⟩ => ⟨a, xs, e, by rw [upd_ne (by rintro rfl; exact n.2 hh)]; exact q, n, rels.hid hh hD l⟩
  | .ro _, _, ⟨a, xs, e, q, l⟩ => ⟨a, xs, e, by
      rcases q with ⟨q, n, m⟩ | ⟨ob, q⟩ | q
      · exact .inl ⟨by rw [upd_ne (by rintro rfl; exact m hh)]; exact q, n, m⟩
      · exact .inr (.inl ⟨ob, by rw [upd_ne (by rintro rfl; rw [hD] at q; cases q)]; exact q⟩)
      · exact .inr (.inr q), rels.hid hh hD l⟩
  | .obj _ _ _, _, ⟨a, dx, xs, e, q, n, z, l⟩ => ⟨a, dx, xs, e, by rw [upd_ne (by rintro rfl; rw [hD] at q; cases q)]; exact q, n, z, rels.hid hh hD l⟩
  | .dct _ _, _, ⟨a, xs, e, q, n, z, l⟩ => ⟨a, xs, e, by rw [upd_ne (by rintro rfl; rw [hD] at q; cases q)]; exact q, n, z, rels.hid hh hD l⟩
  | .loc _, _, h => h
  | .fn _, _, h => h
  | .cls _, _, h => h
  | .ty _, _, h => h
theorem rels.hid {L : Addr} {zs : List V} {o : HO} (hh : L ∈ N.hid) (hD : H L = some (.lst zs)) : ∀ {l : List D} {vs : List V}, rels K N ι H l vs → rels K N ι (upd H L o) l vs
  | [], _, h => h
  | _ :: _, _, ⟨v, xs, e, a, b⟩ => ⟨v, xs, e, rel.hid hh hD a, rels.hid hh hD b⟩
end
theorem relO.hid {L : Addr} {zs : List V} {o : HO} (hh : L ∈ N.hid) (hD : H L = some (.lst zs)) {x : O} {ho : HO} (h : relO K N ι H x ho) : relO K N ι (upd H L o) x ho := by
  cases x with
  | lst l => obtain ⟨xs, e, q⟩ := h; exact ⟨xs, e, q.hid hh hD⟩
  | dct ks l => obtain ⟨xs, e, z, q⟩ := h; exact ⟨xs, e, z, q.hid hh hD⟩
  | ins c ns l => obtain ⟨dx, xs, e, z, q⟩ := h; exact ⟨dx, xs, e, z, q.hid hh hD⟩
theorem RelSt.hid {L : Addr} {zs : List V} {o : HO} (r : RelSt K N ι H st) (hh : L ∈ N.hid) (hD : H L = some (.lst zs)) : RelSt K N ι (upd H L o) st :=
  ⟨r.len, r.nd, fun a ha => ⟨(r.hd a ha).1, by
    by_cases e : a = L
    · exact ⟨o, by rw [e, upd_same]⟩
    · obtain ⟨o', q⟩ := (r.hd a ha).2
      exact ⟨o', by rw [upd_ne e]; exact q⟩⟩, fun n a y e1 e2 => by
    obtain ⟨ho, e, q⟩ := r.at_ n a y e1 e2
    exact ⟨ho, by rw [upd_ne (by rintro rfl; exact (r.hd _ hh).1 (mem_of_get e1))]; exact e, q.hid hh hD⟩⟩
mutual
/-- a new list is hidden -/
theorem rel.hide {η : List Addr} {L : Addr} (n : H L = none) : ∀ {d : D} {v : V}, rel K (N.h η) ι H d v → rel K (N.h (L :: η)) ι H d v
  | .non, _, h => h
  | .bl _, _, h => h
  | .int _, _, h => h
  | .str _, _, h => h
  | .tup _, _, ⟨a, xs, e, q, l⟩ => ⟨a, xs, e, q, rels.hide n l⟩
  | .lst _, _, ⟨a, xs, e, q, m, l⟩ => ⟨a, xs, e, q, ⟨m.1, fun z => (List.mem_cons.mp z).elim (ne_of_none q n) m.2⟩, rels.hide n l⟩
  | .ro _, _, ⟨a, xs, e, q, l⟩ => ⟨a, xs, e, by
      rcases q with ⟨q, m, k⟩ | q
      · exact .inl ⟨q, m, fun z => (List.mem_cons.mp z).elim (ne_of_none q n) k⟩
      · exact .inr q, rels.hide n l⟩
  | .obj _ _ _, _, ⟨a, dx, xs, e, q, m, z, l⟩ => ⟨a, dx, xs, e, q, m, z, rels.hide n l⟩
  | .dct _ _, _, ⟨a, xs, e, q, m, z, l⟩ => ⟨a, xs, e, q, m, z, rels.hide n l⟩
  | .loc _, _, h => h
  | .fn _, _, h => h
  | .cls _, _, h => h
  | .ty _, _, h => h
theorem rels.hide {η : List Addr} {L : Addr} (n : H L = none) : ∀ {l : List D} {vs : List V}, rels K (N.h η) ι H l vs → rels K (N.h (L :: η)) ι H l vs
  | [], _, h => h
  | _ :: _, _, ⟨v, xs, e, a, b⟩ => ⟨v, xs, e, rel.hide n a, rels.hide n b⟩
end
mutual
/-- .. and told -/
theorem rel.show {η : List Addr} {L : Addr} : ∀ {d : D} {v : V}, rel K (N.h (L :: η)) ι H d v → rel K (N.h η) ι H d v
  | .non, _, h => h
  | .bl _, _, h => h
  | .int _, _, h => h
  | .str _, _, h => h
  | .tup _, _, ⟨a, xs, e, q, l⟩ => ⟨a, xs, e, q, rels.show l⟩
  | .lst _, _, ⟨a, xs, e, q, m, l⟩ => ⟨a, xs, e, q, ⟨m.1, fun z => m.2 (List.mem_cons_of_mem _ z)⟩, rels.show l⟩
  | .ro _, _, ⟨a, xs, e, q, l⟩ => ⟨a, xs, e, by
      rcases q with ⟨q, m, k⟩ | q
      · exact .inl ⟨q, m, fun z => k (List.mem_cons_of_mem _ z)⟩
      · exact .inr q, rels.show l⟩
  | .obj _ _ _, _, ⟨a, dx, xs, e, q, m, z, l⟩ => ⟨a, dx, xs, e, q, m, z, rels.show l⟩
  | .dct _ _, _, ⟨a, xs, e, q, m, z, l⟩ => ⟨a, xs, e, q, m, z, rels.show l⟩
  | .loc _, _, h => h
  | .fn _, _, h => h
  | .cls _, _, h => h
  | .ty _, _, h => h
theorem rels.show {η : List Addr} {L : Addr} : ∀ {l : List D} {vs : List V}, rels K (N.h (L :: η)) ι H l vs → rels K (N.h η) ι H l vs
  | [], _, h => h
  | _ :: _, _, ⟨v, xs, e, a, b⟩ => ⟨v, xs, e, rel.show a, rels.show b⟩
end
theorem relO.hide {η : List Addr} {L : Addr} (n : H L = none) {x : O} {ho : HO} (h : relO K (N.h η) ι H x ho) : relO K (N.h (L :: η)) ι H x ho := by
  cases x with
  | lst l => obtain ⟨xs, e, q⟩ := h; exact ⟨xs, e, q.hide n⟩
  | dct ks l => obtain ⟨xs, e, z, q⟩ := h; exact ⟨xs, e, z, q.hide n⟩
  | ins c ns l => obtain ⟨dx, xs, e, z, q⟩ := h; exact ⟨dx, xs, e, z, q.hide n⟩
theorem relO.show {η : List Addr} {L : Addr} {x : O} {ho : HO} (h : relO K (N.h (L :: η)) ι H x ho) : relO K (N.h η) ι H x ho := by
  cases x with
  | lst l => obtain ⟨xs, e, q⟩ := h; exact ⟨xs, e, q.show⟩
  | dct ks l => obtain ⟨xs, e, z, q⟩ := h; exact ⟨xs, e, z, q.show⟩
  | ins c ns l => obtain ⟨dx, xs, e, z, q⟩ := h; exact ⟨dx, xs, e, z, q.show⟩
mutual
theorem rel.same (k : ∀ a o, H a = some o → H' a = some o) : ∀ {d : D} {v : V}, rel K N ι H d v → rel K N ι H' d v
  | .non, _, h => h
  | .bl _, _, h => h
  | .int _, _, h => h
  | .str _, _, h => h
  | .tup _, _, ⟨a, xs, e, q, l⟩ => ⟨a, xs, e, by
      rcases q with (q | ⟨ob, q⟩) | q
      · exact .inl (.inl (k _ _ q))
      · exact .inl (.inr ⟨ob, k _ _ q⟩)
      · exact .inr q, rels.same k l⟩
  | .lst _, _, ⟨a, xs, e, q, n, l⟩ => ⟨a, xs, e, k _ _ q, n, rels.same k l⟩
  | .ro _, _, ⟨a, xs, e, q, l⟩ => ⟨a, xs, e, by
      rcases q with ⟨q, n, m⟩ | ⟨ob, q⟩ | q
      · exact .inl ⟨k _ _ q, n, m⟩
      · exact .inr (.inl ⟨ob, k _ _ q⟩)
      · exact .inr (.inr q), rels.same k l⟩
  | .obj _ _ _, _, ⟨a, dx, xs, e, q, n, z, l⟩ => ⟨a, dx, xs, e, k _ _ q, n, z, rels.same k l⟩
  | .dct _ _, _, ⟨a, xs, e, q, n, z, l⟩ => ⟨a, xs, e, k _ _ q, n, z, rels.same k l⟩
  | .loc _, _, h => h
  | .fn _, _, h => h
  | .cls _, _, h => h
  | .ty _, _, h => h
theorem rels.same (k : ∀ a o, H a = some o → H' a = some o) : ∀ {l : List D} {vs : List V}, rels K N ι H l vs → rels K N ι H' l vs
  | [], _, h => h
  | _ :: _, _, ⟨v, xs, e, a, b⟩ => ⟨v, xs, e, rel.same k a, rels.same k b⟩
end
theorem relO.same (k : ∀ a o, H a = some o → H' a = some o) {x : O} {ho : HO} (h : relO K N ι H x ho) : relO K N ι H' x ho := by
  cases x with
  | lst l => obtain ⟨xs, e, q⟩ := h; exact ⟨xs, e, q.same k⟩
  | dct ks l => obtain ⟨xs, e, z, q⟩ := h; exact ⟨xs, e, z, q.same k⟩
  | ins c ns l => obtain ⟨dx, xs, e, z, q⟩ := h; exact ⟨dx, xs, e, z, q.same k⟩
/-- a new list is laid, hidden -/
theorem RelSt.hide {η : List Addr} {L : Addr} {o : HO} (r : RelSt K (N.h η) ι H st) (n : H L = none) : RelSt K (N.h (L :: η)) ι (upd H L o) st := by
  have r' := r.laid (o := o) n
  refine ⟨r'.len, r'.nd, fun a ha => ?_, fun k a y e1 e2 => ?_⟩
  · rcases List.mem_cons.mp ha with rfl | ha
    · exact ⟨(r.out n).1, o, upd_same⟩
    · exact r'.hd a ha
  · obtain ⟨ho, e, q⟩ := r.at_ k a y e1 e2
    exact ⟨ho, by rw [upd_ne (ne_of_none e n)]; exact e, (q.hide n).same fun b u h => by rw [upd_ne (ne_of_none h n)]; exact h⟩
theorem RelSt.show {η : List Addr} {L : Addr} (r : RelSt K (N.h (L :: η)) ι H st) : RelSt K (N.h η) ι H st :=
  ⟨r.len, r.nd, fun a ha => r.hd a (List.mem_cons_of_mem _ ha), fun k a y e1 e2 => by
    obtain ⟨ho, e, q⟩ := r.at_ k a y e1 e2
    exact ⟨ho, e, q.show⟩⟩
end
end G

set_option Elab.async false
set_option linter.all false
set_option maxRecDepth 100000
/-! B1: a small language and what it computes over data trees and a store. -/
namespace G
open PySem L2

/-- an error that flies: its class, the names and values of its fields -/
structure XD where
  cls : Nat
  ns : List Nat
  fs : List D
inductive R (α : Type) where
  | ok (a : α) (st : Store)
  | exc (x : XD) (st : Store)
  | bad
def R.bind {α β : Type} (r : R α) (f : α → Store → R β) : R β :=
  match r with
  | .ok a st => f a st
  | .exc x st => .exc x st
  | .bad => .bad
def R.calm {α : Type} (r : R α) : R α :=
  match r with
  | .exc _ _ => .bad
  | r => r
/-- an optional value -/
def R.of {α : Type} (o : Option α) (st : Store) : R α :=
  match o with
  | some a => .ok a st
  | none => .bad
@[simp] theorem R.bind_ok {α β : Type} (a : α) (st : Store) (f : α → Store → R β) : (R.ok a st).bind f = f a st := (rfl)
@[simp] theorem R.bind_exc {α β : Type} (x : XD) (st : Store) (f : α → Store → R β) : (R.exc x st).bind f = .exc x st := (rfl)
@[simp] theorem R.bind_bad {α β : Type} (f : α → Store → R β) : (R.bad : R α).bind f = .bad := (rfl)
@[simp] theorem R.calm_ok {α : Type} (a : α) (st : Store) : (R.ok a st).calm = .ok a st := (rfl)
@[simp] theorem R.calm_exc {α : Type} (x : XD) (st : Store) : (R.exc x st : R α).calm = .bad := (rfl)
@[simp] theorem R.calm_bad {α : Type} : (R.bad : R α).calm = .bad := (rfl)
@[simp] theorem R.of_some {α : Type} (a : α) (st : Store) : R.of (some a) st = .ok a st := (rfl)
@[simp] theorem R.of_none {α : Type} (st : Store) : R.of (none : Option α) st = .bad := (rfl)

/-- what a loop walks -/
inductive IK where
  | one | zip | enum | range
  deriving DecidableEq

/-- built-in functions and classes that are called; methods of built-in classes -/
inductive BI where
  | len | isinstance | tuple | list | all | any | abs | int | str | gcd | dict | repr | sorted | min | max
  deriving DecidableEq
inductive BM where
  | append | extend | bitLength | join | split | index | pop
  deriving DecidableEq
mutual
inductive C where
  | lit (d : D)
  | var (i : Nat)
  | tup (es : List C)
  | lst (m : Bool) (es : List C)
  | dct (m : Bool) (ks : List Key) (es : List C)
  | bin (op : Operator) (a b : C)
  | binM (op : Operator) (a b : C)
  | neg (a : C)
  | not (a : C) | and (a b : C) | or (a b : C)
  | cmp (op : CmpOp) (a b : C) | chain (op op' : CmpOp) (a b c : C)
  | ite (c a b : C)
  | ix (a i : C)
  | slice (a : C) (lo hi : List C)
  | attr (o : C) (f : Nat)
  | call (f : Nat) (es : List C)
  | mk (c : Nat) (es : List C)
  | meth (o : C) (m : Nat) (es : List C)
  | bi (b : BI) (es : List C)
  | isiT (a : C) (es : List C)
  | biM (b : BI) (es : List C)
  | bm (o : C) (m : BM) (es : List C)
  | lc (m : Bool) (own : List Nat) (elt : C) (tg : Tg) (k : IK) (es : List C) (ifs : List C)
  | fstr (es : List C)
  | kix (ks : List Str) (ds : List D) (i : C)
inductive Tg where
  | nm (i : Nat)
  | tup (l : List Tg)
  | attr (o : C) (f : Nat)
  | sub (o i : C)
end
inductive S where
  | expr (e : C)
  | asg (tg : Tg) (e : C)
  | par (ij : List Nat) (es : List C)
  | aug (i : Nat) (op : Operator) (e : C)
  | augf (o : C) (f : Nat) (op : Operator) (e : C)
  | ite (c : C) (a b : List S)
  | for_ (tg : Tg) (k : IK) (es : List C) (body : List S)
  | whl (c : C) (body : List S)
  | ret (e : C)
  | retN
  | raise (c : Nat) (es : List C)
  | try_ (body : List S) (hs : List (Nat × Option Nat × List S))
  | brk | cnt | pass

abbrev Env' := List (Option D)
inductive Fl where
  | next (ρ : Env') | brk (ρ : Env') | cnt (ρ : Env') | ret (d : D)

/-! ### sizes -/
/-- a bound of lists that is far below the model's -/
def LIM : Nat := 1000000
/-- a product is small enough -/
def mulOk (i j : Int) : Bool := decide (i.natAbs < 2 ^ 64) || decide (j.natAbs < 2 ^ 64) || decide (Builtin.Int.intBits i + Builtin.Int.intBits j ≤ 134217728)

/-! ### built-in operators, by value -/
/-- the items of a list or tuple -/
def items? (st : Store) : D → Option (List D)
  | .tup l => some l
  | .lst l => some l
  | .ro l => some l
  | .loc n => match st[n]? with
    | some (.lst l) => some l
    | _ => none
  | _ => none
/-- the items of a list -/
def list? (st : Store) : D → Option (List D)
  | .lst l => some l
  | .loc n => match st[n]? with
    | some (.lst l) => some l
    | _ => none
  | _ => none
def cutD (l : List D) (lo hi : Option Int) : List D :=
  List.take (HT.sIx l.length l.length hi - HT.sIx l.length 0 lo) (List.drop (HT.sIx l.length 0 lo) l)
def sliceD (st : Store) (a : D) (l h : Option Int) : Option D :=
  match a with
  | .tup xs => some (.tup (cutD xs l h))
  | .str z => if z.length ≤ LIM then some (.str (cutS z l h)) else none
  | a => match list? st a with
    | some xs => some (.lst (cutD xs l h))
    | none => none
def keyOf : D → Option Key
  | .int i => some (.inl i)
  | .str s => some (.inr s)
  | _ => none
def dict? (st : Store) : D → Option (List Key × List D)
  | .dct ks l => some (ks, l)
  | .loc n => match st[n]? with
    | some (.dct ks l) => some (ks, l)
    | _ => none
  | _ => none
def lookK (k : Key) : List Key → List D → Option D
  | k' :: ks, d :: l => if k' = k then some d else lookK k ks l
  | _, _ => none
def ixD (st : Store) (a i : D) : Option D :=
  match a, i with
  | .str z, .int j => if z.length ≤ LIM then (atI z.cps.toList j).map fun c => .str ⟨#[c]⟩ else none
  | a, i => match items? st a with
    | some xs => match i with
      | .int j => atI xs j
      | _ => none
    | none => match dict? st a, keyOf i with
      | some (ks, l), some k => lookK k ks l
      | _, _ => none
def binD (st : Store) : Operator → D → D → Option D
  | .Add, .int i, .int j => some (.int (i + j))
  | .Add, .str x, .str y => if x.length + y.length ≤ LIM then some (.str (x ++ y)) else none
  | .Add, .tup xs, .tup ys => if xs.length + ys.length ≤ LIM then some (.tup (xs ++ ys)) else none
  | .Add, a, b => match list? st a, list? st b with
    | some xs, some ys => if xs.length + ys.length ≤ LIM then some (.lst (xs ++ ys)) else none
    | _, _ => none
  | .Sub, .int i, .int j => some (.int (i - j))
  | .Mult, .int i, .int j => if mulOk i j then some (.int (i * j)) else none
  | .FloorDiv, .int i, .int j => if j ≠ 0 ∧ j.natAbs.log2 < 9000 then some (.int (i.fdiv j)) else none
  | .Mod, .int i, .int j => if j ≠ 0 then some (.int (i.fmod j)) else none
  | .Pow, .int i, .int j => if 0 ≤ j ∧ j ≤ 1000000 ∧ i.natAbs < 2 ^ 64 then some (.int (i ^ j.toNat)) else none
  | .Mult, .tup xs, .int k => if xs ≠ [] ∧ 2 ≤ k ∧ k ≤ 1000 ∧ xs.length ≤ 1000 then some (.tup (List.replicate k.toNat xs).flatten) else none
  | .Mult, a, .int k => match list? st a with
    | some xs => if 0 ≤ k ∧ k ≤ 1000 ∧ xs.length * k.toNat ≤ LIM then some (.lst (List.replicate k.toNat xs).flatten) else none
    | none => none
  | _, _, _ => none
end G

set_option Elab.async false
set_option linter.all false
set_option maxRecDepth 100000
/-! B2: comparisons, built-ins, the evaluator. -/
namespace G
open PySem L2

/-! ### comparisons -/
def isNon : D → Bool
  | .non => true
  | _ => false
/-- as the model's equality takes it (fuel: the depth) -/
def toPy (st : Store) : Nat → D → Option PyData
  | _, .non => some .none
  | _, .bl b => some (.bool b)
  | _, .int i => some (.int i)
  | _, .str s => some (.str s)
  | n + 1, .tup l => (l.mapM (toPy st n)).map .tuple
  | n + 1, .lst l => (l.mapM (toPy st n)).map .list
  | n + 1, .ro l => (l.mapM (toPy st n)).map .list
  | n + 1, .loc k => match st[k]? with
    | some (.lst l) => (l.mapM (toPy st n)).map .list
    | _ => none
  | _, _ => none
/-- two told ratios -/
def rat? : D → Option (Int × Int)
  | .tup [.int a, .int b] => some (a, b)
  | _ => none
def eqD (st : Store) (a b : D) : Option Bool :=
  match toPy st 12 a, toPy st 12 b with
  | some x, some y => if SeqAt.shaped x && SeqAt.shaped y then some (PyData.eqv x y) else none
  | _, _ => none
/-- plain things -/
def flatD : D → Option V
  | .non => some .non
  | .bl b => some (.bl b)
  | .int i => some (.int i)
  | .str s => some (.str s)
  | _ => none
/-- nested data among others -/
def inDeep (x : Option PyData) (ys : Option (List PyData)) : Option Bool := match x, ys with
  | some x, some ys => if SeqAt.shaped x && (decide (x.depth ≤ 60) && ys.all SeqAt.shaped) then some (ys.any fun y => PyData.eqv y x) else none
  | _, _ => none
def inD (st : Store) (a b : D) : Option Bool :=
  match b with
  | .str z => match a with
    | .str c => some (!(Builtin.Str.occurrences z c 0 z.length 1).isEmpty)
    | _ => none
  | b => match items? st b with
    | some xs => match flatD a, xs.mapM flatD with
      | some x, some ys => some (inV x ys)
      | _, _ => inDeep (toPy st 12 a) (xs.mapM (toPy st 12))
    | none => match dict? st b, keyOf a with
      | some (ks, _), some k => some (ks.any fun k2 => decide (k2 = k))
      | _, _ => none
/-- a is b: None, True, False -/
def isB (a b : D) : Option Bool := match b with
  | .non => some (isNon a)
  | .bl k => match a with
    | .bl c => some (decide (c = k))
    | _ => none
  | _ => none
def cmpD (st : Store) : CmpOp → D → D → Option Bool
  | .Lt, .int i, .int j => some (decide (i < j))
  | .LtE, .int i, .int j => some (decide (i ≤ j))
  | .Gt, .int i, .int j => some (decide (j < i))
  | .GtE, .int i, .int j => some (decide (j ≤ i))
  | .Eq, a, b => eqD st a b
  | .NotEq, a, b => (eqD st a b).map (!·)
  | .Is, a, b => isB a b
  | .IsNot, a, b => (isB a b).map (!·)
  | .In, a, b => inD st a b
  | .NotIn, a, b => (inD st a b).map (!·)
  | _, _, _ => none

/-! ### tables -/
/-- a def: how many parameters, how many other slots, its body, whether what it hands back is frozen -/
structure FnD where
  np : Nat
  nl : Nat
  body : List S
  frz : Bool
/-- a class: its __init__, its methods, whether what is made is frozen -/
structure ClsD where
  init : Option Nat
  meths : List (Nat × Nat)
  /-- the attributes of its instances -/
  flds : List Nat
  frz : Bool
/-- the class of a thing -/
inductive Ty where
  | ty (n : BT) | cls (c : Nat)
  deriving DecidableEq
structure Tab where
  fns : List (Nat × FnD)
  clss : List (Nat × ClsD)
  /-- isinstance where own classes are asked for -/
  isi : List ((Ty × Ty) × Bool)

def tyOf (st : Store) : D → Option Ty
  | .non => some (.ty .non)
  | .bl _ => some (.ty .bl)
  | .int _ => some (.ty .int)
  | .str _ => some (.ty .str)
  | .tup _ => some (.ty .tup)
  | .lst _ => some (.ty .lst)
  | .ro _ => some (.ty .lst)
  | .dct _ _ => some (.ty .dct)
  | .obj c _ _ => some (.cls c)
  | .loc n => match st[n]? with
    | some (.lst _) => some (.ty .lst)
    | some (.dct _ _) => some (.ty .dct)
    | some (.ins c _ _) => some (.cls c)
    | none => none
  | _ => none
def tyD : D → Option Ty
  | .ty b => some (.ty b)
  | .cls c => some (.cls c)
  | _ => none
/-- isinstance for one class -/
def isiTy (T : Tab) : Ty → Ty → Option Bool
  | .ty t, .ty u => if t = u then some true else if t = .bl ∧ u = .int then some true else if u = .non then none else some false
  | t, u => T.isi.lookup (t, u)
def isiD (T : Tab) (st : Store) (a c : D) : Option Bool :=
  match tyOf st a, tyD c with
  | some t, some u => isiTy T t u
  | _, _ => none
/-- isinstance for several -/
def isiAny (T : Tab) (t : Ty) : List D → Option Bool
  | [] => some false
  | x :: r => match tyD x with
    | some u => match isiTy T t u with
      | some true => some true
      | some false => isiAny T t r
      | none => none
    | none => none
def isiTD (T : Tab) (st : Store) (a : D) (ds : List D) : Option Bool :=
  match tyOf st a with
  | some t => if (ds.all fun d => (tyD d).isSome) && !ds.isEmpty then isiAny T t ds else none
  | none => none
def bools? : List D → Option (List Bool)
  | [] => some []
  | .bl b :: r => (bools? r).map (b :: ·)
  | _ => none
def strs? : List D → Option (List Str)
  | [] => some []
  | .str b :: r => (strs? r).map (b :: ·)
  | _ => none
def lenD (st : Store) (a : D) : Option Nat :=
  match a with
  | .str z => if z.length ≤ LIM then some z.length else none
  | a => match items? st a with
    | some xs => some xs.length
    | none => match dict? st a with
      | some (ks, _) => some ks.length
      | none => none
/-- built-in functions and classes that make nothing that is written -/
def biD (T : Tab) (st : Store) : BI → List D → Option D
  | .len, [a] => (lenD st a).map fun (n : Nat) => D.int (n : Int)
  | .isinstance, [a, c] => (isiD T st a c).map .bl
  | .tuple, [a] => (items? st a).map .tup
  | .list, [a] => (items? st a).map .lst
  | .all, [a] => match list? st a with
    | some l => (bools? l).map fun bs => .bl (bs.all id)
    | none => none
  | .any, [a] => match list? st a with
    | some l => (bools? l).map fun bs => .bl (bs.any id)
    | none => none
  | .abs, [.int i] => some (.int (if i < 0 then -i else i))
  | .int, [.int i] => some (.int i)
  | .int, [.bl b] => some (.int (if b then 1 else 0))
  | .str, [.str x] => some (.str x)
  | .str, [.int i] => if i.natAbs.log2 < 1920 then some (.str (toString i)) else none
  | .gcd, [.int a, .int b] => some (.int (Nat.gcd a.natAbs b.natAbs : Nat))
  | _, _ => none
/-- those that make what may be written -/
def biO (st : Store) : BI → List D → Option O
  | .list, [a] => (items? st a).map .lst
  | .dict, [a] => (dict? st a).map fun p => .dct p.1 p.2
  | _, _ => none
def binO (st : Store) (op : Operator) (a b : D) : Option O :=
  match op with
  | .Add => match list? st a, list? st b with
    | some xs, some ys => if xs.length + ys.length ≤ LIM then some (.lst (xs ++ ys)) else none
    | _, _ => none
  | .Mult => match b with
    | .int k => match list? st a with
      | some xs => if 0 ≤ k ∧ k ≤ 1000 ∧ xs.length * k.toNat ≤ LIM then some (.lst (List.replicate k.toNat xs).flatten) else none
      | none => none
    | _ => none
  | _ => none
def isLst : Option O → Bool
  | some (.lst _) => true
  | _ => false
/-- built-in methods that change a place of the store, or nothing -/
def bmD (st : Store) : BM → D → List D → R D
  | .append, .loc n, [d] => match st[n]? with
    | some (.lst l) => if l.length < LIM then .ok .non (st.set n (.lst (l ++ [d]))) else .bad
    | _ => .bad
  | .extend, .loc n, [d] => match st[n]?, list? st d with
    | some (.lst l), some m => if l.length + m.length ≤ LIM then .ok .non (st.set n (.lst (l ++ m))) else .bad
    | _, _ => .bad
  | .bitLength, .int i, [] => .ok (.int (Builtin.Int.intBits i : Nat)) st
  | .join, .str z, [d] => match items? st d with
    | some l => match strs? l with
      | some ss => if (Txt.join z ss).length ≤ LIM ∧ ss.length ≤ LIM then .ok (.str (Txt.join z ss)) st else .bad
      | none => .bad
    | none => .bad
  | .pop, .loc n, [] => match st[n]? with
    | some (.lst l) => match l[l.length - 1]? with
      | some d => .ok d (st.set n (.lst l.dropLast))
      | none => .bad
    | _ => .bad
  | .pop, .loc n, [.int i] => match st[n]? with
    | some (.lst l) => match seqIndex? i l.length with
      | some k => match l[k]? with
        | some d => if -(2 ^ 63) ≤ i ∧ i < 2 ^ 63 then .ok d (st.set n (.lst (l.eraseIdx k))) else .bad
        | none => .bad
      | none => .bad
    | _ => .bad
  | _, _, _ => .bad
/-- the object of such a method -/
def bmTy (st : Store) : BM → D → Bool
  | .append, .loc n => isLst st[n]?
  | .extend, .loc n => isLst st[n]?
  | .pop, .loc n => isLst st[n]?
  | .bitLength, .int _ => true
  | .join, .str _ => true
  | _, _ => false

/-! ### what is walked -/
/-- the i-th item of one source; none: the source is none; some none: there is no more -/
def srcAt (st : Store) (a : D) (i : Nat) : Option (Option D) :=
  match items? st a with
  | some xs => some xs[i]?
  | none => none
def zipAt (st : Store) : List D → Nat → Option (Option (List D))
  | [], _ => some (some [])
  | a :: r, i => match srcAt st a i, zipAt st r i with
    | some (some x), some (some xs) => some (some (x :: xs))
    | some none, some _ => some none
    | some _, some none => some none
    | _, _ => none
def itAt (st : Store) : IK → List D → Nat → Option (Option D)
  | .one, [a], i => srcAt st a i
  | .enum, [a], i => match srcAt st a i with
    | some (some x) => some (some (.tup [.int i, x]))
    | some none => some none
    | none => none
  | .zip, ds, i => match zipAt st ds i with
    | some (some xs) => some (some (.tup xs))
    | some none => some none
    | none => none
  | .range, [.int n], i => some (if i < n.toNat then some (.int i) else none)
  | .range, [.int a, .int b], i => some (if i < (b - a).toNat then some (.int (a + i)) else none)
  | _, _, _ => none
/-- how many turns there are, by the sources as they stand -/
def srcLen (st : Store) (a : D) : Nat := match items? st a with
  | some xs => xs.length
  | none => 0
def itLen (st : Store) : IK → List D → Nat
  | .one, [a] => srcLen st a
  | .enum, [a] => srcLen st a
  | .zip, a :: r => (r.map (srcLen st)).foldl min (srcLen st a)
  | .range, [.int n] => n.toNat
  | .range, [.int a, .int b] => (b - a).toNat
  | _, _ => 0
/-- the ranges' bounds -/
def itOk (st : Store) : IK → List D → Bool
  | .one, [a] => (items? st a).isSome
  | .enum, [a] => (items? st a).isSome
  | .zip, [a, b] => (items? st a).isSome && (items? st b).isSome
  | .zip, [a, b, c] => (items? st a).isSome && (items? st b).isSome && (items? st c).isSome
  | .range, [.int n] => decide (-(2 ^ 62) ≤ n ∧ n < 2 ^ 62)
  | .range, [.int a, .int b] => decide (-(2 ^ 62) ≤ a ∧ a < 2 ^ 62 ∧ -(2 ^ 62) ≤ b ∧ b < 2 ^ 62)
  | _, _ => false

/-! ### freezing -/
mutual
/-- no place from n on is named -/
def below (n : Nat) : D → Bool
  | .tup l => belows n l
  | .lst l => belows n l
  | .ro l => belows n l
  | .obj _ _ l => belows n l
  | .dct _ l => belows n l
  | .loc k => decide (k < n)
  | _ => true
def belows (n : Nat) : List D → Bool
  | [] => true
  | d :: r => below n d && belows n r
end
def belowO (n : Nat) : O → Bool
  | .lst l => belows n l
  | .dct _ l => belows n l
  | .ins _ _ l => belows n l
/-- places from n on as trees -/
def freeze (st : Store) (n : Nat) : Nat → D → Option D
  | f + 1, .tup l => (l.mapM (freeze st n f)).map .tup
  | f + 1, .lst l => (l.mapM (freeze st n f)).map .lst
  | f + 1, .obj c ns l => (l.mapM (freeze st n f)).map (.obj c ns)
  | f + 1, .dct ks l => (l.mapM (freeze st n f)).map (.dct ks)
  | f + 1, .loc k => if k < n then some (.loc k) else match st[k]? with
    | some (.lst l) => (l.mapM (freeze st n f)).map .lst
    | some (.dct ks l) => (l.mapM (freeze st n f)).map (.dct ks)
    | some (.ins c ns l) => (l.mapM (freeze st n f)).map (.obj c ns)
    | none => none
  | _, d => if below n d then some d else none
/-- what a def hands back, and the store without what it made in passing -/
def leave (frz : Bool) (n : Nat) (d : D) (st : Store) : R D :=
  if st.length = n then .ok d st
  else if frz then match freeze st n 12 d with
    | some d' => if (st.take n).all (belowO n) then .ok d' (st.take n) else .bad
    | none => .bad
  else if below n d && (st.take n).all (belowO n) then .ok d (st.take n) else .ok d st

/-! ### the evaluator -/
def lookA (f : Nat) : List Nat → List D → Option D
  | k :: ks, d :: l => if k = f then some d else lookA f ks l
  | _, _ => none
def Tab.has (T : Tab) (c f : Nat) : Bool := match T.clss.lookup c with
  | some k => k.flds.contains f
  | none => false
def attrD (T : Tab) (st : Store) (a : D) (f : Nat) : Option D :=
  match a with
  | .obj c ns l => if T.has c f then lookA f ns l else none
  | .loc n => match st[n]? with
    | some (.ins c ns l) => if T.has c f then lookA f ns l else none
    | _ => none
  | _ => none
def instOf (st : Store) : D → Option (Nat × List Nat)
  | .obj c ns _ => some (c, ns)
  | .loc n => match st[n]? with
    | some (.ins c ns _) => some (c, ns)
    | _ => none
  | _ => none
def lookM (m : Nat) : List (Nat × Nat) → Option Nat
  | (k, f) :: r => if k = m then some f else lookM m r
  | [] => none
/-- the def that a method's name means for an instance -/
def methOf (T : Tab) (st : Store) (x : D) (m : Nat) : Option Nat :=
  match instOf st x with
  | some (c, ns) => if ns.contains m then none else match T.clss.lookup c with
    | some k => lookM m k.meths
    | none => none
  | none => none

/-- an attribute stored -/
def putA (f : Nat) (d : D) : List Nat → List D → List Nat × List D
  | k :: ks, e :: l => if k = f then (k :: ks, d :: l) else ((putA f d ks l).1.cons k, (putA f d ks l).2.cons e)
  | _, _ => ([f], [d])
def putL (k : Key) (d : D) : List Key → List D → List D
  | k' :: ks, e :: l => (if k' = k then d else e) :: putL k d ks l
  | _, l => l
def putK' (k : Key) (d : D) (ks : List Key) (l : List D) : List Key × List D :=
  if (ks.any fun k2 => decide (k2 = k)) = true then (ks, putL k d ks l) else (ks ++ [k], l ++ [d])
def getVar (ρ : Env') (i : Nat) : Option D := match ρ[i]? with
  | some (some d) => some d
  | _ => none
/-- slots forgotten -/
def wipeD (ρ : Env') : List Nat → Env'
  | [] => ρ
  | v :: vs => (wipeD ρ vs).set v none

def lookS (z : Str) : List Str → List D → Option D
  | k :: ks, d :: l => if k = z then some d else lookS z ks l
  | _, _ => none
abbrev Call := Nat → List D → Store → R D
section
variable (T : Tab) (call : Call)
/-- an instance is made -/
def mkObj (c : Nat) (ds : List D) (st : Store) : R D :=
  match T.clss.lookup c with
  | none => .bad
  | some k => match k.init with
    | none => match ds with
      | [] => .ok (.obj c [] []) st
      | _ => .bad
    | some i => (call i (.loc st.length :: ds) (st ++ [.ins c [] []])).bind fun r st' =>
      if isNon r then
        if k.frz && st'.length == st.length + 1 then match st'[st.length]? with
          | some (.ins c' ns l) => if c' = c ∧ belows st.length l ∧ (st'.take st.length).all (belowO st.length) then .ok (.obj c ns l) (st'.take st.length) else .bad
          | _ => .bad
        else .ok (.loc st.length) st'
      else .bad
def forR {α : Type} (n i : Nat) (turn : Nat → α → Store → R (Sum α Fl)) (a : α) (st : Store) : R (Sum α Fl) :=
  match n with
  | 0 => .ok (.inl a) st
  | n + 1 => (turn i a st).bind fun r st' => match r with
    | .inl a' => forR n (i + 1) turn a' st'
    | .inr f => .ok (.inr f) st'
mutual
def ev : C → Env' → Store → R D
  | .lit d, ρ, st => .ok d st
  | .var i, ρ, st => .of (getVar ρ i) st
  | .tup es, ρ, st => (evs es ρ st).bind fun ds st => if ds.length ≤ LIM then .ok (.tup ds) st else .bad
  | .lst m es, ρ, st => (evs es ρ st).bind fun ds st => if ds.length ≤ LIM then (if m then .ok (.loc st.length) (st ++ [.lst ds]) else .ok (.lst ds) st) else .bad
  | .dct m ks es, ρ, st => (evs es ρ st).bind fun ds st => if ds.length = ks.length ∧ ks.length ≤ 15 ∧ ks ≠ [] ∧ ks.Nodup then (if m then .ok (.loc st.length) (st ++ [.dct ks ds]) else .ok (.dct ks ds) st) else .bad
  | .bin op a b, ρ, st => (ev a ρ st).bind fun x st => (ev b ρ st).bind fun y st => .of (binD st op x y) st
  | .binM op a b, ρ, st => (ev a ρ st).bind fun x st => (ev b ρ st).bind fun y st => (R.of (binO st op x y) st).bind fun o st => .ok (.loc st.length) (st ++ [o])
  | .neg a, ρ, st => (ev a ρ st).bind fun x st => match x with
    | .int i => .ok (.int (-i)) st
    | _ => .bad
  | .not a, ρ, st => (ev a ρ st).bind fun x st => match x with
    | .bl b => .ok (.bl (!b)) st
    | _ => .bad
  | .and a b, ρ, st => (ev a ρ st).bind fun x st => match x with
    | .bl true => ev b ρ st
    | .bl false => .ok (.bl false) st
    | _ => .bad
  | .or a b, ρ, st => (ev a ρ st).bind fun x st => match x with
    | .bl true => .ok (.bl true) st
    | .bl false => ev b ρ st
    | _ => .bad
  | .cmp op a b, ρ, st => (ev a ρ st).bind fun x st => (ev b ρ st).bind fun y st => (R.of (cmpD st op x y) st).bind fun k st => .ok (.bl k) st
  | .chain op op' a b c, ρ, st => (ev a ρ st).bind fun x st => (ev b ρ st).bind fun y st => (R.of (cmpD st op x y) st).bind fun k st =>
    if k then (ev c ρ st).bind fun z st => (R.of (cmpD st op' y z) st).bind fun k st => .ok (.bl k) st else .ok (.bl false) st
  | .ite c a b, ρ, st => (ev c ρ st).bind fun x st => match x with
    | .bl true => ev a ρ st
    | .bl false => ev b ρ st
    | _ => .bad
  | .ix a i, ρ, st => (ev a ρ st).bind fun x st => (ev i ρ st).bind fun y st => .of (ixD st x y) st
  | .slice a lo hi, ρ, st => (ev a ρ st).bind fun x st => (evPart lo ρ st).bind fun l st => (evPart hi ρ st).bind fun h st => .of (sliceD st x l h) st
  | .attr o f, ρ, st => (ev o ρ st).bind fun x st => .of (attrD T st x f) st
  | .call f es, ρ, st => (evs es ρ st).bind fun ds st => call f ds st
  | .mk c es, ρ, st => (evs es ρ st).bind fun ds st => mkObj T call c ds st
  | .meth o m es, ρ, st => (ev o ρ st).bind fun x st => match methOf T st x m with
    | some f => (evs es ρ st).bind fun ds st => call f (x :: ds) st
    | none => .bad
  | .bi b es, ρ, st => (evs es ρ st).bind fun ds st => .of (biD T st b ds) st
  | .isiT a es, ρ, st => (ev a ρ st).bind fun x st => (evs es ρ st).bind fun ds st => if ds.length ≤ LIM then (R.of (isiTD T st x ds) st).bind fun b st => .ok (.bl b) st else .bad
  | .biM b es, ρ, st => (evs es ρ st).bind fun ds st => (R.of (biO st b ds) st).bind fun o st => .ok (.loc st.length) (st ++ [o])
  | .bm o m es, ρ, st => (ev o ρ st).bind fun x st => if bmTy st m x then (evs es ρ st).bind fun ds st => bmD st m x ds else .bad
  | .lc m own elt tg k es ifs, ρ, st => (evs es ρ st).bind fun ds st =>
    if itOk st k ds ∧ itLen st k ds ≤ LIM then
      (forR (itLen st k ds) 0 (fun i acc st => match itAt st k ds i with
        | some (some x) => ((asgT tg x (wipeD ρ own) st).bind fun ρ' st => (evIfs ifs ρ' st).bind fun b st =>
            if b then (ev elt ρ' st).bind fun y st => .ok (.inl (acc ++ [y])) st else .ok (.inl acc) st).calm
        | _ => .bad) [] st).bind fun r st' => match r with
          | .inl acc => if itOk st' k ds = true ∧ itLen st' k ds = itLen st k ds then (if m then .ok (.loc st'.length) (st' ++ [.lst acc]) else .ok (.lst acc) st') else .bad
          | .inr _ => .bad
    else .bad
  | .fstr es, ρ, st => (evs es ρ st).bind fun ds st => .bad
  | .kix ks ds i, ρ, st => (ev i ρ st).bind fun y st => match y with
    | .str z => .of (lookS z ks ds) st
    | _ => .bad
def evs : List C → Env' → Store → R (List D)
  | [], ρ, st => .ok [] st
  | e :: es, ρ, st => (ev e ρ st).bind fun d st => (evs es ρ st).bind fun ds st => .ok (d :: ds) st
def evPart : List C → Env' → Store → R (Option Int)
  | [], ρ, st => .ok none st
  | [e], ρ, st => (ev e ρ st).bind fun d st => match d with
    | .int i => .ok (some i) st
    | _ => .bad
  | _, _, _ => .bad
def evIfs : List C → Env' → Store → R Bool
  | [], ρ, st => .ok true st
  | e :: es, ρ, st => (ev e ρ st).bind fun d st => match d, es with
    | .bl b, [] => .ok b st
    | _, _ => .bad
/-- a target's store -/
def asgT : Tg → D → Env' → Store → R Env'
  | .nm i, d, ρ, st => if i < ρ.length then .ok (ρ.set i (some d)) st else .bad
  | .tup l, d, ρ, st => match d with
    | .tup ds => if ds.length = l.length then asgTs l ds ρ st else .bad
    | .lst ds => if ds.length = l.length then asgTs l ds ρ st else .bad
    | _ => .bad
  | .attr o f, d, ρ, st => (ev o ρ st).bind fun x st => match x with
    | .loc n => match st[n]? with
      | some (.ins c ns l) => if ns.length < 900 ∧ T.has c f = true then .ok ρ (st.set n (.ins c (putA f d ns l).1 (putA f d ns l).2)) else .bad
      | _ => .bad
    | _ => .bad
  | .sub o i, d, ρ, st => (ev o ρ st).bind fun x st => (ev i ρ st).bind fun y st => match x with
    | .loc n => match st[n]?, y with
      | some (.lst l), .int j => match ixN l.length j with
        | some k => .ok ρ (st.set n (.lst (l.set k d)))
        | none => .bad
      | some (.dct ks l), y => match keyOf y with
        | some k => if ks.length < LIM then .ok ρ (st.set n (.dct (putK' k d ks l).1 (putK' k d ks l).2)) else .bad
        | none => .bad
      | _, _ => .bad
    | _ => .bad
def asgTs : List Tg → List D → Env' → Store → R Env'
  | [], [], ρ, st => .ok ρ st
  | t :: ts, d :: ds, ρ, st => (asgT t d ρ st).bind fun ρ st => asgTs ts ds ρ st
  | _, _, _, _ => .bad
end
end
end G

set_option Elab.async false
set_option linter.all false
set_option maxRecDepth 100000
/-! B3: statements, defs. -/
namespace G
open PySem L2

def toB : D → Store → R Bool
  | .bl b, st => .ok b st
  | _, _ => .bad
section
variable (T : Tab) (call : Call) (wf : Nat)
def setAll (ρ : Env') : List Nat → List D → Env'
  | i :: is, d :: ds => setAll (ρ.set i (some d)) is ds
  | _, _ => ρ
def whlR (n : Nat) (test : Env' → Store → R Bool) (body : Env' → Store → R Fl) (ρ : Env') (st : Store) : R Fl :=
  match n with
  | 0 => .bad
  | n + 1 => (test ρ st).bind fun b st => if b then (body ρ st).bind fun f st => match f with
      | .next ρ' => whlR n test body ρ' st
      | .cnt ρ' => whlR n test body ρ' st
      | .brk ρ' => .ok (.next ρ') st
      | .ret d => .ok (.ret d) st
    else .ok (.next ρ) st
def bodyEnd (f : Fl) (st : Store) : R (Sum Env' Fl) := match f with
  | .next ρ' => .ok (.inl ρ') st
  | .cnt ρ' => .ok (.inl ρ') st
  | .brk ρ' => .ok (.inr (.next ρ')) st
  | .ret d => .ok (.inr (.ret d)) st
def forEnd (k : IK) (ds : List D) (n : Nat) (r : Sum Env' Fl) (st' : Store) : R Fl := match r with
  | .inl ρ' => if itOk st' k ds = true ∧ itLen st' k ds = n then .ok (.next ρ') st' else .bad
  | .inr f => .ok f st'
/-- op= -/
def augD : Operator → D → D → Option D
  | .Add, .int i, .int j => some (.int (i + j))
  | .Sub, .int i, .int j => some (.int (i - j))
  | _, _, _ => none
/-- an own error is made: its fields are what was handed in -/
structure ExD where
  fields : List Nat
def augEnd (n f c0 : Nat) (ρ : Env') (z : D) (st : Store) : R Fl := match st[n]? with
  | some (.ins c ns l) => if c = c0 ∧ ns.length < 900 ∧ T.has c f = true then .ok (.next ρ) (st.set n (.ins c (putA f z ns l).1 (putA f z ns l).2)) else .bad
  | _ => .bad
mutual
def ex : S → Env' → Store → R Fl
  | .expr e, ρ, st => (ev T call e ρ st).bind fun _ st => .ok (.next ρ) st
  | .asg tg e, ρ, st => (ev T call e ρ st).bind fun d st => (asgT T call tg d ρ st).bind fun ρ st => .ok (.next ρ) st
  | .par ij es, ρ, st => (evs T call es ρ st).bind fun ds st => if ds.length = ij.length ∧ ij.all (· < ρ.length) then .ok (.next (setAll ρ ij ds)) st else .bad
  | .aug i op e, ρ, st => match getVar ρ i with
    | none => .bad
    | some x => (ev T call e ρ st).bind fun y st => (R.of (augD op x y) st).bind fun z st => .ok (.next (ρ.set i (some z))) st
  | .augf o f op e, ρ, st => (ev T call o ρ st).bind fun x st => match x with
    | .loc n => match attrD T st (.loc n) f with
      | some v => match instOf st (.loc n) with
        | some (c0, _) => (ev T call e ρ st).bind fun y st => (R.of (augD op v y) st).bind (augEnd T n f c0 ρ)
        | none => .bad
      | none => .bad
    | _ => .bad
  | .ite c a b, ρ, st => (ev T call c ρ st).bind fun x st => match x with
    | .bl true => exs a ρ st
    | .bl false => exs b ρ st
    | _ => .bad
  | .for_ tg k es body, ρ, st => (evs T call es ρ st).bind fun ds st =>
    if itOk st k ds then
      (forR (itLen st k ds) 0 (fun i ρ st => match itAt st k ds i with
        | some (some x) => (asgT T call tg x ρ st).bind fun ρ st => (exs body ρ st).bind bodyEnd
        | _ => .bad) ρ st).bind (forEnd k ds (itLen st k ds))
    else .bad
  | .whl c body, ρ, st => whlR wf (fun ρ st => (ev T call c ρ st).bind toB) (fun ρ st => exs body ρ st) ρ st
  | .ret e, ρ, st => (ev T call e ρ st).bind fun d st => .ok (.ret d) st
  | .retN, ρ, st => .ok (.ret .non) st
  | .raise c es, ρ, st => .bad
  | .try_ body hs, ρ, st => .bad
  | .brk, ρ, st => .ok (.brk ρ) st
  | .cnt, ρ, st => .ok (.cnt ρ) st
  | .pass, ρ, st => .ok (.next ρ) st
def exs : List S → Env' → Store → R Fl
  | [], ρ, st => .ok (.next ρ) st
  | s :: r, ρ, st => (ex s ρ st).bind fun f st => match f with
    | .next ρ => exs r ρ st
    | f => .ok f st
end
end
/-- a def's body over what is handed in -/
def runFn (T : Tab) (call : Call) (wf : Nat) (fd : FnD) (ds : List D) (st : Store) : R D :=
  if ds.length = fd.np then
    (exs T call wf fd.body (ds.map some ++ List.replicate fd.nl none) st).bind fun f st' => match f with
      | .ret d => leave fd.frz st.length d st'
      | .next _ => leave fd.frz st.length .non st'
      | _ => .bad
  else .bad
def callN (T : Tab) (wf : Nat) : Nat → Call
  | 0 => fun _ _ _ => .bad
  | n + 1 => fun f ds st => match T.fns.lookup f with
    | some fd => runFn T (callN T wf n) wf fd ds st
    | none => .bad
end G

set_option Elab.async false
set_option linter.all false
set_option maxRecDepth 100000
/-! C1: what an evaluation means for the model: readings, contexts. -/
namespace G
open PySem L2

section
variable (K : PySem.W.Frag) (N : Nms)
def relE (ι : List Addr) (H : Hp) (ρ : Env') (σ : St) : Prop :=
  ρ.length = σ.length ∧ ∀ (i : Nat) (d : D), ρ[i]? = some (some d) → ∃ v, σ[i]? = some (some v) ∧ rel K N ι H d v
def relX (ι : List Addr) (H : Hp) (x : XD) (c : Value) (dx : Option Addr) : Prop :=
  c = .ref (N.cls x.cls) ∧ ∃ d xs, dx = some d ∧ H d = some (.xd ((x.ns.map N.attr).zip xs)) ∧ d ∉ ι ∧ x.ns.length = xs.length ∧ rels K N ι H x.fs xs
/-- behind an evaluation from (ι, H) -/
def Fin {α : Type} (ι : List Addr) (H : Hp) (r : R α) (k : List Addr → Hp → Store → α → Prop) (E : XK) : Prop :=
  match r with
  | .ok a st => ∀ ι' H', Post ι H ι' H' → RelSt K N ι' H' st → k ι' H' st a
  | .exc x st => ∀ ι' H' c dx, Post ι H ι' H' → RelSt K N ι' H' st → relX K N ι' H' x c dx → E c dx H'
  | .bad => False
end
section
variable {K : PySem.W.Frag} {N : Nms} {ι ι' : List Addr} {H H' : Hp} {st st' : Store} {E : XK}
theorem Fin.mono {α : Type} {r : R α} {k : List Addr → Hp → Store → α → Prop} (f : Fin K N ι H r k E) (p : Post ι H ι' H') : Fin K N ι' H' r k E := by
  cases r with
  | ok a st => exact fun ι2 H2 q r => f ι2 H2 (p.trans q) r
  | exc x st => exact fun ι2 H2 c dx q r z => f ι2 H2 c dx (p.trans q) r z
  | bad => exact f
theorem Fin.bind {α β : Type} {r : R α} {g : α → Store → R β} {k : List Addr → Hp → Store → β → Prop} (f : Fin K N ι H (r.bind g) k E) :
    Fin K N ι H r (fun ι1 H1 st1 a => Fin K N ι1 H1 (g a st1) k E) E := by
  cases r with
  | ok a st => exact fun ι2 H2 q r => Fin.mono (r := g a st) f q
  | exc x st => exact f
  | bad => exact f
theorem Fin.imp {α : Type} {r : R α} {k k' : List Addr → Hp → Store → α → Prop} (f : Fin K N ι H r k E) (h : ∀ ι' H' st a, Post ι H ι' H' → RelSt K N ι' H' st → r = .ok a st → k ι' H' st a → k' ι' H' st a) : Fin K N ι H r k' E := by
  cases r with
  | ok a st => exact fun ι2 H2 q r => h ι2 H2 st a q r rfl (f ι2 H2 q r)
  | exc x st => exact f
  | bad => exact f
theorem Fin.of_ok {α : Type} {a : α} {k : List Addr → Hp → Store → α → Prop} (f : Fin K N ι H (.ok a st) k E) (r : RelSt K N ι H st) : k ι H st a := f ι H Post.refl r
theorem Fin.ok_at {α : Type} {a : α} {k : List Addr → Hp → Store → α → Prop} (f : Fin K N ι H (.ok a st) k E) (p : Post ι H ι' H') (r : RelSt K N ι' H' st) : k ι' H' st a := f ι' H' p r
theorem relE.post {ρ : Env'} {σ : St} (h : relE K N ι H ρ σ) (r : RelSt K N ι H st) (p : Post ι H ι' H') : relE K N ι' H' ρ σ :=
  ⟨h.1, fun i d e => let ⟨v, a, b⟩ := h.2 i d e; ⟨v, a, rel.post r p b⟩⟩
theorem relE.set {ρ : Env'} {σ : St} (h : relE K N ι H ρ σ) (i : Nat) {d : D} {v : V} (r : rel K N ι H d v) : relE K N ι H (ρ.set i (some d)) (σ.set i (some v)) := by
  refine ⟨by simp [h.1], fun j e q => ?_⟩
  by_cases hj : i = j
  · subst hj
    by_cases hi : i < ρ.length
    · rw [List.getElem?_set_self hi] at q; cases q
      exact ⟨v, by rw [List.getElem?_set_self (by rw [← h.1]; exact hi)], r⟩
    · rw [List.getElem?_eq_none (by simpa using hi)] at q; cases q
  · rw [List.getElem?_set_ne hj] at q
    obtain ⟨w, a, b⟩ := h.2 j e q
    exact ⟨w, by rw [List.getElem?_set_ne hj]; exact a, b⟩
end

/-! ### readings -/
/-- slots that are alike but for some -/
def Agree (sl : List Nat) (σ σ' : St) : Prop := σ.length = σ'.length ∧ ∀ i, i ∉ sl → σ'[i]? = σ[i]?
theorem Agree.refl {sl : List Nat} {σ : St} : Agree sl σ σ := ⟨rfl, fun _ _ => rfl⟩
theorem Agree.trans {sl sl' : List Nat} {σ σ' σ'' : St} (a : Agree sl σ σ') (b : Agree sl' σ' σ'') : Agree (sl ++ sl') σ σ'' :=
  ⟨a.1.trans b.1, fun i h => (b.2 i fun z => h (List.mem_append_right _ z)).trans (a.2 i fun z => h (List.mem_append_left _ z))⟩
theorem Agree.mono {sl sl' : List Nat} {σ σ' : St} (a : Agree sl σ σ') (h : ∀ i ∈ sl, i ∈ sl') : Agree sl' σ σ' := ⟨a.1, fun i n => a.2 i fun z => n (h i z)⟩

section
variable (K : PySem.W.Frag) (N : Nms) (W : WX)
/-- what is wished of an exception, whatever the slots hold -/
def EW : XK := fun c d H => ∀ σ, W c d σ H
def tE (m : Env' → Store → R D) : TE := fun σ H Q => ∃ η ι ρ st, RelSt K (N.h η) ι H st ∧ relE K (N.h η) ι H ρ σ ∧ Fin K (N.h η) ι H (m ρ st) (fun ι' H' _ d => ∀ v, rel K (N.h η) ι' H' d v → Q v H') (EW W)
def tT (m : Env' → Store → R Bool) : TT := fun σ H Q => ∃ η ι ρ st, RelSt K (N.h η) ι H st ∧ relE K (N.h η) ι H ρ σ ∧ Fin K (N.h η) ι H (m ρ st) (fun ι' H' _ b => Q b H') (EW W)
def tA (m : Env' → Store → R (List D)) : TA := fun σ H Q => ∃ η ι ρ st, RelSt K (N.h η) ι H st ∧ relE K (N.h η) ι H ρ σ ∧ Fin K (N.h η) ι H (m ρ st) (fun ι' H' _ ds => ∀ vs, rels K (N.h η) ι' H' ds vs → Q vs H') (EW W)
def tS (m : Env' → Store → R Fl) : TS := fun D σ H => ∃ η ι ρ st, RelSt K (N.h η) ι H st ∧ relE K (N.h η) ι H ρ σ ∧ Fin K (N.h η) ι H (m ρ st) (fun ι' H' _ f => match f with
  | .next ρ' => ∀ σ', relE K (N.h η) ι' H' ρ' σ' → D.nx σ' H'
  | .brk ρ' => ∀ σ', relE K (N.h η) ι' H' ρ' σ' → D.bk σ' H'
  | .cnt ρ' => ∀ σ', relE K (N.h η) ι' H' ρ' σ' → D.ct σ' H'
  | .ret d => ∀ v, rel K (N.h η) ι' H' d v → D.rt v H') (EW W)
def tG (sl : List Nat) (m : D → Env' → Store → R Env') : TG := fun v σ H Q => ∃ η ι ρ st d, RelSt K (N.h η) ι H st ∧ relE K (N.h η) ι H ρ σ ∧ rel K (N.h η) ι H d v ∧ Fin K (N.h η) ι H (m d ρ st) (fun ι' H' _ ρ' => ∀ σ', relE K (N.h η) ι' H' ρ' σ' → Agree sl σ σ' → Q σ' H') (EW W)
def tGs (sl : List Nat) (m : List D → Env' → Store → R Env') : TGs := fun vs σ H Q => ∃ η ι ρ st ds, RelSt K (N.h η) ι H st ∧ relE K (N.h η) ι H ρ σ ∧ rels K (N.h η) ι H ds vs ∧ Fin K (N.h η) ι H (m ds ρ st) (fun ι' H' _ ρ' => ∀ σ', relE K (N.h η) ι' H' ρ' σ' → Agree sl σ σ' → Q σ' H') (EW W)
/-- by values: two, one, many -/
def r2 (m : Store → D → D → R D) : R2 := fun x y H Q => ∃ η ι st d e, RelSt K (N.h η) ι H st ∧ rel K (N.h η) ι H d x ∧ rel K (N.h η) ι H e y ∧ Fin K (N.h η) ι H (m st d e) (fun ι' H' _ d => ∀ v, rel K (N.h η) ι' H' d v → Q v H') (fun _ _ _ => False)
def rN (m : Store → List D → R D) : List V → Hp → VK → Prop := fun vs H Q => ∃ η ι st ds, RelSt K (N.h η) ι H st ∧ rels K (N.h η) ι H ds vs ∧ Fin K (N.h η) ι H (m st ds) (fun ι' H' _ d => ∀ v, rel K (N.h η) ι' H' d v → Q v H') (fun _ _ _ => False)
/-- a def's promise -/
def spOf (np : Nat) (call : List D → Store → R D) : Sp := fun vs H Q E => ∃ η ι st ds, RelSt K (N.h η) ι H st ∧ rels K (N.h η) ι H ds vs ∧ ds.length = np ∧ Fin K (N.h η) ι H (call ds st) (fun ι' H' _ d => ∀ v, rel K (N.h η) ι' H' d v → Q v H') E
end

/-! ### weaker readings -/
section
variable {X : Cx} {e : Expr} {s : Stmt} {ss : List Stmt} {es : List Expr}
theorem PE.wk {t t' : TE} (h : PE X e t) (i : ∀ σ H Q, t' σ H Q → t σ H Q) : PE X e t' := ⟨fun p s σ H Q I q => h.run p s σ H Q I (i σ H Q q)⟩
theorem PT.wk {t t' : TT} (h : PT X e t) (i : ∀ σ H Q, t' σ H Q → t σ H Q) : PT X e t' := ⟨fun p s σ H Q I q => h.run p s σ H Q I (i σ H Q q)⟩
theorem PW.wk {t t' : TT} (h : PW X e t) (i : ∀ σ H Q, t' σ H Q → t σ H Q) : PW X e t' := ⟨fun w p s σ H Q I q => h.run w p s σ H Q I (i σ H Q q)⟩
theorem PA.wk {t t' : TA} (h : PA X es t) (i : ∀ σ H Q, t' σ H Q → t σ H Q) : PA X es t' := ⟨fun w p s σ H Q I q => h.run w p s σ H Q I (i σ H Q q)⟩
theorem PS.wk {t t' : TS} (h : PS X s t) (i : ∀ σ H Q, t' Q σ H → t Q σ H) : PS X s t' := ⟨fun p s σ H Q I q => h.run p s σ H Q I (i σ H Q q)⟩
theorem PSs.wk {t t' : TS} (h : PSs X ss t) (i : ∀ σ H Q, t' Q σ H → t Q σ H) : PSs X ss t' := ⟨fun p s σ H Q I q => h.run p s σ H Q I (i σ H Q q)⟩
theorem PG.wk {t t' : TG} (h : PG X e t) (i : ∀ v σ H Q, t' v σ H Q → t v σ H Q) : PG X e t' := ⟨fun p s σ H v u Q I r q => h.run p s σ H v u Q I r (i v σ H Q q)⟩
theorem PGs.wk {t t' : TGs} (h : PGs X es t) (i : ∀ v σ H Q, t' v σ H Q → t v σ H Q) : PGs X es t' := ⟨fun p s σ H v u Q I r q => h.run p s σ H v u Q I r (i v σ H Q q)⟩
end

end G

set_option Elab.async false
set_option linter.all false
set_option maxRecDepth 100000
/-! C2: operators by value. -/
namespace G
open PySem L2

section
variable {K : PySem.W.Frag} {N : Nms} {ι ι' : List Addr} {H H' : Hp} {st st' : Store} {E E' : XK}
theorem Fin.ofE {α : Type} {o : Option α} {k : List Addr → Hp → Store → α → Prop} (f : Fin K N ι H (R.of o st) k E) : ∃ a, o = some a ∧ ∀ ι' H', Post ι H ι' H' → RelSt K N ι' H' st → k ι' H' st a := by
  cases o with
  | some a => exact ⟨a, rfl, f⟩
  | none => exact f.elim
theorem Fin.of_mk {α : Type} {a : α} {k : List Addr → Hp → Store → α → Prop} (f : ∀ ι' H', Post ι H ι' H' → RelSt K N ι' H' st → k ι' H' st a) : Fin K N ι H (R.ok a st) k E := f
theorem Fin.swapE {α : Type} {o : Option α} {k : List Addr → Hp → Store → α → Prop} (f : Fin K N ι H (R.of o st) k E) : Fin K N ι H (R.of o st) k E' := by
  cases o with
  | some a => exact f
  | none => exact f.elim

/-! ### what relations tell -/
theorem rel.int_of {i : Int} {v : V} (h : rel K N ι H (.int i) v) : v = .int i := h
theorem rel.tup_mk {a : Addr} {l : List D} {xs : List V} (h : H a = some (.tup xs)) (q : rels K N ι H l xs) : rel K N ι H (.tup l) (.ref a) := ⟨a, xs, rfl, SqT.of h, q⟩
theorem rel.lst_mk {a : Addr} {l : List D} {xs : List V} (h : H a = some (.lst xs)) (n : a ∉ ι ∧ a ∉ N.hid) (q : rels K N ι H l xs) : rel K N ι H (.lst l) (.ref a) := ⟨a, xs, rfl, h, n, q⟩
/-- a list that is read -/
theorem list?_sq {d : D} {v : V} {l : List D} (r : RelSt K N ι H st) (h : rel K N ι H d v) (e : list? st d = some l) : ∃ a xs, v = .ref a ∧ H a = some (.lst xs) ∧ rels K N ι H l xs := by
  cases d with
  | lst l' =>
    obtain ⟨a, xs, q, h1, n, q'⟩ := h
    cases e
    exact ⟨a, xs, q, h1, q'⟩
  | loc n =>
    obtain ⟨a, e1, e2⟩ := h
    simp only [list?] at e
    split at e
    · rename_i l' hl
      cases e
      obtain ⟨ho, h1, xs, rfl, q⟩ := r.get e2 hl
      exact ⟨a, xs, e1, h1, q⟩
    · cases e
  | _ => exact nomatch e
theorem items?_sq {d : D} {v : V} {l : List D} (r : RelSt K N ι H st) (h : rel K N ι H d v) (e : items? st d = some l) : ∃ a xs, v = .ref a ∧ (SqL K H a xs ∨ SqT K H a xs) ∧ rels K N ι H l xs := by
  cases d with
  | tup l' =>
    obtain ⟨a, xs, q, h1, q'⟩ := h
    cases e
    exact ⟨a, xs, q, .inr h1, q'⟩
  | lst l' =>
    obtain ⟨a, xs, q, h1, n, q'⟩ := h
    cases e
    exact ⟨a, xs, q, .inl (SqL.of h1), q'⟩
  | ro l' =>
    obtain ⟨a, xs, q, h1, q'⟩ := h
    cases e
    exact ⟨a, xs, q, .inl h1.sq, q'⟩
  | loc n =>
    obtain ⟨a, e1, e2⟩ := h
    simp only [items?] at e
    split at e
    · rename_i l' hl
      cases e
      obtain ⟨ho, h1, xs, rfl, q⟩ := r.get e2 hl
      exact ⟨a, xs, e1, .inl (SqL.of h1), q⟩
    · cases e
  | _ => exact nomatch e
theorem rels.nil_iff {l : List D} {xs : List V} (h : rels K N ι H l xs) : xs = [] ↔ l = [] := by
  have := h.length
  constructor
  · intro e; subst e; exact List.length_eq_zero_iff.mp (by simpa using this)
  · intro e; subst e; exact List.length_eq_zero_iff.mp (by simpa using this.symm)
theorem lim_line {n : Nat} (h : n ≤ LIM) : n ≤ sizeLine := Nat.le_trans h (by decide)
theorem lim_lt {n : Nat} (h : n < LIM) : n < sizeLine := Nat.lt_trans h (by decide)
theorem rels.rep {l : List D} {xs : List V} (h : rels K N ι H l xs) : ∀ n, rels K N ι H (List.replicate n l).flatten (List.replicate n xs).flatten
  | 0 => rfl
  | n + 1 => by
    rw [List.replicate_succ, List.replicate_succ, List.flatten_cons, List.flatten_cons]
    exact h.append (h.rep n)
theorem rels.cut {l : List D} {xs : List V} (h : rels K N ι H l xs) (lo hi : Option Int) : rels K N ι H (cutD l lo hi) (cutV xs lo hi) := by
  unfold cutD cutV
  rw [h.length]
  exact (h.drop _).take _

/-! ### operators -/
section
variable {X : Cx} {N : Nms}
/-- the end of an operator that makes a plain value -/
theorem fin_val {ι : List Addr} {H : Hp} {st : Store} {Q : VK} {d : D} {v : V} (r : RelSt K N ι H st)
    (f : ∀ ι' H', Post ι H ι' H' → RelSt K N ι' H' st → ∀ v, rel K N ι' H' d v → Q v H') (q : rel K N ι H d v) : Q v H := f ι H .refl r v q
/-- .. a new object that is no place of the store -/
theorem fin_new {ι : List Addr} {H : Hp} {st : Store} {Q : VK} {d : D} {p : Addr} {o : HO} (r : RelSt K N ι H st) (n : H p = none)
    (f : ∀ ι' H', Post ι H ι' H' → RelSt K N ι' H' st → ∀ v, rel K N ι' H' d v → Q v H') (q : rel K N ι (upd H p o) d (.ref p)) : Q (.ref p) (upd H p o) := f ι _ (.laid n) (r.laid n) _ q

theorem mulOk_ok {i j : Int} (h : mulOk i j = true) : IntMulOk i j := by
  unfold mulOk at h
  simp only [Bool.or_eq_true, decide_eq_true_eq] at h
  rcases h with (h | h) | h
  · exact CMul.ok (.inl ⟨by omega, by omega⟩)
  · exact CMul.ok (.inr ⟨by omega, by omega⟩)
  · exact CMulX.ok (by unfold CMulX; omega)
theorem op_mulA : OpR X (binaryOp .Mult) (rI (fun i j => mulOk i j = true) fun i j => .int (i * j)) := opI fun _ _ _ _ _ _ _ hc q => PyProof.Rows.mul_int q (mulOk_ok hc)

theorem o_add : OpR X (binaryOp .Add) (r2 X.K N fun st x y => R.of (binD st .Add x y) st) := by
  intro pins s σ H x y v u Q I rx ry h
  obtain ⟨η, ι, st, d, e, r, q1, q2, f⟩ := h
  obtain ⟨a, ea, f⟩ := f.ofE
  have seq : ∀ xs ys, list? st d = some xs → list? st e = some ys → (if xs.length + ys.length ≤ LIM then some (D.lst (xs ++ ys)) else none) = some a → wpAny (model X.prog X.w) X.A (binaryOp .Add v u) (EP X pins σ Q) X.xe s := by
    intro xs ys e1 e2 ea
    split at ea
    · rename_i hl
      cases ea
      obtain ⟨a1, vs1, rfl, h1, z1⟩ := list?_sq r q1 e1
      obtain ⟨a2, vs2, rfl, h2, z2⟩ := list?_sq r q2 e2
      refine op_cat pins s σ H _ _ v u Q I rx ry ⟨a1, a2, vs1, vs2, rfl, rfl, h1, h2, lim_line (by rw [← z1.length, ← z2.length]; exact hl), fun p np => ?_⟩
      exact fin_new r np f (.lst_mk upd_same (r.out np) ((z1.append z2).post r (.laid np)))
    · cases ea
  have other : (match list? st d, list? st e with | some xs, some ys => if xs.length + ys.length ≤ LIM then some (D.lst (xs ++ ys)) else none | _, _ => none) = some a → wpAny (model X.prog X.w) X.A (binaryOp .Add v u) (EP X pins σ Q) X.xe s := by
    intro ea
    split at ea
    · rename_i xs ys e1 e2
      exact seq xs ys e1 e2 ea
    · cases ea
  cases d with
  | int i =>
    cases e <;> first | exact other ea | skip
    cases ea
    exact op_add pins s σ H _ _ v u Q I rx ry ⟨_, _, q1, q2, fin_val r f rfl⟩
  | str i =>
    cases e <;> first | exact other ea | skip
    rename_i j
    simp only [binD] at ea
    split at ea
    · cases ea
      exact op_add_str pins s σ H _ _ v u Q I rx ry ⟨_, _, q1, q2, lim_line (by assumption), fin_val r f rfl⟩
    · cases ea
  | tup xs =>
    cases e <;> first | exact other ea | skip
    rename_i ys
    simp only [binD] at ea
    split at ea
    · rename_i hl
      cases ea
      obtain ⟨a1, vs1, rfl, h1, z1⟩ := id q1
      obtain ⟨a2, vs2, rfl, h2, z2⟩ := id q2
      refine op_catA pins s σ H _ _ v u Q I rx ry ⟨a1, a2, vs1, vs2, rfl, rfl, h1, h2, lim_line (by rw [← z1.length, ← z2.length]; exact hl), fun e => ?_, fun _ e => ?_, fun _ _ p np => ?_⟩
      · rw [z1.nil_iff.mp e] at f
        exact fin_val r f q2
      · rw [z2.nil_iff.mp e, List.append_nil] at f
        exact fin_val r f q1
      · exact fin_new r np f (.tup_mk upd_same ((z1.append z2).post r (.laid np)))
    · cases ea
  | _ => exact other (by cases e <;> exact ea)
theorem o_sub : OpR X (binaryOp .Sub) (r2 X.K N fun st x y => R.of (binD st .Sub x y) st) := by
  intro pins s σ H x y v u Q I rx ry h
  obtain ⟨η, ι, st, d, e, r, q1, q2, f⟩ := h
  obtain ⟨a, ea, f⟩ := f.ofE
  cases d <;> try cases ea
  cases e <;> cases ea
  exact op_sub pins s σ H _ _ v u Q I rx ry ⟨_, _, q1, q2, fin_val r f rfl⟩
theorem o_mod : OpR X (binaryOp .Mod) (r2 X.K N fun st x y => R.of (binD st .Mod x y) st) := by
  intro pins s σ H x y v u Q I rx ry h
  obtain ⟨η, ι, st, d, e, r, q1, q2, f⟩ := h
  obtain ⟨a, ea, f⟩ := f.ofE
  cases d <;> try cases ea
  cases e <;> try cases ea
  simp only [binD] at ea
  split at ea
  · cases ea
    exact op_modN pins s σ H _ _ v u Q I rx ry ⟨_, _, q1, q2, by assumption, fin_val r f rfl⟩
  · cases ea
theorem o_pow : OpR X (binaryOp .Pow) (r2 X.K N fun st x y => R.of (binD st .Pow x y) st) := by
  intro pins s σ H x y v u Q I rx ry h
  obtain ⟨η, ι, st, d, e, r, q1, q2, f⟩ := h
  obtain ⟨a, ea, f⟩ := f.ofE
  cases d <;> try cases ea
  cases e <;> try cases ea
  simp only [binD] at ea
  split at ea
  · cases ea
    exact op_pow pins s σ H _ _ v u Q I rx ry ⟨_, _, q1, q2, by assumption, fin_val r f rfl⟩
  · cases ea
theorem op_fdivX : OpR X (binaryOp .FloorDiv) (rI (fun _ j => j ≠ 0 ∧ j.natAbs.log2 < 9000) fun i j => .int (i.fdiv j)) := opI fun i j _ _ _ _ _ hc q => PyProof.Rows.floordiv_int hc.1 q (.inl (PyProof.noPylong_of_log2 hc.2))
theorem o_fdiv : OpR X (binaryOp .FloorDiv) (r2 X.K N fun st x y => R.of (binD st .FloorDiv x y) st) := by
  intro pins s σ H x y v u Q I rx ry h
  obtain ⟨η, ι, st, d, e, r, q1, q2, f⟩ := h
  obtain ⟨a, ea, f⟩ := f.ofE
  cases d <;> try cases ea
  cases e <;> try cases ea
  simp only [binD] at ea
  split at ea
  · cases ea
    exact op_fdivX pins s σ H _ _ v u Q I rx ry ⟨_, _, q1, q2, by assumption, fin_val r f rfl⟩
  · cases ea
theorem o_mul : OpR X (binaryOp .Mult) (r2 X.K N fun st x y => R.of (binD st .Mult x y) st) := by
  intro pins s σ H x y v u Q I rx ry h
  obtain ⟨η, ι, st, d, e, r, q1, q2, f⟩ := h
  obtain ⟨a, ea, f⟩ := f.ofE
  have other : ∀ k, e = .int k → (match list? st d with | some xs => if 0 ≤ k ∧ k ≤ 1000 ∧ xs.length * k.toNat ≤ LIM then some (D.lst (List.replicate k.toNat xs).flatten) else none | none => none) = some a → wpAny (model X.prog X.w) X.A (binaryOp .Mult v u) (EP X pins σ Q) X.xe s := by
    intro k ek ea'
    subst ek
    split at ea'
    · rename_i xs e1
      split at ea'
      · rename_i hk
        cases ea'
        obtain ⟨a1, vs1, rfl, h1, z1⟩ := list?_sq r q1 e1
        refine op_rep pins s σ H _ _ v u Q I rx ry ⟨a1, k, vs1, rfl, q2, h1, by omega, by omega, lim_line (by rw [← z1.length]; exact hk.2.2), fun p np => ?_⟩
        exact fin_new r np f (.lst_mk upd_same (r.out np) ((z1.rep _).post r (.laid np)))
      · cases ea'
    · cases ea'
  cases e <;> try (cases d <;> cases ea; done)
  rename_i k
  cases d with
  | int i =>
    simp only [binD] at ea
    split at ea
    · cases ea
      exact op_mulA pins s σ H _ _ v u Q I rx ry ⟨_, _, q1, q2, by assumption, fin_val r f rfl⟩
    · cases ea
  | tup xs =>
    simp only [binD] at ea
    split at ea
    · rename_i hk
      cases ea
      obtain ⟨a1, vs1, rfl, h1, z1⟩ := id q1
      refine op_repT pins s σ H _ _ v u Q I rx ry ⟨a1, k, vs1, rfl, q2, h1, fun z => hk.1 (z1.nil_iff.mp z), hk.2.1, hk.2.2.1, by rw [← z1.length]; exact hk.2.2.2, fun p np => ?_⟩
      exact fin_new r np f (.tup_mk upd_same ((z1.rep _).post r (.laid np)))
    · cases ea
  | lst xs => exact other k rfl ea
  | loc n => exact other k rfl ea
  | _ => exact nomatch ea
theorem o_bin (op : Operator) (h : op = .Add ∨ op = .Sub ∨ op = .Mult ∨ op = .FloorDiv ∨ op = .Mod ∨ op = .Pow) : OpR X (binaryOp op) (r2 X.K N fun st x y => R.of (binD st op x y) st) := by
  rcases h with h | h | h | h | h | h <;> subst h
  · exact o_add
  · exact o_sub
  · exact o_mul
  · exact o_fdiv
  · exact o_mod
  · exact o_pow
end
end
end G

set_option Elab.async false
set_option linter.all false
set_option maxRecDepth 100000
/-! C3: comparisons, subscripts, built-ins by value. -/
namespace G
open PySem L2

section
variable {K : PySem.W.Frag} {N : Nms} {ι ι' : List Addr} {H H' : Hp} {st st' : Store} {E E' : XK}
/-! ### equality -/
theorem dp_of (r : RelSt K N ι H st) : ∀ (n : Nat) (d : D) (v : V) (p : PyData), rel K N ι H d v → toPy st n d = some p → Dp K H v p := by
  have all : ∀ n, (∀ (d : D) (v : V) (p : PyData), rel K N ι H d v → toPy st n d = some p → Dp K H v p) → ∀ (l : List D) (vs : List V) (ps : List PyData), rels K N ι H l vs → l.mapM (toPy st n) = some ps → DpAll K H vs ps := by
    intro n ih l
    induction l with
    | nil =>
      intro vs ps h e
      rw [show vs = [] from h]
      simp at e
      subst e
      exact .nil
    | cons d l ihl =>
      intro vs ps h e
      obtain ⟨v, xs, rfl, h1, h2⟩ := h
      rw [List.mapM_cons] at e
      cases e1 : toPy st n d with
      | none => rw [e1] at e; simp at e
      | some p =>
        cases e2 : l.mapM (toPy st n) with
        | none => rw [e1, e2] at e; simp at e
        | some qs =>
          rw [e1, e2] at e
          simp at e
          subst e
          exact .cons (ih d v p h1 e1) (ihl xs qs h2 e2)
  intro n
  induction n with
  | zero =>
    intro d v p h e
    cases d <;> (simp only [toPy] at e; try cases e)
    · rw [show v = .non from h]; exact .non
    · rw [show v = .bl _ from h]; exact .bl _
    · rw [show v = .int _ from h]; exact .int _
    · rw [show v = .str _ from h]; exact .str _
  | succ n ih =>
    intro d v p h e
    cases d with
    | tup l =>
      obtain ⟨a, xs, rfl, h1, h2⟩ := h
      simp only [toPy] at e
      obtain ⟨ps, e1, rfl⟩ := Option.map_eq_some_iff.mp e
      exact .tup h1 (all n ih l xs ps h2 e1)
    | lst l =>
      obtain ⟨a, xs, rfl, h1, _, h2⟩ := h
      simp only [toPy] at e
      obtain ⟨ps, e1, rfl⟩ := Option.map_eq_some_iff.mp e
      exact .lst (SqL.of h1) (all n ih l xs ps h2 e1)
    | ro l =>
      obtain ⟨a, xs, rfl, h1, h2⟩ := h
      simp only [toPy] at e
      obtain ⟨ps, e1, rfl⟩ := Option.map_eq_some_iff.mp e
      exact .lst h1.sq (all n ih l xs ps h2 e1)
    | loc k =>
      obtain ⟨a, rfl, h1⟩ := h
      simp only [toPy] at e
      split at e
      · rename_i l hl
        obtain ⟨ps, e1, rfl⟩ := Option.map_eq_some_iff.mp e
        obtain ⟨ho, h2, xs, rfl, q⟩ := r.get h1 hl
        exact .lst (SqL.of h2) (all n ih l xs ps q e1)
      · cases e
    | non => cases e; rw [show v = .non from h]; exact .non
    | bl b => cases e; rw [show v = .bl _ from h]; exact .bl _
    | int i => cases e; rw [show v = .int _ from h]; exact .int _
    | str s => cases e; rw [show v = .str _ from h]; exact .str _
    | _ => exact nomatch e
theorem flat_of {d : D} {v : V} {x : V} (h : rel K N ι H d v) (e : flatD d = some x) : v = x ∧ flatV x = true := by
  cases d <;> first | (cases e; exact ⟨h, rfl⟩) | exact nomatch e
theorem flats_of : ∀ {l : List D} {vs xs : List V}, rels K N ι H l vs → l.mapM flatD = some xs → vs = xs ∧ xs.all flatV = true := by
  intro l
  induction l with
  | nil =>
    intro vs xs h e
    simp at e
    subst e
    exact ⟨h, rfl⟩
  | cons d l ih =>
    intro vs xs h e
    obtain ⟨v, us, rfl, h1, h2⟩ := h
    rw [List.mapM_cons] at e
    cases e1 : flatD d with
    | none => rw [e1] at e; simp at e
    | some p =>
      cases e2 : l.mapM flatD with
      | none => rw [e1, e2] at e; simp at e
      | some qs =>
        rw [e1, e2] at e
        simp at e
        subst e
        obtain ⟨z1, z2⟩ := flat_of h1 e1
        obtain ⟨z3, z4⟩ := ih h2 e2
        subst z1 z3
        exact ⟨rfl, by rw [List.all_cons, z2, z4]; rfl⟩

/-! ### dicts -/
theorem dict?_at {d : D} {v : V} {ks : List Key} {l : List D} (r : RelSt K N ι H st) (h : rel K N ι H d v) (e : dict? st d = some (ks, l)) : ∃ a xs, v = .ref a ∧ H a = some (.dK (ks.zip xs)) ∧ ks.length = xs.length ∧ rels K N ι H l xs := by
  cases d with
  | dct ks' l' =>
    obtain ⟨a, xs, rfl, h1, _, h2, h3⟩ := h
    cases e
    exact ⟨a, xs, rfl, h1, h2, h3⟩
  | loc n =>
    obtain ⟨a, rfl, h1⟩ := h
    simp only [dict?] at e
    split at e
    · rename_i ks' l' hl
      cases e
      obtain ⟨ho, h2, xs, rfl, h3, q⟩ := r.get h1 hl
      exact ⟨a, xs, rfl, h2, h3, q⟩
    · cases e
  | _ => exact nomatch e
theorem keyOf_kV {d : D} {v : V} {k : Key} (h : rel K N ι H d v) (e : keyOf d = some k) : v = kV k := by
  cases d <;> first | (cases e; exact h) | exact nomatch e
theorem lookK_valV {k : Key} : ∀ {ks : List Key} {l : List D} {xs : List V} {d : D}, rels K N ι H l xs → lookK k ks l = some d → ∃ v, valV (ks.zip xs) k = some v ∧ rel K N ι H d v
  | [], _, _, _, _, e => nomatch e
  | k' :: ks, [], _, _, _, e => nomatch e
  | k' :: ks, d' :: l, xs, d, ⟨v, us, hv, h1, h2⟩, e => by
    subst hv
    simp only [lookK] at e
    unfold valV
    rw [List.zip_cons_cons, List.find?_cons]
    split at e
    · rename_i hk
      cases e
      subst hk
      exact ⟨v, by simp, h1⟩
    · rename_i hk
      obtain ⟨w, e1, e2⟩ := lookK_valV h2 e
      exact ⟨w, by simp only [decide_eq_false hk]; exact e1, e2⟩
theorem valV_some {k : Key} : ∀ {ks : List Key} {xs : List V}, ks.length = xs.length → (valV (ks.zip xs) k).isSome = ks.any fun k2 => decide (k2 = k)
  | [], _, _ => rfl
  | k' :: ks, [], h => by simp at h
  | k' :: ks, x :: xs, h => by
    have ih := valV_some (k := k) (ks := ks) (xs := xs) (by simpa using h)
    unfold valV at ih ⊢
    rw [List.zip_cons_cons, List.find?_cons, List.any_cons]
    by_cases hk : k' = k
    · simp [hk]
    · simp only [decide_eq_false hk, Bool.false_or]
      exact ih
def putLV (k : Key) (d : V) : List Key → List V → List V
  | k' :: ks, e :: l => (if k' = k then d else e) :: putLV k d ks l
  | _, l => l
theorem putLV_len {k : Key} {d : V} : ∀ (ks : List Key) (l : List V), (putLV k d ks l).length = l.length
  | [], l => rfl
  | _ :: _, [] => rfl
  | k' :: ks, e :: l => by simp [putLV, putLV_len ks l]
theorem putLV_rel {k : Key} {d : D} {v : V} (h : rel K N ι H d v) : ∀ {ks : List Key} {l : List D} {xs : List V}, rels K N ι H l xs → rels K N ι H (putL k d ks l) (putLV k v ks xs)
  | [], l, xs, q => q
  | k' :: ks, [], xs, q => by rw [show xs = [] from q]; rfl
  | k' :: ks, e :: l, xs, ⟨w, us, hw, q1, q2⟩ => by
    subst hw
    refine ⟨if k' = k then v else w, putLV k v ks us, rfl, ?_, putLV_rel h q2⟩
    split
    · exact h
    · exact q1
theorem putLV_map {k : Key} {v : V} : ∀ {ks : List Key} {xs : List V}, ((ks.zip xs).map fun kv => if kv.1 = k then (kv.1, v) else kv) = ks.zip (putLV k v ks xs)
  | [], _ => rfl
  | _ :: _, [] => rfl
  | k' :: ks, x :: xs => by
    rw [List.zip_cons_cons, List.map_cons, putLV_map]
    simp only [putLV, List.zip_cons_cons]
    split <;> rfl
theorem any_zip {k : Key} : ∀ {ks : List Key} {xs : List V}, ks.length = xs.length → ((ks.zip xs).any fun kv => decide (kv.1 = k)) = ks.any fun k2 => decide (k2 = k)
  | [], _, _ => rfl
  | _ :: _, [], h => by simp at h
  | k' :: ks, x :: xs, h => by rw [List.zip_cons_cons, List.any_cons, List.any_cons, any_zip (by simpa using h)]
theorem putK_rel {k : Key} {d : D} {v : V} {ks : List Key} {l : List D} {xs : List V} (h : rel K N ι H d v) (q : rels K N ι H l xs) (e : ks.length = xs.length) :
    ∃ ys, putK (ks.zip xs) k v = (putK' k d ks l).1.zip ys ∧ (putK' k d ks l).1.length = ys.length ∧ rels K N ι H (putK' k d ks l).2 ys := by
  unfold putK putK'
  rw [any_zip e]
  split
  · exact ⟨_, putLV_map, by rw [putLV_len]; exact e, putLV_rel h q⟩
  · refine ⟨xs ++ [v], ?_, by simp [e], q.append (.one h)⟩
    rw [List.zip_append e]
    rfl
end

/-! ### comparisons -/
section
variable {X : Cx} {N : Nms}
theorem is_non {K : PySem.W.Frag} {ι : List Addr} {H : Hp} {d : D} {v : V} (h : rel K N ι H d v) : decide (v = .non) = isNon d := by
  cases d with
  | non => rw [show v = .non from h]; rfl
  | bl b => rw [show v = .bl b from h]; rfl
  | int b => rw [show v = .int b from h]; rfl
  | str b => rw [show v = .str b from h]; rfl
  | tup l => obtain ⟨a, xs, rfl, _⟩ := h; rfl
  | lst l => obtain ⟨a, xs, rfl, _⟩ := h; rfl
  | ro l => obtain ⟨a, xs, rfl, _⟩ := h; rfl
  | obj c ns l => obtain ⟨a, dx, xs, rfl, _⟩ := h; rfl
  | dct ks l => obtain ⟨a, xs, rfl, _⟩ := h; rfl
  | loc n => obtain ⟨a, rfl, _⟩ := h; rfl
  | fn f => rw [show v = .ref _ from h]; rfl
  | cls f => rw [show v = .ref _ from h]; rfl
  | ty f => rw [show v = .ty _ from h]; rfl
theorem dps_of (r : RelSt K N ι H st) (n : Nat) : ∀ (l : List D) (vs : List V) (ps : List PyData), rels K N ι H l vs → l.mapM (toPy st n) = some ps → DpAll K H vs ps := by
  intro l
  induction l with
  | nil =>
    intro vs ps h e
    rw [show vs = [] from h]
    simp at e
    subst e
    exact .nil
  | cons d l ihl =>
    intro vs ps h e
    obtain ⟨v, xs, rfl, h1, h2⟩ := h
    rw [List.mapM_cons] at e
    cases e1 : toPy st n d with
    | none => rw [e1] at e; simp at e
    | some p =>
      cases e2 : l.mapM (toPy st n) with
      | none => rw [e1, e2] at e; simp at e
      | some qs =>
        rw [e1, e2] at e
        simp at e
        subst e
        exact .cons (dp_of r n d v p h1 e1) (ihl xs qs h2 e2)
theorem eqD_some {st : Store} {a b : D} {k : Bool} (h : eqD st a b = some k) : ∃ p q, toPy st 12 a = some p ∧ toPy st 12 b = some q ∧ SeqAt.shaped p = true ∧ SeqAt.shaped q = true ∧ PyData.eqv p q = k := by
  unfold eqD at h
  split at h
  · rename_i p q e1 e2
    split at h
    · rename_i hs
      cases h
      rw [Bool.and_eq_true] at hs
      exact ⟨p, q, e1, e2, hs.1, hs.2, rfl⟩
    · cases h
  · cases h
theorem e_deep {A : Around} {s : Shared} {v : Value} {x : PyData} {bs : List Addr} (rv : Reads s.heap v x bs) (hx : SeqAt.shaped x = true) (hd : x.depth ≤ 60) (hu : A.units + 64 < cLine) :
    ∃ e : Value → Bool, ∀ (us : List Value) (ys : List PyData) (as : List Addr), ReadsAll s.heap us ys as → ys.all SeqAt.shaped = true → (∀ u ∈ us, SeqAt.EqAt A.in1 s u v (e u)) ∧ us.any e = ys.any fun y => PyData.eqv y x := by
  classical
  obtain ⟨e, one⟩ : ∃ e : Value → Bool, ∀ (u : Value) (d : PyData) (as : List Addr), Reads s.heap u d as → SeqAt.shaped d = true → e u = PyData.eqv d x := by
    refine ⟨fun u => decide (∃ d as, Reads s.heap u d as ∧ d.canLay0 = true ∧ PyData.eqv d x = true), fun u d as r sd => ?_⟩
    by_cases h : ∃ d as, Reads s.heap u d as ∧ d.canLay0 = true ∧ PyData.eqv d x = true
    · refine (decide_eq_true h).trans ?_
      obtain ⟨d', as', r', c', e'⟩ := h
      rw [SeqAt.Reads.unique d d' u as as' (SeqAt.canLay_of_shaped sd) r r', e']
    · refine (decide_eq_false h).trans ?_
      cases e : PyData.eqv d x with
      | true => exact (h ⟨d, as, r, SeqAt.canLay_of_shaped sd, e⟩).elim
      | false => rfl
  refine ⟨e, ?_⟩
  intro us
  induction us with
  | nil =>
    intro ys as r _
    cases r
    exact ⟨(fun u h => nomatch h), rfl⟩
  | cons u us ih =>
    intro ys as r hs
    cases r with
    | @cons _ _ d ds as1 bs1 r1 r2 =>
      rw [List.all_cons, Bool.and_eq_true] at hs
      obtain ⟨g1, g2⟩ := ih ds bs1 r2 hs.2
      refine ⟨fun w hw => ?_, ?_⟩
      · rcases List.mem_cons.mp hw with rfl | hw
        · rw [one w d as1 r1 hs.1]
          refine SeqAt.eqAt_reads d x A.in1 s w v as1 bs r1 rv (SeqAt.canLay_of_shaped hs.1) (SeqAt.canLay_of_shaped hx) ?_
          have h2 : min d.depth x.depth ≤ x.depth := Nat.min_le_right _ _
          show A.units + 1 + _ < _
          omega
        · exact g1 w hw
      · rw [List.any_cons, List.any_cons, g2, one u d as1 r1 hs.1]
theorem in_cases {op : CmpOp} {neg : Bool} (hop : op = if neg then CmpOp.NotIn else CmpOp.In) (hu64 : X.A.units + 64 < cLine) {pins : List (Addr × Obj)} {s : Shared} {σ : St} {H : Hp} {x y : V} {v u : Value} {Q : VK} {ι : List Addr} {st : Store} {d e : D} {k : Bool}
    (I : Inv X pins σ H s) (rx : RelV x v) (ry : RelV y u) (r : RelSt X.K N ι H st) (q1 : rel X.K N ι H d x) (q2 : rel X.K N ι H e y) (h : inD st d e = some k) (q : Q (.bl (if neg then !k else k)) H) :
    wpAny (model X.prog X.w) X.A (compareOp op v u) (EP X pins σ Q) X.xe s := by
  have hu : X.A.units + 1 < cLine := by omega
  have deep : ∀ xs, items? st e = some xs → inDeep (toPy st 12 d) (xs.mapM (toPy st 12)) = some k → wpAny (model X.prog X.w) X.A (compareOp op v u) (EP X pins σ Q) X.xe s := by
    intro xs e1 e2
    unfold inDeep at e2
    split at e2
    · rename_i p ps f1 f2
      split at e2
      · rename_i hs
        cases e2
        simp only [Bool.and_eq_true, decide_eq_true_eq] at hs
        obtain ⟨h1, h2, h3⟩ := hs
        obtain ⟨a, us, rfl, hs, z⟩ := items?_sq r q2 e1
        obtain ⟨bs, rv⟩ := Dp.reads I p x v (dp_of r _ _ _ _ q1 f1) rx
        obtain ⟨ev, E⟩ := e_deep rv h1 h2 hu64
        have dpa : DpAll X.K H us ps := dps_of r 12 xs us ps z f2
        cases ry
        rcases hs with hq | hq
        · obtain ⟨its, r', pl, hz⟩ := I.list hq
          obtain ⟨as, ra⟩ := Dp.readsAll I ps us its dpa r'
          obtain ⟨g1, g2⟩ := E its ps as ra h3
          have g3 : its.toArray.any ev = ps.any fun y => PyData.eqv y p := by rw [← g2]; simp
          cases neg with
          | false => subst hop; exact SeqAt.in_listAt ev pl.isList (fun w hw => g1 w (by simpa using hw)) ⟨.bl _, H, I, rfl, by rw [g3]; exact q⟩
          | true => subst hop; exact SeqAt.notIn_listAt ev pl.isList (fun w hw => g1 w (by simpa using hw)) ⟨.bl _, H, I, rfl, by rw [g3]; exact q⟩
        · obtain ⟨its, r', pl, hz⟩ := I.tuple hq
          obtain ⟨as, ra⟩ := Dp.readsAll I ps us its dpa r'
          obtain ⟨g1, g2⟩ := E its ps as ra h3
          have g3 : its.toArray.any ev = ps.any fun y => PyData.eqv y p := by rw [← g2]; simp
          cases neg with
          | false => subst hop; exact SeqAt.in_tupleAt ev pl (fun w hw => g1 w (by simpa using hw)) ⟨.bl _, H, I, rfl, by rw [g3]; exact q⟩
          | true => subst hop; exact SeqAt.notIn_tupleAt ev pl (fun w hw => g1 w (by simpa using hw)) ⟨.bl _, H, I, rfl, by rw [g3]; exact q⟩
      · cases e2
    · cases e2
  have seq : ∀ xs, items? st e = some xs → (match flatD d, xs.mapM flatD with | some x, some ys => some (inV x ys) | _, _ => inDeep (toPy st 12 d) (xs.mapM (toPy st 12))) = some k → wpAny (model X.prog X.w) X.A (compareOp op v u) (EP X pins σ Q) X.xe s := by
    intro xs e1 e2
    split at e2
    · rename_i x' ys f1 f2
      cases e2
      obtain ⟨a, us, rfl, hs, z⟩ := items?_sq r q2 e1
      obtain ⟨rfl, g1⟩ := flat_of q1 f1
      obtain ⟨rfl, g2⟩ := flats_of z f2
      cases neg with
      | false => subst hop; exact op_in_seq pins s σ H _ _ v u Q I rx ry ⟨a, us, rfl, hs, g1, g2, q⟩
      | true => subst hop; exact op_notIn_seq pins s σ H _ _ v u Q I rx ry ⟨a, us, rfl, hs, g1, g2, q⟩
    · exact deep xs e1 e2
  have dic : (match dict? st e, keyOf d with | some (ks, _), some k => some (ks.any fun k2 => decide (k2 = k)) | _, _ => none) = some k → wpAny (model X.prog X.w) X.A (compareOp op v u) (EP X pins σ Q) X.xe s := by
    intro e2
    split at e2
    · rename_i ks l kk f1 f2
      cases e2
      obtain ⟨a, us, rfl, h1, h2, h3⟩ := dict?_at r q2 f1
      have hk := keyOf_kV q1 f2
      subst hk
      cases ry
      have g : DGet H a (kV kk) (valV (ks.zip us) kk) := .inl ⟨_, kk, .inl h1, rfl, rfl⟩
      cases neg with
      | false => subst hop; exact d_in hu I g rx fun s' I' => ⟨.bl (valV (ks.zip us) kk).isSome, H, I', rfl, by rw [valV_some h2]; exact q⟩
      | true => subst hop; exact d_notIn hu I g rx fun s' I' => ⟨.bl (!(valV (ks.zip us) kk).isSome), H, I', rfl, by rw [valV_some h2]; exact q⟩
    · cases e2
  cases e with
  | str z =>
    cases d with
    | str c =>
      cases h
      cases neg with
      | false => subst hop; exact op_in_str pins s σ H _ _ v u Q I rx ry ⟨_, _, q1, q2, q⟩
      | true => subst hop; exact op_notin_str pins s σ H _ _ v u Q I rx ry ⟨_, _, q1, q2, q⟩
    | _ => exact nomatch h
  | tup l => exact seq l rfl h
  | lst l => exact seq l rfl h
  | ro l => exact seq l rfl h
  | dct ks l => exact dic h
  | loc n =>
    cases hi : items? st (.loc n) with
    | some xs => simp only [inD, hi] at h; exact seq xs hi h
    | none => simp only [inD, hi] at h; exact dic h
  | _ => exact nomatch h
theorem o_cmp (op : CmpOp) (hu : X.A.units + 64 < cLine) : OpR X (compareOp op) (r2 X.K N fun st x y => (R.of (cmpD st op x y) st).bind fun k st => .ok (.bl k) st) := by
  intro pins s σ H x y v u Q I rx ry h
  obtain ⟨η, ι, st, d, e, r, q1, q2, f⟩ := h
  obtain ⟨k, ek, f⟩ := f.bind.ofE
  have fin : Q (.bl k) H := (f ι H .refl r).of_ok r _ rfl
  have hu1 : X.A.units + 1 < cLine := by omega
  cases op with
  | Lt =>
    cases d <;> try cases ek
    cases e <;> cases ek
    exact op_lt pins s σ H _ _ v u Q I rx ry ⟨_, _, q1, q2, fin⟩
  | LtE =>
    cases d <;> try cases ek
    cases e <;> cases ek
    exact op_le pins s σ H _ _ v u Q I rx ry ⟨_, _, q1, q2, fin⟩
  | Gt =>
    cases d <;> try cases ek
    cases e <;> cases ek
    exact op_gt pins s σ H _ _ v u Q I rx ry ⟨_, _, q1, q2, fin⟩
  | GtE =>
    cases d <;> try cases ek
    cases e <;> cases ek
    exact op_ge pins s σ H _ _ v u Q I rx ry ⟨_, _, q1, q2, fin⟩
  | Eq =>
    obtain ⟨p, q, e1, e2, s1, s2, rfl⟩ := eqD_some (show eqD st d e = some k from ek)
    exact op_eqD hu pins s σ H _ _ v u Q I rx ry ⟨p, q, dp_of r _ _ _ _ q1 e1, dp_of r _ _ _ _ q2 e2, s1, s2, fin⟩
  | NotEq =>
    obtain ⟨k', ek', rfl⟩ := Option.map_eq_some_iff.mp (show (eqD st d e).map (!·) = some k from ek)
    obtain ⟨p, q, e1, e2, s1, s2, rfl⟩ := eqD_some ek'
    exact op_neD hu pins s σ H _ _ v u Q I rx ry ⟨p, q, dp_of r _ _ _ _ q1 e1, dp_of r _ _ _ _ q2 e2, s1, s2, fin⟩
  | Is =>
    have ek' : isB d e = some k := ek
    cases e with
    | non => cases ek'; exact op_isN pins s σ H _ _ v u Q I rx ry ⟨q2, by rw [is_non q1]; exact fin⟩
    | bl b =>
      cases d <;> try cases ek'
      exact op_isBl pins s σ H _ _ v u Q I rx ry ⟨_, _, q1, q2, fin⟩
    | _ => cases ek'
  | IsNot =>
    obtain ⟨k', ek', rfl⟩ := Option.map_eq_some_iff.mp (show (isB d e).map (!·) = some k from ek)
    cases e with
    | non => cases ek'; exact op_notN pins s σ H _ _ v u Q I rx ry ⟨q2, by rw [is_non q1]; exact fin⟩
    | bl b =>
      cases d <;> try cases ek'
      exact op_notBl pins s σ H _ _ v u Q I rx ry ⟨_, _, q1, q2, fin⟩
    | _ => cases ek'
  | In => exact in_cases (neg := false) rfl hu I rx ry r q1 q2 (show inD st d e = some k from ek) fin
  | NotIn =>
    obtain ⟨k', ek', rfl⟩ := Option.map_eq_some_iff.mp (show (inD st d e).map (!·) = some k from ek)
    exact in_cases (neg := true) rfl hu I rx ry r q1 q2 ek' fin
end
end G

set_option Elab.async false
set_option linter.all false
set_option maxRecDepth 100000
/-! C4: expressions. -/
namespace G
open PySem L2

/-- a test of what must be a truth value -/
def asB (m : Env' → Store → R D) : Env' → Store → R Bool := fun ρ st => (m ρ st).bind toB
theorem iteB (r : R D) (g h : Store → R D) : (r.bind fun x st => match x with
    | .bl true => g st
    | .bl false => h st
    | _ => .bad) = (r.bind toB).bind fun b st => if b = true then g st else h st := by
  cases r with
  | ok d st =>
    cases d <;> try rfl
    rename_i b
    cases b <;> rfl
  | exc x st => rfl
  | bad => rfl
theorem iteBB (r : R D) (g h : Store → R D) : (r.bind fun x st => match x with
    | .bl true => g st
    | .bl false => h st
    | _ => .bad).bind toB = (r.bind toB).bind fun b st => if b = true then (g st).bind toB else (h st).bind toB := by
  cases r with
  | ok d st =>
    cases d <;> try rfl
    rename_i b
    cases b <;> rfl
  | exc x st => rfl
  | bad => rfl
theorem notB (r : R D) : (r.bind fun x st => match x with
    | .bl b => R.ok (.bl (!b)) st
    | _ => .bad).bind toB = (r.bind toB).bind fun b st => .ok (!b) st := by
  cases r with
  | ok d st => cases d <;> rfl
  | exc x st => rfl
  | bad => rfl
section
variable {X : Cx} {N : Nms} {W : WX} {a b c e : Expr} {es : List Expr} {pos : Pos} {ma mb mc : Env' → Store → R D} {ms : Env' → Store → R (List D)} {ta tb tc : Env' → Store → R Bool}
theorem s_const {d : D} {v : V} (h : PE X e (tC v)) (r : ∀ η ι H, rel X.K (N.h η) ι H d v) : PE X e (tE X.K N W fun _ st => .ok d st) :=
  PE.wk h fun σ H Q ⟨η, ι, ρ, st, rs, re, f⟩ => f.of_ok rs _ (r η ι H)
theorem s_var {i : Nat} (h : PE X e (tVar i)) : PE X e (tE X.K N W fun ρ st => .of (getVar ρ i) st) :=
  PE.wk h fun σ H Q ⟨η, ι, ρ, st, rs, re, f⟩ => by
    obtain ⟨d, e1, f⟩ := f.ofE
    unfold getVar at e1
    split at e1
    · rename_i d' h1
      cases e1
      obtain ⟨v, h2, h3⟩ := re.2 i d h1
      exact ⟨v, h2, f ι H .refl rs v h3⟩
    · cases e1
theorem s_bin {op : Operator} (ho : OpR X (binaryOp op) (r2 X.K N fun st x y => R.of (binD st op x y) st)) (ha : PE X a (tE X.K N W ma)) (hb : PE X b (tE X.K N W mb)) :
    PE X (.BinOp a op b pos) (tE X.K N W fun ρ st => (ma ρ st).bind fun x st => (mb ρ st).bind fun y st => .of (binD st op x y) st) :=
  PE.wk (pe_op ho ha hb) fun σ H Q ⟨η, ι, ρ, st, rs, re, f⟩ =>
    ⟨η, ι, ρ, st, rs, re, f.bind.imp fun ι1 H1 st1 d p1 r1 _ f1 v q1 => ⟨η, ι1, ρ, st1, r1, re.post rs p1, f1.bind.imp fun ι2 H2 st2 d2 p2 r2 _ f2 v2 q2 => ⟨η, ι2, st2, d, d2, r2, rel.post r1 p2 q1, q2, f2.swapE⟩⟩⟩
theorem s_cmp {op : CmpOp} (hu : X.A.units + 64 < cLine) (hm : behindInMarks op b = false) (ha : PE X a (tE X.K N W ma)) (hb : PE X b (tE X.K N W mb)) :
    PE X (.Compare a [op] [b] pos) (tE X.K N W fun ρ st => (ma ρ st).bind fun x st => (mb ρ st).bind fun y st => (R.of (cmpD st op x y) st).bind fun k st => .ok (.bl k) st) :=
  PE.wk (pe_cmpR (o_cmp op hu) ha hb hm) fun σ H Q ⟨η, ι, ρ, st, rs, re, f⟩ =>
    ⟨η, ι, ρ, st, rs, re, f.bind.imp fun ι1 H1 st1 d p1 r1 _ f1 v q1 => ⟨η, ι1, ρ, st1, r1, re.post rs p1, f1.bind.imp fun ι2 H2 st2 d2 p2 r2 _ f2 v2 q2 => ⟨η, ι2, st2, d, d2, r2, rel.post r1 p2 q1, q2, by
      obtain ⟨k, e1, f3⟩ := f2.bind.ofE
      show Fin X.K (N.h η) ι2 H2 ((R.of (cmpD st2 op d d2) st2).bind fun k st => R.ok (D.bl k) st) _ _
      rw [e1]
      exact (f3 ι2 H2 .refl r2)⟩⟩⟩
theorem s_cmpT {op : CmpOp} (hu : X.A.units + 64 < cLine) (hm : behindInMarks op b = false) (ha : PE X a (tE X.K N W ma)) (hb : PE X b (tE X.K N W mb)) :
    PT X (.Compare a [op] [b] pos) (tT X.K N W (asB fun ρ st => (ma ρ st).bind fun x st => (mb ρ st).bind fun y st => (R.of (cmpD st op x y) st).bind fun k st => .ok (.bl k) st)) :=
  PT.wk (pt_cmpR (o_cmp op hu) ha hb hm) fun σ H Q ⟨η, ι, ρ, st, rs, re, f⟩ =>
    ⟨η, ι, ρ, st, rs, re, f.bind.bind.imp fun ι1 H1 st1 d p1 r1 _ f1 v q1 => ⟨η, ι1, ρ, st1, r1, re.post rs p1, f1.bind.imp fun ι2 H2 st2 d2 p2 r2 _ f2 v2 q2 => ⟨η, ι2, st2, d, d2, r2, rel.post r1 p2 q1, q2, by
      obtain ⟨k, e1, f3⟩ := f2.bind.ofE
      show Fin X.K (N.h η) ι2 H2 ((R.of (cmpD st2 op d d2) st2).bind fun k st => R.ok (D.bl k) st) _ _
      rw [e1]
      refine Fin.of_mk fun ι3 H3 p3 r3 v3 q3 => ⟨k, q3, ?_⟩
      exact ((f3 ι3 H3 p3 r3).of_ok r3).of_ok r3⟩⟩⟩

/-! truth values -/
theorem asB_bl {ι : List Addr} {H : Hp} {st : Store} {d : D} {k : List Addr → Hp → Store → Bool → Prop} {E : XK} (f : Fin X.K N ι H (toB d st) k E) : ∃ b, d = .bl b ∧ ∀ ι' H', Post ι H ι' H' → RelSt X.K N ι' H' st → k ι' H' st b := by
  cases d with
  | bl b => exact ⟨b, rfl, f⟩
  | _ => exact f.elim
theorem s_val (ha : PE X a (tE X.K N W ma)) (he : ∀ whole, isTrue a X.env whole = (do let v ← whole; standAt a.pos; holding [v] (truthy v))) : PT X a (tT X.K N W (asB ma)) :=
  PT.wk (pt_val ha he) fun σ H Q ⟨η, ι, ρ, st, rs, re, f⟩ => ⟨η, ι, ρ, st, rs, re, f.bind.imp fun ι1 H1 st1 d p1 r1 _ f1 v q1 => by
    obtain ⟨b, rfl, f2⟩ := asB_bl f1
    exact ⟨b, q1, f2 ι1 H1 .refl r1⟩⟩
theorem s_neg (ha : PE X a (tE X.K N W ma)) : PE X (.UnaryOp .USub a pos) (tE X.K N W fun ρ st => (ma ρ st).bind fun x st => match x with
    | .int i => .ok (.int (-i)) st
    | _ => .bad) :=
  PE.wk (pe_un un_neg ha) fun σ H Q ⟨η, ι, ρ, st, rs, re, f⟩ => ⟨η, ι, ρ, st, rs, re, f.bind.imp fun ι1 H1 st1 d p1 r1 _ f1 v q1 => by
    cases d with
    | int i => exact ⟨i, q1, f1.of_ok r1 _ rfl⟩
    | _ => exact f1.elim⟩
theorem s_not (ha : PE X a (tE X.K N W ma)) : PE X (.UnaryOp .Not a pos) (tE X.K N W fun ρ st => (ma ρ st).bind fun x st => match x with
    | .bl b => .ok (.bl (!b)) st
    | _ => .bad) :=
  PE.wk (pe_not ha) fun σ H Q ⟨η, ι, ρ, st, rs, re, f⟩ => ⟨η, ι, ρ, st, rs, re, f.bind.imp fun ι1 H1 st1 d p1 r1 _ f1 v q1 => by
    cases d with
    | bl b => exact ⟨b, q1, f1.of_ok r1 _ rfl⟩
    | _ => exact f1.elim⟩
theorem s_notT (ha : PT X a (tT X.K N W (asB ma))) : PT X (.UnaryOp .Not a pos) (tT X.K N W (asB fun ρ st => (ma ρ st).bind fun x st => match x with
    | .bl b => .ok (.bl (!b)) st
    | _ => .bad)) :=
  PT.wk (pt_not ha) fun σ H Q ⟨η, ι, ρ, st, rs, re, f⟩ => ⟨η, ι, ρ, st, rs, re, by
    have f' := f
    simp only [asB, notB] at f'
    exact f'.bind.imp fun ι1 H1 st1 b p1 r1 _ f1 => f1.of_ok r1⟩
theorem s_one {op : BoolOp} (ha : PE X a (tE X.K N W ma)) : PE X (.BoolOp op [a] pos) (tE X.K N W ma) := pe_one ha
theorem s_and {rest : List Expr} (ha : PE X a (tE X.K N W ma)) (hb : PE X (.BoolOp .And (b :: rest) pos) (tE X.K N W mb)) : PE X (.BoolOp .And (a :: b :: rest) pos) (tE X.K N W fun ρ st => (ma ρ st).bind fun x st => match x with
    | .bl true => mb ρ st
    | .bl false => .ok (.bl false) st
    | _ => .bad) :=
  PE.wk (pe_and ha hb) fun σ H Q ⟨η, ι, ρ, st, rs, re, f⟩ => ⟨η, ι, ρ, st, rs, re, f.bind.imp fun ι1 H1 st1 d p1 r1 _ f1 v q1 => by
    cases d with
    | bl b =>
      refine ⟨b, q1, ?_⟩
      cases b with
      | true => exact iteT ⟨η, ι1, ρ, st1, r1, re.post rs p1, f1⟩
      | false => exact iteF (f1.of_ok r1 _ rfl)
    | _ => exact f1.elim⟩
theorem s_or {rest : List Expr} (ha : PE X a (tE X.K N W ma)) (hb : PE X (.BoolOp .Or (b :: rest) pos) (tE X.K N W mb)) : PE X (.BoolOp .Or (a :: b :: rest) pos) (tE X.K N W fun ρ st => (ma ρ st).bind fun x st => match x with
    | .bl true => .ok (.bl true) st
    | .bl false => mb ρ st
    | _ => .bad) :=
  PE.wk (pe_or ha hb) fun σ H Q ⟨η, ι, ρ, st, rs, re, f⟩ => ⟨η, ι, ρ, st, rs, re, f.bind.imp fun ι1 H1 st1 d p1 r1 _ f1 v q1 => by
    cases d with
    | bl b =>
      refine ⟨b, q1, ?_⟩
      cases b with
      | true => exact iteT (f1.of_ok r1 _ rfl)
      | false => exact iteF ⟨η, ι1, ρ, st1, r1, re.post rs p1, f1⟩
    | _ => exact f1.elim⟩
theorem s_oneT {op : BoolOp} (ha : PT X a (tT X.K N W (asB ma))) : PW X (.BoolOp op [a] pos) (tT X.K N W (asB ma)) := by
  cases op with
  | And => exact pw_and1 ha
  | Or => exact pw_or1 ha
theorem s_andT {rest : List Expr} (ha : PT X a (tT X.K N W (asB ma))) (hb : PW X (.BoolOp .And (b :: rest) pos) (tT X.K N W (asB mb))) : PW X (.BoolOp .And (a :: b :: rest) pos) (tT X.K N W (asB fun ρ st => (ma ρ st).bind fun x st => match x with
    | .bl true => mb ρ st
    | .bl false => .ok (.bl false) st
    | _ => .bad)) :=
  PW.wk (pw_and ha hb) fun σ H Q ⟨η, ι, ρ, st, rs, re, f⟩ => ⟨η, ι, ρ, st, rs, re, by
    have f' := f
    simp only [asB] at f'
    rw [iteBB (ma ρ st) (mb ρ) (fun st => .ok (.bl false) st)] at f'
    refine f'.bind.imp fun ι1 H1 st1 b p1 r1 _ f1 => ?_
    cases b with
    | true => exact iteT ⟨η, ι1, ρ, st1, r1, re.post rs p1, f1⟩
    | false => exact iteF (f1.of_ok r1)⟩
theorem s_orT {rest : List Expr} (ha : PT X a (tT X.K N W (asB ma))) (hb : PW X (.BoolOp .Or (b :: rest) pos) (tT X.K N W (asB mb))) : PW X (.BoolOp .Or (a :: b :: rest) pos) (tT X.K N W (asB fun ρ st => (ma ρ st).bind fun x st => match x with
    | .bl true => .ok (.bl true) st
    | .bl false => mb ρ st
    | _ => .bad)) :=
  PW.wk (pw_or ha hb) fun σ H Q ⟨η, ι, ρ, st, rs, re, f⟩ => ⟨η, ι, ρ, st, rs, re, by
    have f' := f
    simp only [asB] at f'
    rw [iteBB (ma ρ st) (fun st => .ok (.bl true) st) (mb ρ)] at f'
    refine f'.bind.imp fun ι1 H1 st1 b p1 r1 _ f1 => ?_
    cases b with
    | true => exact iteT (f1.of_ok r1)
    | false => exact iteF ⟨η, ι1, ρ, st1, r1, re.post rs p1, f1⟩⟩
theorem s_ite (hc : PT X c (tT X.K N W (asB mc))) (ha : PE X a (tE X.K N W ma)) (hb : PE X b (tE X.K N W mb)) : PE X (.IfExp c a b pos) (tE X.K N W fun ρ st => (mc ρ st).bind fun x st => match x with
    | .bl true => ma ρ st
    | .bl false => mb ρ st
    | _ => .bad) :=
  PE.wk (pe_ifExp hc ha hb) fun σ H Q ⟨η, ι, ρ, st, rs, re, f⟩ => ⟨η, ι, ρ, st, rs, re, by
    have f' := f
    simp only [] at f'
    rw [iteB (mc ρ st) (ma ρ) (mb ρ)] at f'
    refine f'.bind.imp fun ι1 H1 st1 b p1 r1 _ f1 => ?_
    cases b with
    | true => exact iteT ⟨η, ι1, ρ, st1, r1, re.post rs p1, f1⟩
    | false => exact iteF ⟨η, ι1, ρ, st1, r1, re.post rs p1, f1⟩⟩
theorem pt_ifExp {tC tA tB : TT} (hc : PT X c tC) (ha : PT X a tA) (hb : PT X b tB) : PT X (.IfExp c a b pos) (fun σ H Q => tC σ H fun k H1 => if k = true then tA σ H1 Q else tB σ H1 Q) := by
  refine ⟨fun pins s σ H Q I h => ?_⟩
  show wpAny _ _ (do if ← isTrue c X.env (eval c X.env) then isTrue a X.env (eval a X.env) else isTrue b X.env (eval b X.env)) _ _ s
  refine wpAny_bind (thn (hc.run pins s σ H _ I h) fun d s1 ⟨H1, I1, q1⟩ => ?_)
  cases d with
  | true => exact ha.run pins s1 σ H1 Q I1 q1
  | false => exact hb.run pins s1 σ H1 Q I1 q1
theorem s_iteT (hc : PT X c (tT X.K N W (asB mc))) (ha : PT X a (tT X.K N W (asB ma))) (hb : PT X b (tT X.K N W (asB mb))) : PT X (.IfExp c a b pos) (tT X.K N W (asB fun ρ st => (mc ρ st).bind fun x st => match x with
    | .bl true => ma ρ st
    | .bl false => mb ρ st
    | _ => .bad)) :=
  PT.wk (pt_ifExp hc ha hb) fun σ H Q ⟨η, ι, ρ, st, rs, re, f⟩ => ⟨η, ι, ρ, st, rs, re, by
    have f' := f
    simp only [asB] at f'
    rw [iteBB (mc ρ st) (ma ρ) (mb ρ)] at f'
    refine f'.bind.imp fun ι1 H1 st1 b p1 r1 _ f1 => ?_
    cases b with
    | true => exact iteT ⟨η, ι1, ρ, st1, r1, re.post rs p1, f1⟩
    | false => exact iteF ⟨η, ι1, ρ, st1, r1, re.post rs p1, f1⟩⟩
theorem s_chain {op op' : CmpOp} (hu : X.A.units + 64 < cLine) (hm : lastMarks [op, op'] [b, c] = false) (ha : PE X a (tE X.K N W ma)) (hb : PE X b (tE X.K N W mb)) (hc : PE X c (tE X.K N W mc)) :
    PE X (.Compare a [op, op'] [b, c] pos) (tE X.K N W fun ρ st => (ma ρ st).bind fun x st => (mb ρ st).bind fun y st => (R.of (cmpD st op x y) st).bind fun k st =>
      if k then (mc ρ st).bind fun z st => (R.of (cmpD st op' y z) st).bind fun k st => .ok (.bl k) st else .ok (.bl false) st) :=
  PE.wk (pe_chain (o_cmp op hu) (o_cmp op' hu) ha hb hc hm) fun σ H Q ⟨η, ι, ρ, st, rs, re, f⟩ =>
    ⟨η, ι, ρ, st, rs, re, f.bind.imp fun ι1 H1 st1 d p1 r1 _ f1 v q1 => ⟨η, ι1, ρ, st1, r1, re.post rs p1, f1.bind.imp fun ι2 H2 st2 d2 p2 r2 _ f2 v2 q2 => ⟨η, ι2, st2, d, d2, r2, rel.post r1 p2 q1, q2, by
      obtain ⟨k, e1, f3⟩ := f2.bind.ofE
      show Fin X.K (N.h η) ι2 H2 ((R.of (cmpD st2 op d d2) st2).bind fun k st => R.ok (D.bl k) st) _ _
      rw [e1]
      refine Fin.of_mk fun ι3 H3 p3 r3 v3 q3 => ⟨k, q3, ?_⟩
      have f4 := f3 ι3 H3 p3 r3
      have re3 := ((re.post rs p1).post r1 p2).post r2 p3
      cases k with
      | true =>
        refine iteT ⟨η, ι3, ρ, st2, r3, re3, f4.bind.imp fun ι4 H4 st4 d4 p4 r4 _ f5 v4 q4 => ⟨η, ι4, st4, d2, d4, r4, rel.post r3 p4 (rel.post r2 p3 q2), q4, by
          obtain ⟨k', e2, f6⟩ := f5.bind.ofE
          show Fin X.K (N.h η) ι4 H4 ((R.of (cmpD st4 op' d2 d4) st4).bind fun k st => R.ok (D.bl k) st) _ _
          rw [e2]
          exact (f6 ι4 H4 .refl r4)⟩⟩
      | false => exact iteF (f4.of_ok r3 _ rfl)⟩⟩⟩

/-! lists of arguments -/
theorem s_anil : PA X [] (tA X.K N W fun _ st => .ok [] st) :=
  PA.wk pa_nil fun σ H Q ⟨η, ι, ρ, st, rs, re, f⟩ => f.of_ok rs _ rfl
theorem s_acons (ha : PE X a (tE X.K N W ma)) (hr : PA X es (tA X.K N W ms)) (hs : starEach (a :: es) X.env = (false, eval a X.env) :: starEach es X.env) :
    PA X (a :: es) (tA X.K N W fun ρ st => (ma ρ st).bind fun d st => (ms ρ st).bind fun ds st => .ok (d :: ds) st) :=
  PA.wk (pa_cons ha hr hs) fun σ H Q ⟨η, ι, ρ, st, rs, re, f⟩ =>
    ⟨η, ι, ρ, st, rs, re, f.bind.imp fun ι1 H1 st1 d p1 r1 _ f1 v q1 => ⟨η, ι1, ρ, st1, r1, re.post rs p1, f1.bind.imp fun ι2 H2 st2 d2 p2 r2 _ f2 v2 q2 => f2.of_ok r2 _ ⟨v, v2, rfl, rel.post r1 p2 q1, q2⟩⟩⟩

/-! displays -/
theorem lim_fin {α : Type} {ι : List Addr} {H : Hp} {n : Nat} {r : R α} {k : List Addr → Hp → Store → α → Prop} {E : XK} (f : Fin X.K N ι H (if n ≤ LIM then r else .bad) k E) : n ≤ LIM ∧ Fin X.K N ι H r k E := by
  by_cases h : n ≤ LIM
  · rw [if_pos h] at f; exact ⟨h, f⟩
  · rw [if_neg h] at f; exact f.elim
theorem s_tup {k : Nat} (h : PA X es (tA X.K N W ms)) : PE X (.Tuple es k pos) (tE X.K N W fun ρ st => (ms ρ st).bind fun ds st => if ds.length ≤ LIM then .ok (.tup ds) st else .bad) :=
  PE.wk (pe_tup h) fun σ H Q ⟨η, ι, ρ, st, rs, re, f⟩ =>
    ⟨η, ι, ρ, st, rs, re, f.bind.imp fun ι1 H1 st1 ds p1 r1 _ f1 vs q1 => by
      obtain ⟨hl, f2⟩ := lim_fin f1
      refine ⟨lim_line (by rw [← q1.length]; exact hl), fun p np => ?_⟩
      exact fin_new r1 np f2 (.tup_mk upd_same (q1.post r1 (.laid np)))⟩
theorem s_lst (m : Bool) (h : PA X es (tA X.K N W ms)) : PE X (.List es pos) (tE X.K N W fun ρ st => (ms ρ st).bind fun ds st => if ds.length ≤ LIM then (if m then .ok (.loc st.length) (st ++ [.lst ds]) else .ok (.lst ds) st) else .bad) :=
  PE.wk (pe_lst h) fun σ H Q ⟨η, ι, ρ, st, rs, re, f⟩ =>
    ⟨η, ι, ρ, st, rs, re, f.bind.imp fun ι1 H1 st1 ds p1 r1 _ f1 vs q1 => by
      obtain ⟨hl, f2⟩ := lim_fin f1
      refine ⟨lim_line (by rw [← q1.length]; exact hl), fun p np => ?_⟩
      cases m with
      | false => exact fin_new r1 np f2 (.lst_mk upd_same (r1.out np) (q1.post r1 (.laid np)))
      | true =>
        refine f2 (ι1 ++ [p]) _ (.pushed np) (r1.pushed np ⟨vs, rfl, q1.post r1 (.pushed np)⟩) _ ⟨p, rfl, ?_⟩
        rw [← r1.len]; simp⟩
end
end G

set_option Elab.async false
set_option linter.all false
set_option maxRecDepth 100000
/-! C5: subscripts, attributes, built-ins. -/
namespace L2
open PySem PySem.Spec PyProof.Rows
theorem ix_dictA {X : Cx} (hu : X.A.units + 1 < cLine) : IxR X (fun x y H Q => ∃ a v, x = .ref a ∧ DGet H a y (some v) ∧ Q v H) := by
  intro value slice pins s σ H x y v u Q I rx ry h hs
  obtain ⟨a, w, rfl, g, q⟩ := h
  cases rx
  have hT := dict_typeIs I g
  unfold subscriptTail
  refine wpAny_bind ?_
  rw [getitemInPython_of_ne hT.not_modules]
  refine wpAny_bind (wpAny_specialOf hT PySem.F.slot_dict_getitem.lookup ?_)
  have fin : wpAny (model X.prog X.w) X.A (subscripted slice false (.ref a) u) (fun r s₃ => wpAny (model X.prog X.w) X.A (letTemporaryGo value (.ref a) r >>= fun _ => pure r) (EP X pins σ Q) X.xe s₃) X.xe s := by
    rw [hs]
    exact wpAny_operating (wpAny_mono (d_getItem (Q := EP X pins σ Q) hu I g ry fun w' s' I' rw' => ⟨w, H, I', rw', q⟩) (fun r s₃ h₃ => wpAny_bind (wpAny_letTemporaryGo (wpAny_pure h₃))) fun _ _ x => x)
  first
    | exact wpAny_pure (wpAny_bind fin)
    | exact wpAny_bind (wpAny_pure (wpAny_bind fin))
    | exact wpAny_bind fin
end L2
namespace G
open PySem L2
section
variable {K : PySem.W.Frag} {N : Nms} {ι ι' : List Addr} {H H' : Hp} {st st' : Store} {E E' : XK}
theorem atI_rel {l : List D} {xs : List V} {i : Int} {d : D} (h : rels K N ι H l xs) (e : atI l i = some d) : ∃ v, atI xs i = some v ∧ rel K N ι H d v := by
  unfold atI at e ⊢
  rw [← h.length]
  obtain ⟨j, e1, e2⟩ := Option.bind_eq_some_iff.mp e
  obtain ⟨v, h1, h2⟩ := h.get e2
  exact ⟨v, by rw [e1]; exact h1, h2⟩
/-- attributes -/
def Inj (N : Nms) : Prop := ∀ a b, N.attr a = N.attr b → a = b
theorem lookA_rel (hj : Inj N) {f : Nat} : ∀ {ns : List Nat} {l : List D} {xs : List V} {d : D}, rels K N ι H l xs → lookA f ns l = some d → ∃ v, ((ns.map N.attr).zip xs).lookup (N.attr f) = some v ∧ rel K N ι H d v
  | [], _, _, _, _, e => nomatch e
  | _ :: _, [], _, _, _, e => nomatch e
  | k :: ns, d' :: l, xs, d, ⟨v, us, hv, h1, h2⟩, e => by
    subst hv
    simp only [lookA] at e
    rw [List.map_cons, List.zip_cons_cons, List.lookup_cons]
    split at e
    · rename_i hk
      cases e
      subst hk
      exact ⟨v, by simp, h1⟩
    · rename_i hk
      obtain ⟨w, e1, e2⟩ := lookA_rel hj h2 e
      have : (N.attr f == N.attr k) = false := beq_eq_false_iff_ne.mpr fun z => hk (hj _ _ z).symm
      exact ⟨w, by rw [this]; exact e1, e2⟩
theorem look_none (hj : Inj N) {f : Nat} : ∀ {ns : List Nat} {xs : List V}, ns.contains f = false → ((ns.map N.attr).zip xs).lookup (N.attr f) = none
  | [], _, _ => rfl
  | _ :: _, [], _ => rfl
  | k :: ns, x :: xs, h => by
    rw [List.contains_cons, Bool.or_eq_false_iff] at h
    rw [List.map_cons, List.zip_cons_cons, List.lookup_cons]
    have : (N.attr f == N.attr k) = false := beq_eq_false_iff_ne.mpr fun z => by
      have e := hj _ _ z
      subst e
      simp at h
    rw [this]
    exact look_none hj h.2
theorem instOf_at {d : D} {v : V} {c : Nat} {ns : List Nat} (r : RelSt K N ι H st) (h : rel K N ι H d v) (e : instOf st d = some (c, ns)) : ∃ a dx xs, v = .ref a ∧ H a = some (.ins (N.cls c) dx ((ns.map N.attr).zip xs)) := by
  cases d with
  | obj c' ns' l =>
    obtain ⟨a, dx, xs, rfl, h1, _⟩ := h
    cases e
    exact ⟨a, dx, xs, rfl, h1⟩
  | loc n =>
    obtain ⟨a, rfl, h1⟩ := h
    simp only [instOf] at e
    split at e
    · rename_i c' ns' l hl
      cases e
      obtain ⟨ho, h2, dx, xs, rfl, _⟩ := r.get h1 hl
      exact ⟨a, dx, xs, rfl, h2⟩
    · cases e
  | _ => exact nomatch e
theorem attrD_at (hj : Inj N) {T : Tab} {d e : D} {v : V} {f : Nat} (r : RelSt K N ι H st) (h : rel K N ι H d v) (q : attrD T st d f = some e) :
    ∃ a c dx fs w, v = .ref a ∧ H a = some (.ins (N.cls c) dx fs) ∧ T.has c f = true ∧ fs.lookup (N.attr f) = some w ∧ rel K N ι H e w := by
  cases d with
  | obj c' ns' l =>
    obtain ⟨a, dx, xs, rfl, h1, _, _, h2⟩ := h
    simp only [attrD] at q
    split at q
    · rename_i ht
      obtain ⟨w, e1, e2⟩ := lookA_rel hj h2 q
      exact ⟨a, c', dx, _, w, rfl, h1, ht, e1, e2⟩
    · cases q
  | loc n =>
    obtain ⟨a, rfl, h1⟩ := h
    simp only [attrD] at q
    split at q
    · rename_i c' ns' l hl
      split at q
      · rename_i ht
        obtain ⟨ho, h2, dx, xs, rfl, _, h3⟩ := r.get h1 hl
        obtain ⟨w, e1, e2⟩ := lookA_rel hj h3 q
        exact ⟨a, c', dx, _, w, rfl, h2, ht, e1, e2⟩
      · cases q
    · cases q
  | _ => exact nomatch q
end
section
variable {X : Cx} {N : Nms} {W : WX} {a b c e : Expr} {es : List Expr} {pos : Pos} {ma mb mc : Env' → Store → R D} {ms : Env' → Store → R (List D)}
theorem o_ix (hu : X.A.units + 1 < cLine) : IxR X (r2 X.K N fun st x y => R.of (ixD st x y) st) := by
  intro value slice pins s σ H x y v u Q I rx ry h hs
  obtain ⟨η, ι, st, d, e, r, q1, q2, f⟩ := h
  obtain ⟨w, ew, f⟩ := f.ofE
  have seq : ∀ xs i, items? st d = some xs → e = .int i → atI xs i = some w → wpAny (model X.prog X.w) X.A (PyProof.Rows.subscriptTail value slice v u) (EP X pins σ Q) X.xe s := by
    intro xs i e1 e2 e3
    have q2 : y = .int i := by subst e2; exact q2
    obtain ⟨a, us, rfl, hs', z⟩ := items?_sq r q1 e1
    obtain ⟨z', e4, e5⟩ := atI_rel z e3
    rcases hs' with hs' | hs'
    · exact ix_list value slice pins s σ H _ _ v u Q I rx ry ⟨a, us, i, z', rfl, q2, hs', e4, f ι H .refl r _ e5⟩ hs
    · exact ix_tup value slice pins s σ H _ _ v u Q I rx ry ⟨a, us, i, z', rfl, q2, hs', e4, f ι H .refl r _ e5⟩ hs
  have seq' : ∀ xs, items? st d = some xs → (match e with | .int j => atI xs j | _ => none) = some w → wpAny (model X.prog X.w) X.A (PyProof.Rows.subscriptTail value slice v u) (EP X pins σ Q) X.xe s := by
    intro xs e1 e2
    cases e with
    | int j => exact seq xs j e1 rfl e2
    | _ => exact nomatch e2
  have dic : (match dict? st d, keyOf e with | some (ks, l), some k => lookK k ks l | _, _ => none) = some w → wpAny (model X.prog X.w) X.A (PyProof.Rows.subscriptTail value slice v u) (EP X pins σ Q) X.xe s := by
    intro e2
    split at e2
    · rename_i ks l kk f1 f2
      obtain ⟨a, us, rfl, h1, h2, h3⟩ := dict?_at r q1 f1
      have hk := keyOf_kV q2 f2
      subst hk
      obtain ⟨z, e4, e5⟩ := lookK_valV h3 e2
      exact ix_dictA hu value slice pins s σ H _ _ v u Q I rx ry ⟨a, z, rfl, .inl ⟨_, kk, .inl h1, rfl, e4.symm⟩, f ι H .refl r _ e5⟩ hs
    · cases e2
  cases d with
  | str z =>
    cases e with
    | int j =>
      simp only [ixD] at ew
      split at ew
      · rename_i hl
        obtain ⟨c, e1, rfl⟩ := Option.map_eq_some_iff.mp ew
        exact ix_str value slice pins s σ H _ _ v u Q I rx ry ⟨z, j, c, q1, q2, lim_line hl, e1, f ι H .refl r _ rfl⟩ hs
      · cases ew
    | _ => exact nomatch ew
  | tup l => exact seq' l rfl (by cases e <;> exact ew)
  | lst l => exact seq' l rfl (by cases e <;> exact ew)
  | ro l => exact seq' l rfl (by cases e <;> exact ew)
  | dct ks l => exact dic (by cases e <;> exact ew)
  | loc n =>
    cases hi : items? st (.loc n) with
    | some xs => exact seq' xs hi (by cases e <;> simp only [ixD, hi] at ew <;> exact ew)
    | none => exact dic (by cases e <;> simp only [ixD, hi] at ew <;> exact ew)
  | _ => cases e <;> exact nomatch ew
theorem s_ix (hu : X.A.units + 64 < cLine) (ha : PE X a (tE X.K N W ma)) (hb : PE X b (tE X.K N W mb)) (hs : PlainIx b) :
    PE X (.Subscript a b pos) (tE X.K N W fun ρ st => (ma ρ st).bind fun x st => (mb ρ st).bind fun y st => .of (ixD st x y) st) :=
  PE.wk (pe_ix (o_ix (by omega)) ha hb hs) fun σ H Q ⟨η, ι, ρ, st, rs, re, f⟩ =>
    ⟨η, ι, ρ, st, rs, re, f.bind.imp fun ι1 H1 st1 d p1 r1 _ f1 v q1 => ⟨η, ι1, ρ, st1, r1, re.post rs p1, f1.bind.imp fun ι2 H2 st2 d2 p2 r2 _ f2 v2 q2 => ⟨η, ι2, st2, d, d2, r2, rel.post r1 p2 q1, q2, f2.swapE⟩⟩⟩
theorem s_attr {T : Tab} {f : Nat} (hj : Inj N) (hc : ∀ c, T.has c f = true → Cls X.K (N.cls c) ∧ NoAttr X.K (N.cls c) (N.attr f)) (ha : PE X a (tE X.K N W ma)) (hb : attributeBase a (N.attr f) X.env (eval a X.env) = eval a X.env) :
    PE X (.Attribute a (N.attr f) pos) (tE X.K N W fun ρ st => (ma ρ st).bind fun x st => .of (attrD T st x f) st) :=
  PE.wk (pe_fld ha hb) fun σ H Q ⟨η, ι, ρ, st, rs, re, f⟩ =>
    ⟨η, ι, ρ, st, rs, re, f.bind.imp fun ι1 H1 st1 d p1 r1 _ f1 v q1 => by
      obtain ⟨e, e1, f2⟩ := f1.ofE
      obtain ⟨a, c, dx, fs, w, rfl, h1, h2, h3, h4⟩ := attrD_at (N := N.h η) hj r1 q1 e1
      obtain ⟨c1, c2⟩ := hc c h2
      exact ⟨a, N.cls c, dx, fs, w, rfl, h1, c1, c2, h3, f2 ι1 H1 .refl r1 _ h4⟩⟩

/-! slices -/
def tPo (K : PySem.W.Frag) (N : Nms) (W : WX) (m : Env' → Store → R (Option Int)) : TO := fun σ H Q => ∃ η ι ρ st, RelSt K (N.h η) ι H st ∧ relE K (N.h η) ι H ρ σ ∧ Fin K (N.h η) ι H (m ρ st) (fun ι' H' _ o => Q o H') (EW W)
theorem PO.wk {lo : Option Expr} {t t' : TO} (h : PO X lo t) (i : ∀ σ H Q, t' σ H Q → t σ H Q) : PO X lo t' := ⟨fun p s σ H Q I q => h.run p s σ H Q I (i σ H Q q)⟩
theorem s_poN : PO X none (tPo X.K N W fun _ st => .ok none st) :=
  PO.wk po_none fun σ H Q ⟨η, ι, ρ, st, rs, re, f⟩ => f.of_ok rs
theorem s_poS (ha : PE X a (tE X.K N W ma)) : PO X (some a) (tPo X.K N W fun ρ st => (ma ρ st).bind fun d st => match d with
    | .int i => .ok (some i) st
    | _ => .bad) :=
  PO.wk (po_some ha) fun σ H Q ⟨η, ι, ρ, st, rs, re, f⟩ => ⟨η, ι, ρ, st, rs, re, f.bind.imp fun ι1 H1 st1 d p1 r1 _ f1 v q1 => by
    cases d with
    | int i => exact ⟨i, q1, f1.of_ok r1⟩
    | _ => exact f1.elim⟩
/-- by value -/
def rSl (K : PySem.W.Frag) (N : Nms) : V → Option Int → Option Int → Hp → VK → Prop := fun x l h H Q => ∃ η ι st d, RelSt K (N.h η) ι H st ∧ rel K (N.h η) ι H d x ∧ Fin K (N.h η) ι H (R.of (sliceD st d l h) st) (fun ι' H' _ d => ∀ v, rel K (N.h η) ι' H' d v → Q v H') (fun _ _ _ => False)
theorem o_sl : SlR X (rSl X.K N) := by
  intro pins s σ H x v vl vu lo hi sl Q I rx hs pl pu h
  obtain ⟨η, ι, st, d, r, q1, f⟩ := h
  obtain ⟨w, ew, f⟩ := f.ofE
  have lst : ∀ xs, list? st d = some xs → w = .lst (cutD xs lo hi) → ∃ T id, typeLookup (.type T) "__getitem__" = pure (some (.builtin id)) ∧ s.TypeIs v T ∧ wpAny (model X.prog X.w) X.A (getItem v (.ref sl)) (EP X pins σ Q) X.xe s := by
    intro xs e1 e2
    subst e2
    obtain ⟨a, us, rfl, h1, z⟩ := list?_sq r q1 e1
    refine sl_list pins s σ H _ v vl vu lo hi sl Q I rx hs pl pu ⟨a, us, rfl, SqL.of h1, fun p np => ?_⟩
    exact fin_new r np f (.lst_mk upd_same (r.out np) ((z.cut lo hi).post r (.laid np)))
  cases d with
  | tup xs =>
    cases ew
    obtain ⟨a, us, rfl, h1, z⟩ := id q1
    refine sl_tupA pins s σ H _ v vl vu lo hi sl Q I rx hs pl pu ⟨a, us, rfl, h1, fun e => ?_, fun _ p np => ?_⟩
    · have : cutD xs lo hi = xs := by
        unfold cutD
        rw [z.length, e.1, e.2, List.drop_zero, Nat.sub_zero, ← z.length, List.take_length]
      rw [this] at f
      exact fin_val r f q1
    · exact fin_new r np f (.tup_mk upd_same ((z.cut lo hi).post r (.laid np)))
  | str z =>
    simp only [sliceD] at ew
    split at ew
    · rename_i hl
      cases ew
      exact sl_str pins s σ H _ v vl vu lo hi sl Q I rx hs pl pu ⟨z, q1, lim_line hl, fin_val r f rfl⟩
    · cases ew
  | lst xs => cases ew; exact lst xs rfl rfl
  | loc n =>
    simp only [sliceD] at ew
    split at ew
    · rename_i xs e1
      cases ew
      exact lst xs e1 rfl
    · cases ew
  | _ => exact nomatch ew
theorem s_slice {lo hi : Option Expr} {p2 : Pos} {ml mh : Env' → Store → R (Option Int)} (ha : PE X a (tE X.K N W ma)) (hl : PO X lo (tPo X.K N W ml)) (hh : PO X hi (tPo X.K N W mh)) :
    PE X (.Subscript a (.Slice lo hi none p2) pos) (tE X.K N W fun ρ st => (ma ρ st).bind fun x st => (ml ρ st).bind fun l st => (mh ρ st).bind fun h st => .of (sliceD st x l h) st) :=
  PE.wk (pe_slice o_sl ha hl hh) fun σ H Q ⟨η, ι, ρ, st, rs, re, f⟩ =>
    ⟨η, ι, ρ, st, rs, re, f.bind.imp fun ι1 H1 st1 d p1 r1 _ f1 v q1 => ⟨η, ι1, ρ, st1, r1, re.post rs p1, f1.bind.imp fun ι2 H2 st2 l p2 r2 _ f2 => ⟨η, ι2, ρ, st2, r2, (re.post rs p1).post r1 p2, f2.bind.imp fun ι3 H3 st3 h p3 r3 _ f3 =>
      ⟨η, ι3, st3, d, r3, rel.post r2 p3 (rel.post r1 p2 q1), f3.swapE⟩⟩⟩⟩

/-! ### calls -/
/-- a def that may be called -/
structure FnAt (X : Cx) (N : Nms) (call : Call) (np : Nat) (f : Nat) : Prop where
  ex : ∃ k fd ps, FnOk X.prog X.w X.K X.mg X.base (CX X.prog X.w) k (N.fn f) fd ps (spOf X.K N np (call f)) ∧ Room (k + 1) X.A ∧ Binds X.K fd ps []
  kp : PySem.W.keepIn X.K (.ref (N.fn f)) = true
variable {call : Call} {T : Tab}
theorem pass_W (tk : Takes X W) : Passes (CX X.prog X.w) X (EW W) := passes_call tk fun c d σ H h => h σ
theorem pa_inv (h : PA X (e :: es) (tA X.K N W ms)) : True := trivial
theorem s_call {x : Str} {p : Pos} {f np : Nat} (tk : Takes X W) (F : FnAt X N call np f) (hg : Gl X x) (hm : X.mg x = some (.ref (N.fn f))) (hnp : ∀ ds st, call f ds st ≠ .bad → ds.length = np)
    (ha : PA X (e :: es) (tA X.K N W ms)) (hdb : (x == ("__debug__" : Str)) = false) (he : starEach (e :: es) X.env = (false, eval e X.env) :: starEach es X.env) (hpl : (backTo pos (starEach es X.env)).any (·.1) = false) :
    PE X (.Call (.Name x p) (e :: es) [] pos) (tE X.K N W fun ρ st => (ms ρ st).bind fun ds st => call f ds st) := by
  obtain ⟨k, fd, ps, ok, hr, hb⟩ := F.ex
  refine PE.wk (pe_call ok (hr.mono (Nat.le_succ k)) hg hm F.kp hb .nil (pass_W tk) ha hdb he hpl) fun σ H Q ⟨η, ι, ρ, st, rs, re, f1⟩ => ?_
  refine ⟨η, ι, ρ, st, rs, re, f1.bind.imp fun ι1 H1 st1 ds p1 r1 _ f2 vs q1 => ?_⟩
  show spOf X.K N np (call f) (vs ++ []) H1 Q (EW W)
  rw [List.append_nil]
  exact ⟨η, ι1, st1, ds, r1, q1, hnp ds st1 (fun z => by rw [z] at f2; exact f2), f2⟩
theorem s_call0 {x : Str} {p : Pos} {f np : Nat} (tk : Takes X W) (F : FnAt X N call np f) (hg : Gl X x) (hm : X.mg x = some (.ref (N.fn f))) (hnp : ∀ ds st, call f ds st ≠ .bad → ds.length = np) (hdb : (x == ("__debug__" : Str)) = false) :
    PE X (.Call (.Name x p) [] [] pos) (tE X.K N W fun ρ st => call f [] st) := by
  obtain ⟨k, fd, ps, ok, hr, hb⟩ := F.ex
  refine PE.wk (pe_call0 ok (hr.mono (Nat.le_succ k)) hg hm F.kp hb .nil (pass_W tk) hdb) fun σ H Q ⟨η, ι, ρ, st, rs, re, f1⟩ => ?_
  exact ⟨η, ι, st, [], rs, rfl, hnp [] st (fun z => by simp only [z] at f1; exact f1), f1⟩
end
end G

set_option Elab.async false
set_option linter.all false
set_option maxRecDepth 100000
/-! C6: methods, instances. -/
namespace G
open PySem L2
section
variable {X : Cx} {N : Nms} {W : WX} {a b c e : Expr} {es : List Expr} {pos : Pos} {ma mb mc : Env' → Store → R D} {ms : Env' → Store → R (List D)} {call : Call} {T : Tab}
theorem lookM_mem {m f : Nat} : ∀ {l : List (Nat × Nat)}, lookM m l = some f → (m, f) ∈ l
  | (k, g) :: r, h => by
    unfold lookM at h
    split at h
    · rename_i hk
      cases h; subst hk
      exact List.mem_cons_self
    · exact List.mem_cons_of_mem _ (lookM_mem h)
  | [], h => nomatch h
theorem methOf_some {st : Store} {d : D} {m f : Nat} (h : methOf T st d m = some f) : ∃ c ns k, instOf st d = some (c, ns) ∧ ns.contains m = false ∧ T.clss.lookup c = some k ∧ lookM m k.meths = some f := by
  unfold methOf at h
  split at h
  · rename_i c ns e
    split at h
    · cases h
    · rename_i hc
      split at h
      · rename_i k ek
        exact ⟨c, ns, k, e, by simpa using hc, ek, h⟩
      · cases h
  · cases h
/-- what is to be known of a class for a method's call -/
def MethAt (X : Cx) (N : Nms) (T : Tab) : Prop := ∀ c k m f, T.clss.lookup c = some k → lookM m k.meths = some f → Cls X.K (N.cls c) ∧ Meth X.K (N.cls c) (N.attr m) (N.fn f)
theorem s_meth {pl : Sem Bool} {m : Nat} {apos : Pos} (hj : Inj N) (tk : Takes X W) (hM : MethAt X N T) (hF : ∀ c k f, T.clss.lookup c = some k → lookM m k.meths = some f → ∃ np, FnAt X N call np f ∧ ∀ ds st, call f ds st ≠ .bad → ds.length = np)
    (ho : PE X a (tE X.K N W ma)) (ha : PA X es (tA X.K N W ms)) (hnil : es = [] → ms = fun _ st => .ok [] st)
    (hst : ∀ e es', es = e :: es' → starEach (e :: es') X.env = (false, eval e X.env) :: starEach es' X.env ∧ (backTo pos (starEach es' X.env)).any (·.1) = false)
    (ht : eval (.Call (.Attribute a (N.attr m) apos) es [] pos) X.env = (do
      let ov ← eval a X.env
      standAt apos.atName
      let (f, first) ← holding [ov] (getMethod ov (N.attr m) pl)
      callWith pos f first (backTo pos (starEach es X.env)) (backToKw pos (keywordEach [] X.env)))) :
    PE X (.Call (.Attribute a (N.attr m) apos) es [] pos) (tE X.K N W fun ρ st => (ma ρ st).bind fun x st => match methOf T st x m with
      | some f => (ms ρ st).bind fun ds st => call f (x :: ds) st
      | none => .bad) := by
  refine ⟨fun pins s σ H Q I h => ?_⟩
  obtain ⟨η, ι, ρ, st, rs, re, f⟩ := h
  refine methcall_of ho I (te := tE X.K N W ma) ?_ ht
  refine ⟨η, ι, ρ, st, rs, re, f.bind.imp fun ι1 H1 st1 d p1 r1 _ f1 v q1 => ?_⟩
  cases hm : methOf T st1 d m with
  | none => simp only [hm] at f1; exact f1.elim
  | some g =>
    simp only [hm] at f1
    obtain ⟨c, ns, k, e1, e2, e3, e4⟩ := methOf_some hm
    obtain ⟨a', dx, xs, rfl, h1⟩ := instOf_at r1 q1 e1
    obtain ⟨cl, mt⟩ := hM c k m g e3 e4
    obtain ⟨np, F, hnp⟩ := hF c k g e3 e4
    obtain ⟨kk, fd, ps, ok, hr, hb⟩ := F.ex
    refine ⟨a', N.cls c, dx, _, N.fn g, rfl, h1, cl, mt, look_none (N := N.h η) hj e2, fun s1 I1 => ?_⟩
    cases es with
    | nil =>
      refine PySem.W.callWith_K0 (first := [.ref a']) I1.kIn mt.kp (run_fn (us := [.ref a']) (vs := [.ref a']) ok (hr.mono (Nat.le_succ _)) hb .nil (pass_W tk) I1 (.cons rfl .nil) ?_)
      have e := hnil rfl
      subst e
      exact ⟨η, ι1, st1, [d], r1, .one q1, hnp _ _ fun z => by simp only [R.bind_ok] at f1; rw [z] at f1; exact f1, f1⟩
    | cons e es' =>
      obtain ⟨h2, h3⟩ := hst e es' rfl
      refine PySem.W.callWith_K (first := [.ref a']) (h₀ := X.base) I1.ok.mod.kin mt.kp (thn (ha.run pos pins s1 σ H1 (fun vs H2 => spOf X.K N np (call g) (.ref a' :: vs) H2 Q (EW W)) I1 ?_) fun us s2 ⟨vs, H2, I2, r, q2⟩ => ⟨I2.kIn, ?_⟩) h2 h3
      · exact ⟨η, ι1, ρ, st1, r1, re.post rs p1, f1.bind.imp fun ι2 H2 st2 ds p2 r2 _ f2 vs q2 => ⟨η, ι2, st2, d :: ds, r2, ⟨_, vs, rfl, rel.post r1 p2 q1, q2⟩, hnp _ _ fun z => by rw [z] at f2; exact f2, f2⟩⟩
      · exact run_fn (us := .ref a' :: us) (vs := .ref a' :: vs) ok (hr.mono (Nat.le_succ _)) hb .nil (pass_W tk) I2 (.cons rfl r) (by rw [List.append_nil]; exact q2)

/-! ### instances -/
/-- what is to be known of a class without __init__ -/
structure Mk0 (K : PySem.W.Frag) (C : Addr) : Prop where
  makes : PySem.W.makesIn K C = true
  init : PySem.W.findIn K (.ref C) "__init__" = some (some (.builtin "object.__init__"))
  top : PySem.W.mroIn K C (.type "object") = some true
  kp : PySem.W.keepIn K (.ref C) = true
end
end G
namespace L2
open PySem PySem.Spec PyProof.Rows PySem.W
theorem run_make0N {X : Cx} {C : Addr} {pins : List (Addr × Obj)} {σ : St} {H : Hp} {s : Shared} {Q : VK} (M : G.Mk0 X.K C) (I : Inv X pins σ H s)
    (h : ∀ x dx, H x = none → H dx = none → dx ≠ x → Q (.ref x) (upd (upd H dx (.own x)) x (.ins C dx []))) :
    wpAny (model X.prog X.w) X.A (call (.ref C) []) (EP X pins σ Q) X.xe s := by
  have hq := h (s.heap.objs.size + 1) s.heap.objs.size (I.hok.fresh (Nat.le_succ _)) (I.hok.fresh (Nat.le_refl _)) (Nat.ne_of_lt (Nat.lt_succ_self _))
  have I2 := Inv.made (C := C) I
  have ho : ((s.heap.push emptyDict).push (instObj C s.heap.objs.size)).get? (s.heap.objs.size + 1) = some (instObj C s.heap.objs.size) := by
    have := Heap.get?_push_size (h := s.heap.push emptyDict) (o := instObj C s.heap.objs.size) rfl
    rw [Heap.size_push] at this
    exact this
  refine wpAny_call (make_map0 I.kIn M.makes M.init (fun self => Looks.of_pure (oi_bind _)) ?_)
  have t1 : Looks (model X.prog X.w) ((s.heap.push emptyDict).push (instObj C s.heap.objs.size)) (typeOf (.ref (s.heap.objs.size + 1))) (.ref C) := (Looks.ld ho).andThen .now
  have t2 : Looks (model X.prog X.w) ((s.heap.push emptyDict).push (instObj C s.heap.objs.size)) (isInstance (.ref (s.heap.objs.size + 1)) (.type "object")) true := t1.andThen (looks_mroIn I2.kIn M.top)
  refine codeAny_call_builtin oi_plain entry_oi (@check_slot (model X.prog X.w) _ _ _ "object.__init__" "object" "__init__" (.ref (s.heap.objs.size + 1)) [] [] _ oi_kind oi_split t2 (oi_args _) ?_)
  rw [oi_run]
  exact wpAny_pure (And.intro rfl ⟨V.ref (s.heap.objs.size + 1), _, I2, rfl, hq⟩)
end L2

set_option Elab.async false
set_option linter.all false
set_option maxRecDepth 100000
/-! C7: leaving a def: places forgotten, frozen. -/
namespace G
open PySem L2
section
variable {K : PySem.W.Frag} {N : Nms} {ι more : List Addr} {H : Hp} {st : Store} {n : Nat}
mutual
theorem rel.cut (hn : n = ι.length) : ∀ {d : D} {v : V}, below n d = true → rel K N (ι ++ more) H d v → rel K N ι H d v
  | .non, _, _, h => h
  | .bl _, _, _, h => h
  | .int _, _, _, h => h
  | .str _, _, _, h => h
  | .tup _, _, b, ⟨a, xs, e, q, l⟩ => ⟨a, xs, e, q, rels.cutN hn b l⟩
  | .lst _, _, b, ⟨a, xs, e, q, m, l⟩ => ⟨a, xs, e, q, ⟨fun z => m.1 (List.mem_append_left _ z), m.2⟩, rels.cutN hn b l⟩
  | .ro _, _, b, ⟨a, xs, e, q, l⟩ => ⟨a, xs, e, q.fewer fun z => List.mem_append_left _ z, rels.cutN hn b l⟩
  | .obj _ _ _, _, b, ⟨a, dx, xs, e, q, m, z, l⟩ => ⟨a, dx, xs, e, q, fun z => m (List.mem_append_left _ z), z, rels.cutN hn b l⟩
  | .dct _ _, _, b, ⟨a, xs, e, q, m, z, l⟩ => ⟨a, xs, e, q, fun z => m (List.mem_append_left _ z), z, rels.cutN hn b l⟩
  | .loc k, _, b, ⟨a, e, q⟩ => ⟨a, e, by
      have hk : k < ι.length := by rw [← hn]; exact of_decide_eq_true b
      rw [List.getElem?_append_left hk] at q
      exact q⟩
  | .fn _, _, _, h => h
  | .cls _, _, _, h => h
  | .ty _, _, _, h => h
theorem rels.cutN (hn : n = ι.length) : ∀ {l : List D} {vs : List V}, belows n l = true → rels K N (ι ++ more) H l vs → rels K N ι H l vs
  | [], _, _, h => h
  | _ :: _, _, b, ⟨v, xs, e, q1, q2⟩ => by
    have b' := b
    simp only [belows, Bool.and_eq_true] at b'
    exact ⟨v, xs, e, rel.cut hn b'.1 q1, rels.cutN hn b'.2 q2⟩
end
theorem relO.cut (hn : n = ι.length) {o : O} {ho : HO} (b : belowO n o = true) (h : relO K N (ι ++ more) H o ho) : relO K N ι H o ho := by
  cases o with
  | lst l => obtain ⟨xs, e, q⟩ := h; exact ⟨xs, e, q.cutN hn b⟩
  | dct ks l => obtain ⟨xs, e, z, q⟩ := h; exact ⟨xs, e, z, q.cutN hn b⟩
  | ins c ns l => obtain ⟨dx, xs, e, z, q⟩ := h; exact ⟨dx, xs, e, z, q.cutN hn b⟩
theorem RelSt.cut (hn : n = ι.length) (r : RelSt K N (ι ++ more) H st) (b : (st.take n).all (belowO n) = true) : RelSt K N ι H (st.take n) := by
  have hl := r.len
  rw [List.length_append] at hl
  refine ⟨by rw [List.length_take]; omega, (List.nodup_append.mp r.nd).1, fun a ha => let ⟨z, w⟩ := r.hd a ha; ⟨fun q => z (List.mem_append_left _ q), w⟩, fun k a o e1 e2 => ?_⟩
  have hk : k < ι.length := (List.getElem?_eq_some_iff.mp e1).1
  have et : (st.take n)[k]? = st[k]? := List.getElem?_take_of_lt (by omega)
  have e3 := e2
  rw [et] at e2
  obtain ⟨ho, h1, h2⟩ := r.at_ k a o (by rw [List.getElem?_append_left hk]; exact e1) e2
  refine ⟨ho, h1, relO.cut hn ?_ h2⟩
  exact List.all_eq_true.mp b o (List.mem_of_getElem? e3)
/-- a place beyond is none of the first -/
theorem RelSt.beyond (r : RelSt K N (ι ++ more) H st) {k : Nat} {a : Addr} (hk : ι.length ≤ k) (e : (ι ++ more)[k]? = some a) : a ∉ ι := fun hm => by
  rw [List.getElem?_append_right hk] at e
  exact (List.nodup_append.mp r.nd).2.2 a hm a (mem_of_get e) rfl
theorem freeze_rel (hn : n = ι.length) (r : RelSt K N (ι ++ more) H st) : ∀ (f : Nat) (d d' : D) (v : V), freeze st n f d = some d' → rel K N (ι ++ more) H d v → rel K N ι H d' v := by
  have all : ∀ f, (∀ (d d' : D) (v : V), freeze st n f d = some d' → rel K N (ι ++ more) H d v → rel K N ι H d' v) → ∀ (l l' : List D) (vs : List V), l.mapM (freeze st n f) = some l' → rels K N (ι ++ more) H l vs → rels K N ι H l' vs := by
    intro f ih l
    induction l with
    | nil =>
      intro l' vs e h
      simp at e
      subst e
      exact h
    | cons d l ihl =>
      intro l' vs e h
      obtain ⟨v, xs, rfl, h1, h2⟩ := h
      rw [List.mapM_cons] at e
      cases e1 : freeze st n f d with
      | none => rw [e1] at e; simp at e
      | some p =>
        cases e2 : l.mapM (freeze st n f) with
        | none => rw [e1, e2] at e; simp at e
        | some qs =>
          rw [e1, e2] at e
          simp at e
          subst e
          exact ⟨v, xs, rfl, ih d p v e1 h1, ihl qs xs e2 h2⟩
  intro f
  induction f with
  | zero =>
    intro d d' v e h
    simp only [freeze] at e
    split at e
    · rename_i hb
      cases e
      exact h.cut hn hb
    · cases e
  | succ f ih =>
    intro d d' v e h
    have dflt : (if below n d = true then some d else none) = some d' → rel K N ι H d' v := by
      intro e
      split at e
      · rename_i hb
        cases e
        exact h.cut hn hb
      · cases e
    cases d with
    | tup l =>
      simp only [freeze] at e
      obtain ⟨l', e1, rfl⟩ := Option.map_eq_some_iff.mp e
      obtain ⟨a, xs, rfl, q, z⟩ := h
      exact ⟨a, xs, rfl, q, all f ih l l' xs e1 z⟩
    | lst l =>
      simp only [freeze] at e
      obtain ⟨l', e1, rfl⟩ := Option.map_eq_some_iff.mp e
      obtain ⟨a, xs, rfl, q, m, z⟩ := h
      exact ⟨a, xs, rfl, q, ⟨fun z => m.1 (List.mem_append_left _ z), m.2⟩, all f ih l l' xs e1 z⟩
    | obj c ns l =>
      simp only [freeze] at e
      obtain ⟨l', e1, rfl⟩ := Option.map_eq_some_iff.mp e
      obtain ⟨a, dx, xs, rfl, q, m, y, z⟩ := h
      exact ⟨a, dx, xs, rfl, q, fun z => m (List.mem_append_left _ z), y, all f ih l l' xs e1 z⟩
    | dct ks l =>
      simp only [freeze] at e
      obtain ⟨l', e1, rfl⟩ := Option.map_eq_some_iff.mp e
      obtain ⟨a, xs, rfl, q, m, y, z⟩ := h
      exact ⟨a, xs, rfl, q, fun z => m (List.mem_append_left _ z), y, all f ih l l' xs e1 z⟩
    | loc k =>
      simp only [freeze] at e
      split at e
      · rename_i hk
        cases e
        exact h.cut hn (decide_eq_true hk)
      · rename_i hk
        obtain ⟨a, rfl, ea⟩ := h
        have na := r.beyond (by omega) ea
        have nh : a ∉ N.hid := fun z => (r.hd a z).1 (mem_of_get ea)
        split at e
        · rename_i l hl
          obtain ⟨l', e1, rfl⟩ := Option.map_eq_some_iff.mp e
          obtain ⟨ho, h1, xs, rfl, z⟩ := r.get ea hl
          exact ⟨a, xs, rfl, h1, ⟨na, nh⟩, all f ih l l' xs e1 z⟩
        · rename_i ks l hl
          obtain ⟨l', e1, rfl⟩ := Option.map_eq_some_iff.mp e
          obtain ⟨ho, h1, xs, rfl, y, z⟩ := r.get ea hl
          exact ⟨a, xs, rfl, h1, na, y, all f ih l l' xs e1 z⟩
        · rename_i c ns l hl
          obtain ⟨l', e1, rfl⟩ := Option.map_eq_some_iff.mp e
          obtain ⟨ho, h1, dx, xs, rfl, y, z⟩ := r.get ea hl
          exact ⟨a, dx, xs, rfl, h1, na, y, all f ih l l' xs e1 z⟩
        · cases e
    | _ => exact dflt (by simpa only [freeze] using e)
/-- what was kept, the new places forgotten -/
theorem Post.cut {H0 : Hp} (p : Post ι H0 (ι ++ more) H) : Post ι H0 ι H := ⟨⟨[], by simp⟩, fun a h k => absurd h k, p.keep⟩
/-- the end of a def -/
theorem leave_ok {ι' : List Addr} {H0 : Hp} {st0 st' : Store} {frz : Bool} {d : D} {v : V} {k : List Addr → Hp → Store → D → Prop} {E : XK} (r0 : RelSt K N ι H0 st0) (p : Post ι H0 ι' H) (r : RelSt K N ι' H st') (h : rel K N ι' H d v)
    (f : Fin K N ι H0 (leave frz st0.length d st') k E) : ∃ ι2 st2 d2, k ι2 H st2 d2 ∧ rel K N ι2 H d2 v := by
  obtain ⟨more, rfl⟩ := p.pre
  have hn : st0.length = ι.length := r0.len.symm
  unfold leave at f
  split at f
  · exact ⟨_, _, _, f _ _ p r, h⟩
  · split at f
    · split at f
      · rename_i d' e
        split at f
        · rename_i hb
          exact ⟨_, _, _, f _ _ p.cut (r.cut hn hb), freeze_rel hn r _ _ _ _ e h⟩
        · exact f.elim
      · exact f.elim
    · split at f
      · rename_i hb
        rw [Bool.and_eq_true] at hb
        exact ⟨_, _, _, f _ _ p.cut (r.cut hn hb.2), h.cut hn hb.1⟩
      · exact ⟨_, _, _, f _ _ p r, h⟩
end

/-! ### instances -/
section
variable {X : Cx} {N : Nms} {W : WX} {e : Expr} {es : List Expr} {pos : Pos} {ms : Env' → Store → R (List D)} {call : Call} {T : Tab}
/-- what is to be known of the classes -/
def ClsAt (X : Cx) (N : Nms) (T : Tab) (call : Call) : Prop := ∀ c k, T.clss.lookup c = some k → match k.init with
  | none => Mk0 X.K (N.cls c)
  | some i => Mk X.K (N.cls c) (N.fn i) ∧ ∃ np, FnAt X N call np i ∧ ∀ ds st, call i ds st ≠ .bad → ds.length = np
theorem run_mk {c : Nat} {pins : List (Addr × Obj)} {σ : St} {H : Hp} {s : Shared} {Q : VK} {us : List Value} {vs : List V} {η ι : List Addr} {st : Store} {ds : List D} (tk : Takes X W) (hC : ClsAt X N T call)
    (I : Inv X pins σ H s) (r : Vals vs us) (rs : RelSt X.K (N.h η) ι H st) (q : rels X.K (N.h η) ι H ds vs) (f : Fin X.K (N.h η) ι H (mkObj T call c ds st) (fun ι' H' _ d => ∀ v, rel X.K (N.h η) ι' H' d v → Q v H') (EW W)) :
    wpAny (model X.prog X.w) X.A (PySem.call (.ref (N.cls c)) us) (EP X pins σ Q) X.xe s := by
  unfold mkObj at f
  split at f
  · exact f.elim
  rename_i k hk
  have hc := hC c k hk
  split at f
  · rename_i hi
    rw [hi] at hc
    split at f
    · have e1 : vs = [] := q
      subst e1
      cases r
      refine run_make0N hc I fun x dx nx ndx ne => ?_
      have nx' : upd H dx (.own x) x = none := by rw [upd_ne (Ne.symm ne)]; exact nx
      refine f ι _ ((Post.laid ndx).trans (.laid nx')) ((rs.laid ndx).laid nx') _ ⟨x, dx, [], rfl, upd_same, (rs.out nx).1, rfl, rfl⟩
    · exact f.elim
  · rename_i i hi
    rw [hi] at hc
    obtain ⟨M, np, F, hnp⟩ := hc
    obtain ⟨kk, fd, ps, ok, hr, hb⟩ := F.ex
    refine run_make M ok hr hb .nil (pass_W tk) I r fun x dx nx ndx ne => ?_
    rw [List.append_nil]
    have nx' : upd H dx (.own x) x = none := by rw [upd_ne (Ne.symm ne)]; exact nx
    have p1 : Post ι H (ι ++ [x]) (upd (upd H dx (.own x)) x (.ins (N.cls c) dx [])) := (Post.laid ndx).trans (.pushed nx')
    have r1 : RelSt X.K (N.h η) (ι ++ [x]) (upd (upd H dx (.own x)) x (.ins (N.cls c) dx [])) (st ++ [.ins c [] []]) := (rs.laid ndx).pushed nx' ⟨dx, [], rfl, rfl, rfl⟩
    have qx : (ι ++ [x])[st.length]? = some x := by rw [← rs.len]; simp
    refine ⟨η, ι ++ [x], st ++ [.ins c [] []], .loc st.length :: ds, r1, ⟨_, vs, rfl, ⟨x, rfl, qx⟩, q.post rs p1⟩, ?_, ?_⟩
    · exact hnp _ _ fun z => by rw [z] at f; exact f
    · cases hres : call i (.loc st.length :: ds) (st ++ [.ins c [] []]) with
      | bad => rw [hres] at f; exact f.elim
      | exc x2 st2 =>
        rw [hres] at f
        exact fun ι2 H2 c2 dx2 p2 r2 z => f ι2 H2 c2 dx2 (p1.trans p2) r2 z
      | ok d st2 =>
        rw [hres] at f
        refine Fin.of_mk fun ι2 H2 p2 r2 v qv => ?_
        have p := p1.trans p2
        simp only [R.bind_ok] at f
        split at f
        · rename_i hd
          have hv : v = .non := by
            have := is_non qv
            rw [hd] at this
            exact of_decide_eq_true this
          refine ⟨hv, ?_⟩
          split at f
          · split at f
            · rename_i c' ns l hl
              split at f
              · rename_i hb
                obtain ⟨rfl, hb1, hb2⟩ := hb
                obtain ⟨more, rfl⟩ := p.pre
                obtain ⟨m2, e2⟩ := p2.pre
                have hx2 : (ι ++ more)[st.length]? = some x := by rw [e2, List.getElem?_append_left (by rw [List.length_append, rs.len]; simp)]; exact qx
                obtain ⟨ho, h1, dx', xs, rfl, y, z⟩ := r2.get hx2 hl
                exact f ι H2 p.cut (r2.cut rs.len.symm hb2) _ ⟨x, dx', xs, rfl, h1, r2.beyond (by rw [rs.len]; exact Nat.le_refl _) hx2, y, z.cutN rs.len.symm hb1⟩
              · exact f.elim
            · exact f.elim
          · exact f ι2 H2 p r2 _ ⟨x, rfl, p2.get qx⟩
        · exact f.elim
theorem s_mk {x : Str} {p : Pos} {c : Nat} (tk : Takes X W) (hC : ClsAt X N T call) (hkp : PySem.W.keepIn X.K (.ref (N.cls c)) = true) (hg : Gl X x) (hm : X.mg x = some (.ref (N.cls c)))
    (ha : PA X es (tA X.K N W ms)) (hnil : es = [] → ms = fun _ st => .ok [] st) (hdb : (x == ("__debug__" : Str)) = false)
    (hst : ∀ e es', es = e :: es' → starEach (e :: es') X.env = (false, eval e X.env) :: starEach es' X.env ∧ (backTo pos (starEach es' X.env)).any (·.1) = false) :
    PE X (.Call (.Name x p) es [] pos) (tE X.K N W fun ρ st => (ms ρ st).bind fun ds st => mkObj T call c ds st) := by
  refine ⟨fun pins s σ H Q I h => ?_⟩
  obtain ⟨η, ι, ρ, st, rs, re, f⟩ := h
  refine wpAny_Call_Name_kw (ld_glob I hg hm ?_ hdb)
  cases es with
  | nil =>
    have e := hnil rfl
    subst e
    exact PySem.W.callWith_K0 I.kIn hkp (run_mk (us := []) (vs := []) (ds := []) tk hC I .nil rs rfl f)
  | cons e es' =>
    obtain ⟨h2, h3⟩ := hst e es' rfl
    refine PySem.W.callWith_K (h₀ := X.base) I.ok.mod.kin hkp (thn (ha.run pos pins s σ H (fun vs H1 => ∃ ι1 st1 ds, RelSt X.K (N.h η) ι1 H1 st1 ∧ rels X.K (N.h η) ι1 H1 ds vs ∧ Fin X.K (N.h η) ι1 H1 (mkObj T call c ds st1) (fun ι' H' _ d => ∀ v, rel X.K (N.h η) ι' H' d v → Q v H') (EW W)) I ?_) fun us s1 ⟨vs, H1, I1, r, ι1, st1, ds, q1, q2, q3⟩ => ⟨I1.kIn, run_mk tk hC I1 r q1 q2 q3⟩) h2 h3
    exact ⟨η, ι, ρ, st, rs, re, f.bind.imp fun ι1 H1 st1 ds p1 r1 _ f1 vs q1 => ⟨ι1, st1, ds, r1, q1, f1⟩⟩
end
end G

set_option Elab.async false
set_option linter.all false
set_option maxRecDepth 100000
/-! D1: what a loop walks: lists and tuples in any mix, by one, by two, by three, counted. -/
namespace L2
open PySem PySem.Spec PyProof.Rows

def SIter (b : Bool) (h : Heap) (it a : Addr) (i : Nat) : Prop := match b with
  | true => h.IsListIter it a i
  | false => h.IsTupleIter it a i
def SIs (b : Bool) (h : Heap) (a : Addr) (items : Array Value) : Prop := match b with
  | true => h.IsList a items
  | false => h.IsTuple a items
def Sq (K : PySem.W.Frag) (H : Hp) (b : Bool) (a : Addr) (xs : List V) : Prop := match b with
  | true => SqL K H a xs
  | false => SqT K H a xs
theorem sDraws {prog : Program} {w : World} {A : Around} (hh : A.handled = none) (b : Bool) (it a : Addr) (hne : a ≠ it) (items : Array Value) :
    Draws prog w A it [it, a] items.size (fun i v => items[i]? = some v) (fun i h => SIter b h it a i ∧ SIs b h a items) := by
  cases b with
  | true => exact Draws.list hh it a hne items
  | false => exact Draws.tuple hh it a hne items
def sObj (b : Bool) (a : Addr) : Obj := match b with
  | true => { cls := .type "list_iterator", data := .fields #[.ref a, .int 0 0] }
  | false => { cls := .type "tuple_iterator", data := .fields #[.ref a, .int 0 0] }
theorem sBegins (b : Bool) (a : Addr) (items : Array Value) : Begins (.ref a) (sObj b a) (fun h => SIs b h a items) := by
  cases b with
  | true => exact begins_list a items
  | false => exact begins_tuple a items
theorem sIter0 (b : Bool) (a it : Addr) (h : Heap) (e : h.get? it = some (sObj b a)) : SIter b h it a 0 := by
  cases b with
  | true => exact ⟨_, e, rfl, rfl⟩
  | false => exact ⟨_, e, rfl, rfl⟩
theorem SIter.obj {b : Bool} {h : Heap} {it a : Addr} {i : Nat} (x : SIter b h it a i) : ∃ o, h.get? it = some o ∧ ∀ v, o.data ≠ .cell v := by
  cases b with
  | true => obtain ⟨o, e, _, d⟩ := x; exact ⟨o, e, fun v q => by rw [d] at q; cases q⟩
  | false => obtain ⟨o, e, _, d⟩ := x; exact ⟨o, e, fun v q => by rw [d] at q; cases q⟩
theorem SIter.at {b : Bool} {h h' : Heap} {it a : Addr} {i : Nat} (x : SIter b h it a i) (k : ∀ o, h.get? it = some o → h'.get? it = some o) : SIter b h' it a i := by
  cases b with
  | true => exact Heap.IsListIter.at x k
  | false => exact Heap.IsTupleIter.at x k
theorem Inv.sq {X : Cx} {pins : List (Addr × Obj)} {σ : St} {H : Hp} {s : Shared} {b : Bool} {a : Addr} {xs : List V} (I : Inv X pins σ H s) (h : Sq X.K H b a xs) : ∃ its : List Value, Vals xs its ∧ SIs b s.heap a its.toArray := by
  cases b with
  | true => obtain ⟨its, r, p, _⟩ := I.list h; exact ⟨its, r, p.isList⟩
  | false => obtain ⟨its, r, p, _⟩ := I.tuple h; exact ⟨its, r, p⟩
theorem Inv.sq_inj {X : Cx} {pins : List (Addr × Obj)} {σ : St} {H : Hp} {s : Shared} {b : Bool} {a : Addr} {xs ys : List V} (I : Inv X pins σ H s) (h : Sq X.K H b a xs) (h' : Sq X.K H b a ys) : xs = ys := by
  cases b with
  | true => exact I.list_inj h h'
  | false => exact I.tuple_inj h h'
theorem SIs.lt {b : Bool} {h : Heap} {a : Addr} {items : Array Value} (x : SIs b h a items) : a < h.objs.size := by
  cases b with
  | true => obtain ⟨o, e, _⟩ := x; exact Heap.lt_size e
  | false => obtain ⟨o, e, _⟩ := x; exact Heap.lt_size e

/-! ### one -/
def ItS (K : PySem.W.Frag) (b : Bool) (a : Addr) : It := match b with
  | true => Itl K a
  | false => Itt K a
theorem turn_S {P : Program} {w : World} {K : PySem.W.Frag} {tg : Expr} (b : Bool) (a it : Addr) : Turn P w K tg (ItS K b a) [it] it (fun i h => SIter b h it a i) := by
  cases b with
  | true => exact turn_list a it
  | false => exact turn_tuple a it

/-! ### two -/
def Itz2 (K : PySem.W.Frag) (b : Bool) (a : Addr) (b' : Bool) (a' : Addr) : It :=
  ⟨fun i H => ∃ (xs ys : List V) (x y : V), Sq K H b a xs ∧ Sq K H b' a' ys ∧ xs[i]? = some x ∧ ys[i]? = some y,
    fun i H v H' => ∃ T x y, v = .ref T ∧ H T = none ∧ H' = upd H T (.tup [x, y]) ∧ (∀ xs, Sq K H b a xs → xs[i]? = some x) ∧ ∀ ys, Sq K H b' a' ys → ys[i]? = some y,
    fun i H => ∃ xs ys : List V, Sq K H b a xs ∧ Sq K H b' a' ys ∧ i = min xs.length ys.length⟩
theorem turn_z2 {P : Program} {w : World} {K : PySem.W.Frag} {elts : List Expr} {kk : Nat} {tpos : Pos} {b b' : Bool} {a a' z TI TO i1 i2 : Addr} (D : ZipSep2 z TI TO i1 i2 [i1, a] [i2, a']) (h1 : a ≠ i1) (h2 : a' ≠ i2) :
    Turn P w K (.Tuple elts kk tpos) (Itz2 K b a b' a') [z, TI, TO, i1, i2] z (fun i h => IsZip h z TI TO .none ∧ IsTupOf2 h TI (.ref i1) (.ref i2) ∧ (∃ x y, IsTupOf2 h TO x y) ∧ SIter b h i1 a i ∧ SIter b' h i2 a' i) where
  mem := by simp
  obj := fun i h st c hc => by
    obtain ⟨hz, hTI, ⟨x, y, hTO⟩, q1, q2⟩ := st
    have e' : c = z ∨ c = TI ∨ c = TO ∨ c = i1 ∨ c = i2 := by simpa using hc
    rcases e' with q | q | q | q | q
    · rw [q]; exact ⟨_, hz, fun v q => nomatch q⟩
    · rw [q]; exact ⟨_, hTI, fun v q => nomatch q⟩
    · rw [q]; exact ⟨_, hTO, fun v q => nomatch q⟩
    · rw [q]; exact q1.obj
    · rw [q]; exact q2.obj
  keep := fun i h h' st k => by
    obtain ⟨hz, hTI, ⟨x, y, hTO⟩, q1, q2⟩ := st
    exact ⟨k z (by simp) _ hz, k TI (by simp) _ hTI, ⟨x, y, k TO (by simp) _ hTO⟩, q1.at fun o q => k i1 (by simp) o q, q2.at fun o q => k i2 (by simp) o q⟩
  item := by
    intro X hP hw hK hc i pins s σ H E I hf st hg
    subst hP hw hK
    obtain ⟨hz, hTI, ⟨x0, y0, hTO⟩, q1, q2⟩ := st
    obtain ⟨xs, ys, x, y, hqx, hqy, hx, hy⟩ := hg
    obtain ⟨its, rv, p⟩ := I.sq hqx
    obtain ⟨its2, rv2, p2⟩ := I.sq hqy
    obtain ⟨u, hu, ru⟩ := rv.get hx
    obtain ⟨u2, hu2, ru2⟩ := rv2.get hy
    have hh : X.A.in1.handled = none := I.ok.hd hc
    have W := GoesN.zip2 (prog := X.prog) (w := X.w) (A := X.A) (elts := elts) (x1 := kk) (pos := tpos) D (sDraws hh b i1 a h1 its.toArray) (sDraws hh b' i2 a' h2 its2.toArray)
    have hi : i < min its.toArray.size its2.toArray.size := by
      have l1 := (List.getElem?_eq_some_iff.mp hu).1
      have l2 := (List.getElem?_eq_some_iff.mp hu2).1
      rw [List.size_toArray, List.size_toArray]; omega
    refine W.goes i s _ E hi ⟨hz, hTI, ⟨x0, y0, hTO⟩, ⟨q1, p⟩, ⟨q2, p2⟩⟩ fun v h' tk hY st' hk htk => ?_
    obtain ⟨T, w1, w2, rfl, hT, e1, e2, hTup⟩ := hY
    have e1' : w1 = u := by simpa [hu] using e1.symm
    have e2' : w2 = u2 := by simpa [hu2] using e2.symm
    subst e1' e2'
    obtain ⟨hz', hTI', hTO', ⟨q1', _⟩, ⟨q2', _⟩⟩ := st'
    have new : ObjOk X.prog X.w (upd H T (.tup [x, y])) h' T (.tup [x, y]) := ⟨by show 2 ≤ sizeLine; decide, [w1, w2], .cons ru (.cons ru2 .nil), hTup⟩
    have I1 : Inv X pins σ (upd H T (.tup [x, y])) { s with heap := h', toks := tk } := I.turnedNew (ch := [z, TI, TO, i1, i2]) (fun c o hb q => hk c o (fun q' => hb (by
      have : c = z ∨ c = TO ∨ c = i1 ∨ c = i2 := by simpa using q'
      simp; rcases this with r | r | r | r <;> simp [r])) q) hf hT new
    refine ⟨.ref T, _, I1, rfl, ⟨T, x, y, rfl, I.hok.fresh hT, rfl, fun l hl => by rw [I.sq_inj hl hqx]; exact hx, fun l hl => by rw [I.sq_inj hl hqy]; exact hy⟩, ⟨hz', hTI', hTO', q1', q2'⟩, fun c hcm => ?_⟩
    have hlt : c < s.heap.objs.size := by
      have e' : c = z ∨ c = TI ∨ c = TO ∨ c = i1 ∨ c = i2 := by simpa using hcm
      rcases e' with q | q | q | q | q
      · rw [q]; exact Heap.lt_size hz
      · rw [q]; exact Heap.lt_size hTI
      · rw [q]; exact Heap.lt_size hTO
      · rw [q]; obtain ⟨_, e1, _⟩ := q1.obj; exact Heap.lt_size e1
      · rw [q]; obtain ⟨_, e2, _⟩ := q2.obj; exact Heap.lt_size e2
    rw [upd_ne (fun z => by rw [z] at hlt; exact absurd (Nat.lt_of_lt_of_le hlt hT) (Nat.lt_irrefl _))]
    exact (hf c hcm).1
  done := by
    intro X hP hw hK hc i pins s σ H E I hf st hg
    subst hP hw hK
    obtain ⟨hz, hTI, ⟨x0, y0, hTO⟩, q1, q2⟩ := st
    obtain ⟨xs, ys, hqx, hqy, hend⟩ := hg
    obtain ⟨its, rv, p⟩ := I.sq hqx
    obtain ⟨its2, rv2, p2⟩ := I.sq hqy
    have hh : X.A.in1.handled = none := I.ok.hd hc
    have W := GoesN.zip2 (prog := X.prog) (w := X.w) (A := X.A) (elts := elts) (x1 := kk) (pos := tpos) D (sDraws hh b i1 a h1 its.toArray) (sDraws hh b' i2 a' h2 its2.toArray)
    have hi : i = min its.toArray.size its2.toArray.size := by
      rw [List.size_toArray, List.size_toArray, ← rv.length, ← rv2.length]; exact hend
    subst hi
    refine W.stops s (fun s1 => Inv X pins σ H s1) E ⟨hz, hTI, ⟨x0, y0, hTO⟩, ⟨q1, p⟩, ⟨q2, p2⟩⟩ fun h' tk hk htk => ?_
    exact I.turnedL (ch := [z, TI, TO, i1, i2]) (fun c o hb q => hk c o (fun q' => hb (by
      have : c = z ∨ c = TO ∨ c = i1 ∨ c = i2 := by simpa using q'
      simp; rcases this with r | r | r | r <;> simp [r])) q) hf
  self := fun A i s Q E st h => wpAny_pyIter_zip st.1 h

/-! ### three -/
def Itz3 (K : PySem.W.Frag) (b : Bool) (a : Addr) (b' : Bool) (a' : Addr) (b'' : Bool) (a'' : Addr) : It :=
  ⟨fun i H => ∃ (xs ys zs : List V) (x y z : V), Sq K H b a xs ∧ Sq K H b' a' ys ∧ Sq K H b'' a'' zs ∧ xs[i]? = some x ∧ ys[i]? = some y ∧ zs[i]? = some z,
    fun i H v H' => ∃ T x y z, v = .ref T ∧ H T = none ∧ H' = upd H T (.tup [x, y, z]) ∧ (∀ xs, Sq K H b a xs → xs[i]? = some x) ∧ (∀ ys, Sq K H b' a' ys → ys[i]? = some y) ∧ ∀ zs, Sq K H b'' a'' zs → zs[i]? = some z,
    fun i H => ∃ xs ys zs : List V, Sq K H b a xs ∧ Sq K H b' a' ys ∧ Sq K H b'' a'' zs ∧ i = min (min xs.length ys.length) zs.length⟩
theorem turn_z3 {P : Program} {w : World} {K : PySem.W.Frag} {elts : List Expr} {kk : Nat} {tpos : Pos} {b b' b'' : Bool} {a a' a'' z TI TO i1 i2 i3 : Addr} (D : ZipSep3 z TI TO i1 i2 i3 [i1, a] [i2, a'] [i3, a'']) (h1 : a ≠ i1) (h2 : a' ≠ i2) (h3 : a'' ≠ i3) :
    Turn P w K (.Tuple elts kk tpos) (Itz3 K b a b' a' b'' a'') [z, TI, TO, i1, i2, i3] z (fun i h => IsZip h z TI TO .none ∧ IsTupOf3 h TI (.ref i1) (.ref i2) (.ref i3) ∧ (∃ x y u, IsTupOf3 h TO x y u) ∧ SIter b h i1 a i ∧ SIter b' h i2 a' i ∧ SIter b'' h i3 a'' i) where
  mem := by simp
  obj := fun i h st c hc => by
    obtain ⟨hz, hTI, ⟨x, y, u, hTO⟩, q1, q2, q3⟩ := st
    have e' : c = z ∨ c = TI ∨ c = TO ∨ c = i1 ∨ c = i2 ∨ c = i3 := by simpa using hc
    rcases e' with q | q | q | q | q | q
    · rw [q]; exact ⟨_, hz, fun v q => nomatch q⟩
    · rw [q]; exact ⟨_, hTI, fun v q => nomatch q⟩
    · rw [q]; exact ⟨_, hTO, fun v q => nomatch q⟩
    · rw [q]; exact q1.obj
    · rw [q]; exact q2.obj
    · rw [q]; exact q3.obj
  keep := fun i h h' st k => by
    obtain ⟨hz, hTI, ⟨x, y, u, hTO⟩, q1, q2, q3⟩ := st
    exact ⟨k z (by simp) _ hz, k TI (by simp) _ hTI, ⟨x, y, u, k TO (by simp) _ hTO⟩, q1.at fun o q => k i1 (by simp) o q, q2.at fun o q => k i2 (by simp) o q, q3.at fun o q => k i3 (by simp) o q⟩
  item := by
    intro X hP hw hK hc i pins s σ H E I hf st hg
    subst hP hw hK
    obtain ⟨hz, hTI, ⟨x0, y0, z0, hTO⟩, q1, q2, q3⟩ := st
    obtain ⟨xs, ys, zs, x, y, z', hqx, hqy, hqz, hx, hy, hz'⟩ := hg
    obtain ⟨its, rv, p⟩ := I.sq hqx
    obtain ⟨its2, rv2, p2⟩ := I.sq hqy
    obtain ⟨its3, rv3, p3⟩ := I.sq hqz
    obtain ⟨u, hu, ru⟩ := rv.get hx
    obtain ⟨u2, hu2, ru2⟩ := rv2.get hy
    obtain ⟨u3, hu3, ru3⟩ := rv3.get hz'
    have hh : X.A.in1.handled = none := I.ok.hd hc
    have W := GoesN.zip3 (prog := X.prog) (w := X.w) (A := X.A) (elts := elts) (x1 := kk) (pos := tpos) D (sDraws hh b i1 a h1 its.toArray) (sDraws hh b' i2 a' h2 its2.toArray) (sDraws hh b'' i3 a'' h3 its3.toArray)
    have hi : i < min (min its.toArray.size its2.toArray.size) its3.toArray.size := by
      have l1 := (List.getElem?_eq_some_iff.mp hu).1
      have l2 := (List.getElem?_eq_some_iff.mp hu2).1
      have l3 := (List.getElem?_eq_some_iff.mp hu3).1
      rw [List.size_toArray, List.size_toArray, List.size_toArray]; omega
    refine W.goes i s _ E hi ⟨hz, hTI, ⟨x0, y0, z0, hTO⟩, ⟨q1, p⟩, ⟨q2, p2⟩, ⟨q3, p3⟩⟩ fun v h' tk hY st' hk htk => ?_
    obtain ⟨T, w1, w2, w3, rfl, hT, e1, e2, e3, hTup⟩ := hY
    have e1' : w1 = u := by simpa [hu] using e1.symm
    have e2' : w2 = u2 := by simpa [hu2] using e2.symm
    have e3' : w3 = u3 := by simpa [hu3] using e3.symm
    subst e1' e2' e3'
    obtain ⟨hz', hTI', hTO', ⟨q1', _⟩, ⟨q2', _⟩, ⟨q3', _⟩⟩ := st'
    have new : ObjOk X.prog X.w (upd H T (.tup [x, y, z'])) h' T (.tup [x, y, z']) := ⟨by show 3 ≤ sizeLine; decide, [w1, w2, w3], .cons ru (.cons ru2 (.cons ru3 .nil)), hTup⟩
    have I1 : Inv X pins σ (upd H T (.tup [x, y, z'])) { s with heap := h', toks := tk } := I.turnedNew (ch := [z, TI, TO, i1, i2, i3]) (fun c o hb q => hk c o (fun q' => hb (by
      have : c = z ∨ c = TO ∨ c = i1 ∨ c = i2 ∨ c = i3 := by simpa using q'
      simp; rcases this with r | r | r | r | r <;> simp [r])) q) hf hT new
    refine ⟨.ref T, _, I1, rfl, ⟨T, x, y, z', rfl, I.hok.fresh hT, rfl, fun l hl => by rw [I.sq_inj hl hqx]; exact hx, fun l hl => by rw [I.sq_inj hl hqy]; exact hy, fun l hl => by rw [I.sq_inj hl hqz]; exact ‹zs[i]? = some z'›⟩, ⟨hz', hTI', hTO', q1', q2', q3'⟩, fun c hcm => ?_⟩
    have hlt : c < s.heap.objs.size := by
      have e' : c = z ∨ c = TI ∨ c = TO ∨ c = i1 ∨ c = i2 ∨ c = i3 := by simpa using hcm
      rcases e' with q | q | q | q | q | q
      · rw [q]; exact Heap.lt_size hz
      · rw [q]; exact Heap.lt_size hTI
      · rw [q]; exact Heap.lt_size hTO
      · rw [q]; obtain ⟨_, e1, _⟩ := q1.obj; exact Heap.lt_size e1
      · rw [q]; obtain ⟨_, e2, _⟩ := q2.obj; exact Heap.lt_size e2
      · rw [q]; obtain ⟨_, e3, _⟩ := q3.obj; exact Heap.lt_size e3
    rw [upd_ne (fun z => by rw [z] at hlt; exact absurd (Nat.lt_of_lt_of_le hlt hT) (Nat.lt_irrefl _))]
    exact (hf c hcm).1
  done := by
    intro X hP hw hK hc i pins s σ H E I hf st hg
    subst hP hw hK
    obtain ⟨hz, hTI, ⟨x0, y0, z0, hTO⟩, q1, q2, q3⟩ := st
    obtain ⟨xs, ys, zs, hqx, hqy, hqz, hend⟩ := hg
    obtain ⟨its, rv, p⟩ := I.sq hqx
    obtain ⟨its2, rv2, p2⟩ := I.sq hqy
    obtain ⟨its3, rv3, p3⟩ := I.sq hqz
    have hh : X.A.in1.handled = none := I.ok.hd hc
    have W := GoesN.zip3 (prog := X.prog) (w := X.w) (A := X.A) (elts := elts) (x1 := kk) (pos := tpos) D (sDraws hh b i1 a h1 its.toArray) (sDraws hh b' i2 a' h2 its2.toArray) (sDraws hh b'' i3 a'' h3 its3.toArray)
    have hi : i = min (min its.toArray.size its2.toArray.size) its3.toArray.size := by
      rw [List.size_toArray, List.size_toArray, List.size_toArray, ← rv.length, ← rv2.length, ← rv3.length]; exact hend
    subst hi
    refine W.stops s (fun s1 => Inv X pins σ H s1) E ⟨hz, hTI, ⟨x0, y0, z0, hTO⟩, ⟨q1, p⟩, ⟨q2, p2⟩, ⟨q3, p3⟩⟩ fun h' tk hk htk => ?_
    exact I.turnedL (ch := [z, TI, TO, i1, i2, i3]) (fun c o hb q => hk c o (fun q' => hb (by
      have : c = z ∨ c = TO ∨ c = i1 ∨ c = i2 ∨ c = i3 := by simpa using q'
      simp; rcases this with r | r | r | r | r <;> simp [r])) q) hf
  self := fun A i s Q E st h => wpAny_pyIter_zip st.1 h

/-! ### counted -/
def ItE (K : PySem.W.Frag) (b : Bool) (a : Addr) : It :=
  ⟨fun i H => ∃ (xs : List V) (x : V), Sq K H b a xs ∧ xs[i]? = some x,
    fun i H v H' => ∃ T x, v = .ref T ∧ H T = none ∧ H' = upd H T (.tup [.int i, x]) ∧ ∀ xs, Sq K H b a xs → xs[i]? = some x,
    fun i H => ∃ xs : List V, Sq K H b a xs ∧ i = xs.length⟩
theorem turn_E {P : Program} {w : World} {K : PySem.W.Frag} {elts : List Expr} {kk : Nat} {tpos : Pos} {b : Bool} {a e i1 : Addr} (hei : e ≠ i1) (hea : e ≠ a) (h1 : a ≠ i1) :
    Turn P w K (.Tuple elts kk tpos) (ItE K b a) [e, i1] e (fun i h => (∃ old, IsEnum h e i1 ((0 : Int) + (i : Int)) old) ∧ SIter b h i1 a i) where
  mem := by simp
  obj := fun i h st c hc => by
    obtain ⟨⟨old, he⟩, q1⟩ := st
    have e' : c = e ∨ c = i1 := by simpa using hc
    rcases e' with q | q
    · rw [q]; exact ⟨_, he, fun v q => nomatch q⟩
    · rw [q]; exact q1.obj
  keep := fun i h h' st k => by
    obtain ⟨⟨old, he⟩, q1⟩ := st
    exact ⟨⟨old, k e (by simp) _ he⟩, q1.at fun o q => k i1 (by simp) o q⟩
  item := by
    intro X hP hw hK hc i pins s σ H E I hf st hg
    subst hP hw hK
    obtain ⟨⟨old, he⟩, q1⟩ := st
    obtain ⟨xs, x, hqx, hx⟩ := hg
    obtain ⟨its, rv, p⟩ := I.sq hqx
    obtain ⟨u, hu, ru⟩ := rv.get hx
    have hh : X.A.in1.handled = none := I.ok.hd hc
    have hef : e ∉ [i1, a] := by simp; exact ⟨hei, hea⟩
    have W := GoesN.enumFrom (prog := X.prog) (w := X.w) (A := X.A) (elts := elts) (x1 := kk) (pos := tpos) 0 (sDraws hh b i1 a h1 its.toArray) e hei hef (by simp)
    have hi : i < its.toArray.size := by
      have l1 := (List.getElem?_eq_some_iff.mp hu).1
      rw [List.size_toArray]; exact l1
    refine W.goes i s _ E hi ⟨⟨old, he⟩, ⟨q1, p⟩⟩ fun v h' tk hY st' hk htk => ?_
    obtain ⟨T, t, w1, rfl, hT, e1, hTup⟩ := hY
    have e1' : w1 = u := by simpa [hu] using e1.symm
    subst e1'
    obtain ⟨he', ⟨q1', _⟩⟩ := st'
    have new : ObjOk X.prog X.w (upd H T (.tup [.int i, x])) h' T (.tup [.int i, x]) := ⟨by show 2 ≤ sizeLine; decide, [.int (0 + (i : Int)) t, w1], .cons ⟨t, by rw [Int.zero_add]⟩ (.cons ru .nil), hTup⟩
    have I1 : Inv X pins σ (upd H T (.tup [.int i, x])) { s with heap := h', toks := tk } := I.turnedNew (ch := [e, i1]) (fun c o hb q => hk c o hb q) hf hT new
    refine ⟨.ref T, _, I1, rfl, ⟨T, x, rfl, I.hok.fresh hT, rfl, fun l hl => by rw [I.sq_inj hl hqx]; exact hx⟩, ⟨he', q1'⟩, fun c hcm => ?_⟩
    have hlt : c < s.heap.objs.size := by
      have e' : c = e ∨ c = i1 := by simpa using hcm
      rcases e' with q | q
      · rw [q]; exact Heap.lt_size he
      · rw [q]; obtain ⟨_, e1, _⟩ := q1.obj; exact Heap.lt_size e1
    rw [upd_ne (fun z => by rw [z] at hlt; exact absurd (Nat.lt_of_lt_of_le hlt hT) (Nat.lt_irrefl _))]
    exact (hf c hcm).1
  done := by
    intro X hP hw hK hc i pins s σ H E I hf st hg
    subst hP hw hK
    obtain ⟨⟨old, he⟩, q1⟩ := st
    obtain ⟨xs, hqx, hend⟩ := hg
    obtain ⟨its, rv, p⟩ := I.sq hqx
    have hh : X.A.in1.handled = none := I.ok.hd hc
    have hef : e ∉ [i1, a] := by simp; exact ⟨hei, hea⟩
    have W := GoesN.enumFrom (prog := X.prog) (w := X.w) (A := X.A) (elts := elts) (x1 := kk) (pos := tpos) 0 (sDraws hh b i1 a h1 its.toArray) e hei hef (by simp)
    have hi : i = its.toArray.size := by
      rw [List.size_toArray, ← rv.length]; exact hend
    subst hi
    refine W.stops s (fun s1 => Inv X pins σ H s1) E ⟨⟨old, he⟩, ⟨q1, p⟩⟩ fun h' tk hk htk => ?_
    exact I.turnedL (ch := [e, i1]) (fun c o hb q => hk c o hb q) hf
  self := fun A i s Q E st h => let ⟨⟨_, he⟩, _⟩ := st; wpAny_pyIter_enum he h

set_option maxHeartbeats 1000000 in
theorem meets_enumerate_newB1 {v : Value} {o : Obj} {H : Heap → Prop} (B : Begins v o H) :
    Meets (Builtin.«enumerate.__new__» ⟨[.type "enumerate", v], []⟩) (fun _ R s => H s.heap ∧
      R (.ok (.ret (.ref (s.heap.push o).objs.size))) { s with heap := (s.heap.push o).push { cls := .type "enumerate", data := .fields #[.none, .bool false, .ref s.heap.objs.size, rawInt 0, .none, .none] } }) :=
  .of_wp fun prog w A R s h => by
    obtain ⟨hp, g, d, tk, os⟩ := s; obtain ⟨h1, h⟩ := h
    have hsub := sub_enumerate
    have q1 : ∀ {A' : Around} {E : Value → Shared → Prop} {Q : Value → Shared → Prop}, Q (.ref hp.objs.size) ⟨hp.push o, g, d, tk, os⟩ → wpAny (model prog w) A' (pyIter v) Q E ⟨hp, g, d, tk, os⟩ :=
      fun q => B.iter prog w _ _ ⟨hp, g, d, tk, os⟩ _ h1 q
    wp_walk using q1
    refine wpAny_stack_any fun st => wpAny_pure ?_
    split
    · rename_i c _ _ _ _ _
      cases (c == Value.type "enumerate")
      · wp_walk using q1
        exact ⟨_, rfl, h⟩
      · wp_walk using q1
        exact ⟨_, rfl, h⟩
    · wp_walk using q1
      exact ⟨_, rfl, h⟩
theorem enum_begins1 {prog : Program} {w : World} {A : Around} {E : Value → Shared → Prop} {s : Shared} {v : Value} {o : Obj} {H : Heap → Prop} {Q : Value → Shared → Prop} (B : Begins v o H) (h1 : H s.heap)
    (h : ∀ h', IsEnum h' (s.heap.objs.size + 1) s.heap.objs.size 0 .none → h'.get? s.heap.objs.size = some o → h'.objs.size = s.heap.objs.size + 2 →
      (∀ b o, s.heap.get? b = some o → h'.get? b = some o) → Q (.ref (s.heap.objs.size + 1)) { s with heap := h' }) :
    wpAny (model prog w) A (call (.type "enumerate") [v]) Q E s := by
  refine callType_new F.called_enumerate (by decide) (F.typeCall_enumerate_1 _) (F.newCall_enumerate_1 _) (fun obj => F.args_object_init_2 obj _) F.entry_enumerate_new
    (meets_enumerate_newB1 B) ⟨h1, ?_⟩
  have hz : (s.heap.push o).objs.size = s.heap.objs.size + 1 := Heap.size_push ..
  show _ ∧ _
  rw [hz]
  have he : IsEnum ((s.heap.push o).push { cls := .type "enumerate", data := .fields #[.none, .bool false, .ref s.heap.objs.size, rawInt 0, .none, .none] }) (s.heap.objs.size + 1) s.heap.objs.size 0 .none := by
    have := Heap.get?_push_size (s.heap.push o) (o := { cls := .type "enumerate", data := .fields #[.none, .bool false, .ref s.heap.objs.size, rawInt 0, .none, .none] }) rfl
    rw [hz] at this; exact this
  refine ⟨⟨_, he, rfl⟩, h _ he (Heap.get?_push_of_some _ (Heap.get?_push_size _ B.free)) (by rw [Heap.size_push, hz]) fun b o x => Heap.get?_push_of_some _ (Heap.get?_push_of_some _ x)⟩
end L2

set_option Elab.async false
set_option linter.all false
set_option maxRecDepth 100000
/-! D2: iterators over data. -/
namespace G
open PySem L2
section
variable (K : PySem.W.Frag) (N : Nms)
/-- what is hidden within: the same, or one new list more -/
def Hs (η : List Addr) (H0 : Hp) (η' : List Addr) : Prop := η' = η ∨ ∃ L, η' = L :: η ∧ H0 L = none
def SrcOk (η ι : List Addr) (H : Hp) (d : D) (b : Bool) (a : Addr) : Prop := ∀ η', Hs η H η' → ∀ ι' H' st', Post ι H ι' H' → RelSt K (N.h η') ι' H' st' → ∀ xs, items? st' d = some xs → ∃ vs, Sq K H' b a vs ∧ rels K (N.h η') ι' H' xs vs
def ItOK (η ι0 : List Addr) (H0 : Hp) (k : IK) (ds : List D) (J : It) : Prop := ∀ η', Hs η H0 η' → ∀ ι H st, Post ι0 H0 ι H → RelSt K (N.h η') ι H st → ∀ i,
  (∀ d, itAt st k ds i = some (some d) → J.go i H ∧ ∀ x H', J.yld i H x H' → Post ι H ι H' ∧ RelSt K (N.h η') ι H' st ∧ rel K (N.h η') ι H' d x) ∧
  (itOk st k ds = true → i = itLen st k ds → J.stop i H)
def tIt (W : WX) (k : IK) (m : Env' → Store → R (List D)) : TI := fun σ H R => ∃ η ι ρ st, RelSt K (N.h η) ι H st ∧ relE K (N.h η) ι H ρ σ ∧
  Fin K (N.h η) ι H (m ρ st) (fun ι' H' st' ds => itOk st' k ds = true ∧ ∀ J, ItOK K N η ι' H' k ds J → R J H') (EW W)
end
section
variable {K : PySem.W.Frag} {N : Nms} {ι ι' : List Addr} {H H' : Hp} {st st' : Store}
theorem rels.hs {η η' : List Addr} {l : List D} {xs : List V} (h : rels K (N.h η) ι H l xs) (q : Hs η H η') : rels K (N.h η') ι H l xs := by
  rcases q with rfl | ⟨L, rfl, n⟩
  · exact h
  · exact h.hide n
theorem src_later {η : List Addr} {d : D} {v : V} (r : RelSt K (N.h η) ι H st) (h : rel K (N.h η) ι H d v) (e : (items? st d).isSome = true) :
    ∃ b a, v = .ref a ∧ SrcOk K N η ι H d b a := by
  cases d with
  | tup l =>
    obtain ⟨a, xs, rfl, h1, h2⟩ := h
    refine ⟨false, a, rfl, fun η' hη ι' H' st' p r' ys e => ?_⟩
    cases e
    exact ⟨xs, SqT.post r p h1, (h2.hs hη).post r p⟩
  | lst l =>
    obtain ⟨a, xs, rfl, h1, h3, h2⟩ := h
    refine ⟨true, a, rfl, fun η' hη ι' H' st' p r' ys e => ?_⟩
    cases e
    exact ⟨xs, SqL.of (p.keep _ _ h1 h3.1), (h2.hs hη).post r p⟩
  | ro l =>
    obtain ⟨a, xs, rfl, h1, h2⟩ := h
    refine ⟨true, a, rfl, fun η' hη ι' H' st' p r' ys e => ?_⟩
    cases e
    exact ⟨xs, (h1.post r p).sq, (h2.hs hη).post r p⟩
  | loc n =>
    obtain ⟨a, rfl, h1⟩ := h
    refine ⟨true, a, rfl, fun η' hη ι' H' st' p r' ys e => ?_⟩
    simp only [items?] at e
    split at e
    · rename_i l hl
      cases e
      obtain ⟨ho, h2, xs, rfl, q⟩ := r'.get (p.get h1) hl
      exact ⟨xs, SqL.of h2, q⟩
    · cases e
  | _ => exact nomatch e
theorem srcAt_some {d : D} {i : Nat} {x : D} (h : srcAt st d i = some (some x)) : ∃ xs, items? st d = some xs ∧ xs[i]? = some x := by
  unfold srcAt at h
  split at h
  · rename_i xs e; exact ⟨xs, e, by simpa using h⟩
  · cases h
theorem srcLen_of {d : D} {xs : List D} (h : items? st d = some xs) : srcLen st d = xs.length := by unfold srcLen; rw [h]
/-- an item of a source, in the heap -/
theorem src_item {d x : D} {b : Bool} {a : Addr} {i : Nat} (h : ∀ xs, items? st d = some xs → ∃ vs, Sq K H b a vs ∧ rels K N ι H xs vs) (e : srcAt st d i = some (some x)) :
    ∃ vs v, Sq K H b a vs ∧ vs[i]? = some v ∧ rel K N ι H x v := by
  obtain ⟨xs, e1, e2⟩ := srcAt_some e
  obtain ⟨vs, h1, h2⟩ := h xs e1
  obtain ⟨v, h3, h4⟩ := h2.get e2
  exact ⟨vs, v, h1, h3, h4⟩
theorem pair_mk {T : Addr} {xs : List V} {ds : List D} (r : RelSt K N ι H st) (n : H T = none) (q : rels K N ι H ds xs) : Post ι H ι (upd H T (.tup xs)) ∧ RelSt K N ι (upd H T (.tup xs)) st ∧ rel K N ι (upd H T (.tup xs)) (.tup ds) (.ref T) :=
  ⟨.laid n, r.laid n, .tup_mk upd_same (q.post r (.laid n))⟩
theorem itok_one {η : List Addr} {d : D} {b : Bool} {a : Addr} (h : SrcOk K N η ι H d b a) : ItOK K N η ι H .one [d] (ItS K b a) := by
  intro η' hη ι' H' st' p r i
  have hs := h η' hη ι' H' st' p r
  refine ⟨fun x e => ?_, fun ok e => ?_⟩
  · obtain ⟨vs, v, h1, h2, h3⟩ := src_item hs (show srcAt st' d i = some (some x) from e)
    cases b with
    | true => exact ⟨⟨vs, v, h1, h2⟩, fun y H2 ⟨e1, e2⟩ => by
        subst e1
        have := e2 vs h1
        rw [h2] at this
        cases this
        exact ⟨.refl, r, h3⟩⟩
    | false => exact ⟨⟨vs, v, h1, h2⟩, fun y H2 ⟨e1, e2⟩ => by
        subst e1
        have := e2 vs h1
        rw [h2] at this
        cases this
        exact ⟨.refl, r, h3⟩⟩
  · obtain ⟨xs, e1⟩ := Option.isSome_iff_exists.mp (show (items? st' d).isSome = true from ok)
    obtain ⟨vs, h1, h2⟩ := hs xs e1
    have hl : vs.length ≤ i := by rw [e, ← h2.length]; exact Nat.le_of_eq (srcLen_of e1).symm
    cases b with
    | true => exact ⟨vs, h1, hl⟩
    | false => exact ⟨vs, h1, hl⟩
theorem itok_enum {η : List Addr} {d : D} {b : Bool} {a : Addr} (h : SrcOk K N η ι H d b a) : ItOK K N η ι H .enum [d] (ItE K b a) := by
  intro η' hη ι' H' st' p r i
  have hs := h η' hη ι' H' st' p r
  refine ⟨fun x e => ?_, fun ok e => ?_⟩
  · simp only [itAt] at e
    split at e
    · rename_i y ey
      cases e
      obtain ⟨vs, v, h1, h2, h3⟩ := src_item hs ey
      refine ⟨⟨vs, v, h1, h2⟩, fun z H2 ⟨T, w, e1, e2, e3, e4⟩ => ?_⟩
      subst e1 e3
      have := e4 vs h1
      rw [h2] at this
      cases this
      exact pair_mk r e2 (.two rfl h3)
    · cases e
    · cases e
  · obtain ⟨xs, e1⟩ := Option.isSome_iff_exists.mp (show (items? st' d).isSome = true from ok)
    obtain ⟨vs, h1, h2⟩ := hs xs e1
    exact ⟨vs, h1, by rw [e, ← h2.length]; exact srcLen_of e1⟩
theorem itok_zip2 {η : List Addr} {d e : D} {b b' : Bool} {a a' : Addr} (h : SrcOk K N η ι H d b a)
    (h' : SrcOk K N η ι H e b' a') : ItOK K N η ι H .zip [d, e] (Itz2 K b a b' a') := by
  intro η' hη ι' H' st' p r i
  have hs := h η' hη ι' H' st' p r
  have hs' := h' η' hη ι' H' st' p r
  refine ⟨fun x q => ?_, fun ok q => ?_⟩
  · cases e1 : srcAt st' d i with
    | none => simp [itAt, zipAt, e1] at q
    | some o1 =>
      cases e2 : srcAt st' e i with
      | none => simp [itAt, zipAt, e1, e2] at q
      | some o2 =>
        cases o1 with
        | none => cases o2 <;> simp [itAt, zipAt, e1, e2] at q
        | some x1 =>
          cases o2 with
          | none => simp [itAt, zipAt, e1, e2] at q
          | some x2 =>
            simp [itAt, zipAt, e1, e2] at q
            subst q
            obtain ⟨vs, v, h1, h2, h3⟩ := src_item hs e1
            obtain ⟨us, u, g1, g2, g3⟩ := src_item hs' e2
            refine ⟨⟨vs, us, v, u, h1, g1, h2, g2⟩, fun z H2 ⟨T, w1, w2, z1, z2, z3, z4, z5⟩ => ?_⟩
            subst z1 z3
            have a1 := z4 vs h1
            have a2 := z5 us g1
            rw [h2] at a1
            rw [g2] at a2
            cases a1
            cases a2
            exact pair_mk r z2 (.two h3 g3)
  · simp only [itOk, Bool.and_eq_true] at ok
    obtain ⟨xs, e1⟩ := Option.isSome_iff_exists.mp ok.1
    obtain ⟨ys, e2⟩ := Option.isSome_iff_exists.mp ok.2
    obtain ⟨vs, h1, h2⟩ := hs xs e1
    obtain ⟨us, g1, g2⟩ := hs' ys e2
    refine ⟨vs, us, h1, g1, ?_⟩
    rw [q, ← h2.length, ← g2.length]
    simp [itLen, srcLen_of e1, srcLen_of e2]
theorem itok_zip3 {η : List Addr} {d e f : D} {b b' b'' : Bool} {a a' a'' : Addr} (h : SrcOk K N η ι H d b a)
    (h' : SrcOk K N η ι H e b' a')
    (h'' : SrcOk K N η ι H f b'' a'') : ItOK K N η ι H .zip [d, e, f] (Itz3 K b a b' a' b'' a'') := by
  intro η' hη ι' H' st' p r i
  have hs := h η' hη ι' H' st' p r
  have hs' := h' η' hη ι' H' st' p r
  have hs'' := h'' η' hη ι' H' st' p r
  refine ⟨fun x q => ?_, fun ok q => ?_⟩
  · cases e1 : srcAt st' d i with
    | none => simp [itAt, zipAt, e1] at q
    | some o1 =>
      cases e2 : srcAt st' e i with
      | none => simp [itAt, zipAt, e1, e2] at q
      | some o2 =>
        cases e3 : srcAt st' f i with
        | none => simp [itAt, zipAt, e1, e2, e3] at q
        | some o3 =>
          cases o1 with
          | none => cases o2 <;> cases o3 <;> simp [itAt, zipAt, e1, e2, e3] at q
          | some x1 =>
            cases o2 with
            | none => cases o3 <;> simp [itAt, zipAt, e1, e2, e3] at q
            | some x2 =>
              cases o3 with
              | none => simp [itAt, zipAt, e1, e2, e3] at q
              | some x3 =>
                simp [itAt, zipAt, e1, e2, e3] at q
                subst q
                obtain ⟨vs, v, h1, h2, h3⟩ := src_item hs e1
                obtain ⟨us, u, g1, g2, g3⟩ := src_item hs' e2
                obtain ⟨ws, w, k1, k2, k3⟩ := src_item hs'' e3
                refine ⟨⟨vs, us, ws, v, u, w, h1, g1, k1, h2, g2, k2⟩, fun z H2 ⟨T, w1, w2, w3, z1, z2, z3, z4, z5, z6⟩ => ?_⟩
                subst z1 z3
                have a1 := z4 vs h1
                have a2 := z5 us g1
                have a3 := z6 ws k1
                rw [h2] at a1
                rw [g2] at a2
                rw [k2] at a3
                cases a1
                cases a2
                cases a3
                exact pair_mk r z2 ⟨_, _, rfl, h3, .two g3 k3⟩
  · simp only [itOk, Bool.and_eq_true] at ok
    obtain ⟨xs, e1⟩ := Option.isSome_iff_exists.mp ok.1.1
    obtain ⟨ys, e2⟩ := Option.isSome_iff_exists.mp ok.1.2
    obtain ⟨zs, e3⟩ := Option.isSome_iff_exists.mp ok.2
    obtain ⟨vs, h1, h2⟩ := hs xs e1
    obtain ⟨us, g1, g2⟩ := hs' ys e2
    obtain ⟨ws, k1, k2⟩ := hs'' zs e3
    refine ⟨vs, us, ws, h1, g1, k1, ?_⟩
    rw [q, ← h2.length, ← g2.length, ← k2.length]
    simp [itLen, srcLen_of e1, srcLen_of e2, srcLen_of e3]
theorem itok_range1 {η : List Addr} {n : Int} : ItOK K N η ι H .range [.int n] (Itr 0 n.toNat) := by
  intro η' hη ι' H' st' p r i
  refine ⟨fun x q => ?_, fun ok q => ?_⟩
  · simp only [itAt] at q
    split at q
    · rename_i hi
      cases q
      exact ⟨hi, fun y H2 ⟨e1, e2⟩ => by subst e1 e2; exact ⟨.refl, r, by rw [Int.zero_add]; rfl⟩⟩
    · cases q
  · exact Nat.le_of_eq q.symm
theorem itok_range2 {η : List Addr} {n m : Int} : ItOK K N η ι H .range [.int n, .int m] (Itr n (m - n).toNat) := by
  intro η' hη ι' H' st' p r i
  refine ⟨fun x q => ?_, fun ok q => ?_⟩
  · simp only [itAt] at q
    split at q
    · rename_i hi
      cases q
      exact ⟨hi, fun y H2 ⟨e1, e2⟩ => by subst e1 e2; exact ⟨.refl, r, rfl⟩⟩
    · cases q
  · exact Nat.le_of_eq q.symm
end
end G

set_option Elab.async false
set_option linter.all false
set_option maxRecDepth 100000
/-! D3: what a for and a comprehension walk, as rules. -/
namespace G
open PySem PySem.Spec PyProof.Rows L2
section
variable {X : Cx} {N : Nms} {W : WX} {tg e e2 e3 : Expr} {p pos : Pos} {ma : Env' → Store → R D} {ms : Env' → Store → R (List D)}
theorem items_of_vals {pins : List (Addr × Obj)} {σ : L2.St} {H : Hp} {s : Shared} {ι : List Addr} {st : Store} {d : D} {v : V} {u : Value} {η : List Addr} (I : Inv X pins σ H s) (rs : RelSt X.K (N.h η) ι H st) (q : rel X.K (N.h η) ι H d v) (r : RelV v u) (e : (items? st d).isSome = true) :
    ∃ b a its, u = .ref a ∧ SIs b s.heap a its ∧ SrcOk X.K N η ι H d b a := by
  obtain ⟨b, a, rfl, h⟩ := src_later rs q e
  cases r
  obtain ⟨xs, e1⟩ := Option.isSome_iff_exists.mp e
  obtain ⟨vs, h1, _⟩ := h η (.inl rfl) ι H st .refl rs xs e1
  obtain ⟨its, _, h2⟩ := I.sq h1
  exact ⟨b, a, its.toArray, rfl, h2, h⟩
theorem s_it1 (he : PE X e (tE X.K N W ma)) : PI X tg e (tIt X.K N W .one fun ρ st => (ma ρ st).bind fun d st => (R.ok [] st).bind fun ds st => .ok (d :: ds) st) := by
  refine ⟨fun pins s σ H R I h => ?_⟩
  obtain ⟨η, ι, ρ, st, rs, re, f⟩ := h
  refine thn (he.run pins s σ H (fun v H1 => ∃ ι1 st1 d, RelSt X.K (N.h η) ι1 H1 st1 ∧ rel X.K (N.h η) ι1 H1 d v ∧ itOk st1 .one [d] = true ∧ ∀ J, ItOK X.K N η ι1 H1 .one [d] J → R J H1) I
    ⟨η, ι, ρ, st, rs, re, f.bind.imp fun ι1 H1 st1 d p1 r1 _ f1 v q1 => ⟨ι1, st1, d, r1, q1, (f1 ι1 H1 .refl r1).1, (f1 ι1 H1 .refl r1).2⟩⟩) fun u s1 ⟨v, H1, I1, r1, ι1, st1, d, q1, q2, q3, q4⟩ => ?_
  obtain ⟨b, a, its, rfl, h1, h2⟩ := items_of_vals I1 q1 q2 r1 q3
  have B := sBegins b a its
  refine B.iter _ _ _ _ s1 _ h1 ?_
  have e0 : (s1.heap.push (sObj b a)).get? s1.heap.objs.size = some (sObj b a) := Heap.get?_push_size _ B.free
  refine ⟨s1.heap.objs.size, [s1.heap.objs.size], _, _, H1, rfl, I1.kept (t' := s1.toks) fun b o e => Heap.get?_push_of_some _ e, turn_S b a _, sIter0 b a _ _ e0, fun c hc => ?_, q4 _ (itok_one h2)⟩
  have e : c = s1.heap.objs.size := by simpa using hc
  subst e
  exact I1.fpOk (Nat.le_refl _) (I1.hok.fresh (Nat.le_refl _))
theorem s_itE {elts : List Expr} {kk : Nat} {tpos : Pos} (hg : Gl X "enumerate") (hm : X.mg "enumerate" = none) (ha : PA X [e] (tA X.K N W ms)) (hl : ∀ ρ st ds st', ms ρ st = .ok ds st' → ds.length = 1) (hs : starEach [e] X.env = [(false, eval e X.env)]) :
    PI X (.Tuple elts kk tpos) (.Call (.Name "enumerate" p) [e] [] pos) (tIt X.K N W .enum ms) := by
  refine ⟨fun pins s σ H R I h => ?_⟩
  obtain ⟨η, ι, ρ, st, rs, re, f⟩ := h
  refine Call_ (ld_blt I hg hm boot_enumerate (PyProof.Rows.callWith_type1 (thn (ha.run pos pins s σ H (fun vs H1 => ∃ ι1 st1 ds, RelSt X.K (N.h η) ι1 H1 st1 ∧ rels X.K (N.h η) ι1 H1 ds vs ∧ ds.length = 1 ∧ itOk st1 .enum ds = true ∧ ∀ J, ItOK X.K N η ι1 H1 .enum ds J → R J H1) I
    ⟨η, ι, ρ, st, rs, re, f.imp fun ι1 H1 st1 ds p1 r1 er f1 vs q1 => ⟨ι1, st1, ds, r1, q1, hl _ _ _ _ er, f1.1, f1.2⟩⟩) fun us s1 ⟨vs, H1, I1, r1, ι1, st1, ds, q1, q2, q0, q3, q4⟩ => ?_) hs rfl))
  match ds, q0 with
  | [d], _ =>
    obtain ⟨v, vr, rfl, w1, w2⟩ := q2
    have : vr = [] := w2
    subst this
    cases r1 with
    | cons r rr =>
      cases rr
      obtain ⟨b, a, its, rfl, h1, h2⟩ := items_of_vals I1 q1 w1 r q3
      refine enum_begins1 (sBegins b a its) h1 fun h' he hit hsz hk => wpAny_pyIter_enum he ?_
      have I2 : Inv X pins σ H1 { s1 with heap := h' } := I1.kept (t' := s1.toks) hk
      have hlt : a < s1.heap.objs.size := h1.lt
      refine ⟨s1.heap.objs.size + 1, [s1.heap.objs.size + 1, s1.heap.objs.size], _, _, H1, rfl, I2, turn_E (b := b) (a := a) (Nat.succ_ne_self _) (by intro z; rw [← z] at hlt; exact absurd hlt (Nat.not_lt.mpr (Nat.le_succ _))) (Nat.ne_of_lt hlt), ⟨⟨.none, he⟩, sIter0 b a _ _ hit⟩, fun c hc => ?_, q4 _ (itok_enum h2)⟩
      have e' : c = s1.heap.objs.size + 1 ∨ c = s1.heap.objs.size := by simpa using hc
      have hle : s1.heap.objs.size ≤ c := by
        rcases e' with z | z
        · rw [z]; exact Nat.le_add_right _ _
        · rw [z]; exact Nat.le_refl _
      exact I1.fpOk hle (I1.hok.fresh hle)
theorem s_itZ2 {elts : List Expr} {kk : Nat} {tpos : Pos} (hg : Gl X "zip") (hm : X.mg "zip" = none) (ha : PA X [e, e2] (tA X.K N W ms)) (hl : ∀ ρ st ds st', ms ρ st = .ok ds st' → ds.length = 2)
    (hs : starEach [e, e2] X.env = (false, eval e X.env) :: starEach [e2] X.env) (hpl : (backTo pos (starEach [e2] X.env)).any (·.1) = false) :
    PI X (.Tuple elts kk tpos) (.Call (.Name "zip" p) [e, e2] [] pos) (tIt X.K N W .zip ms) := by
  refine ⟨fun pins s σ H R I h => ?_⟩
  obtain ⟨η, ι, ρ, st, rs, re, f⟩ := h
  refine Call_ (ld_blt I hg hm PyProof.Rows.boot_zip (PyProof.Rows.callWith_type1 (thn (ha.run pos pins s σ H (fun vs H1 => ∃ ι1 st1 ds, RelSt X.K (N.h η) ι1 H1 st1 ∧ rels X.K (N.h η) ι1 H1 ds vs ∧ ds.length = 2 ∧ itOk st1 .zip ds = true ∧ ∀ J, ItOK X.K N η ι1 H1 .zip ds J → R J H1) I
    ⟨η, ι, ρ, st, rs, re, f.imp fun ι1 H1 st1 ds p1 r1 er f1 vs q1 => ⟨ι1, st1, ds, r1, q1, hl _ _ _ _ er, f1.1, f1.2⟩⟩) fun us s1 ⟨vs, H1, I1, r1, ι1, st1, ds, q1, q2, q0, q3, q4⟩ => ?_) hs hpl))
  match ds, q0 with
  | [d, d2], _ =>
    obtain ⟨v, vr, rfl, w1, v2, vr2, rfl, w2, w3⟩ := q2
    have : vr2 = [] := w3
    subst this
    cases r1 with
    | cons r rr =>
      cases rr with
      | cons r' rr =>
        cases rr
        simp only [itOk, Bool.and_eq_true] at q3
        obtain ⟨b, a, its, rfl, h1, h2⟩ := items_of_vals I1 q1 w1 r q3.1
        obtain ⟨b', a', its', rfl, h1', h2'⟩ := items_of_vals I1 q1 w2 r' q3.2
        refine zip_begins2 (sBegins b a its) (sBegins b' a' its') h1 h1' fun h' hz hTI hTO hi1 hi2 hsz hk => wpAny_pyIter_zip hz ?_
        have I2 : Inv X pins σ H1 { s1 with heap := h' } := I1.kept (t' := s1.toks) hk
        have hlt : a < s1.heap.objs.size := h1.lt
        have hlt' : a' < s1.heap.objs.size := h1'.lt
        have S : ZipSep2 (s1.heap.objs.size + 4) (s1.heap.objs.size + 2) (s1.heap.objs.size + 3) s1.heap.objs.size (s1.heap.objs.size + 1) [s1.heap.objs.size, a] [s1.heap.objs.size + 1, a'] :=
          zip_sep2 (fp1 := [a]) (fp2 := [a']) (fun b hb => by rw [List.mem_singleton.mp hb]; exact hlt) (fun b hb => by rw [List.mem_singleton.mp hb]; exact hlt')
        refine ⟨s1.heap.objs.size + 4, [s1.heap.objs.size + 4, s1.heap.objs.size + 2, s1.heap.objs.size + 3, s1.heap.objs.size, s1.heap.objs.size + 1], _, _, H1, rfl, I2, turn_z2 (b := b) (b' := b') S (Nat.ne_of_lt hlt) (Nat.ne_of_lt (Nat.lt_succ_of_lt hlt')), ⟨hz, hTI, ⟨_, _, hTO⟩, sIter0 b a _ _ hi1, sIter0 b' a' _ _ hi2⟩, fun c hc => ?_, q4 _ (itok_zip2 h2 h2')⟩
        have hle : s1.heap.objs.size ≤ c := by
          have e' : c = s1.heap.objs.size + 4 ∨ c = s1.heap.objs.size + 2 ∨ c = s1.heap.objs.size + 3 ∨ c = s1.heap.objs.size ∨ c = s1.heap.objs.size + 1 := by simpa using hc
          rcases e' with z | z | z | z | z <;> (rw [z]; first | exact Nat.le_refl _ | exact Nat.le_add_right _ _)
        exact I1.fpOk hle (I1.hok.fresh hle)
theorem s_itZ3 {elts : List Expr} {kk : Nat} {tpos : Pos} (hg : Gl X "zip") (hm : X.mg "zip" = none) (ha : PA X [e, e2, e3] (tA X.K N W ms)) (hl : ∀ ρ st ds st', ms ρ st = .ok ds st' → ds.length = 3)
    (hs : starEach [e, e2, e3] X.env = (false, eval e X.env) :: starEach [e2, e3] X.env) (hpl : (backTo pos (starEach [e2, e3] X.env)).any (·.1) = false) :
    PI X (.Tuple elts kk tpos) (.Call (.Name "zip" p) [e, e2, e3] [] pos) (tIt X.K N W .zip ms) := by
  refine ⟨fun pins s σ H R I h => ?_⟩
  obtain ⟨η, ι, ρ, st, rs, re, f⟩ := h
  refine Call_ (ld_blt I hg hm PyProof.Rows.boot_zip (PyProof.Rows.callWith_type1 (thn (ha.run pos pins s σ H (fun vs H1 => ∃ ι1 st1 ds, RelSt X.K (N.h η) ι1 H1 st1 ∧ rels X.K (N.h η) ι1 H1 ds vs ∧ ds.length = 3 ∧ itOk st1 .zip ds = true ∧ ∀ J, ItOK X.K N η ι1 H1 .zip ds J → R J H1) I
    ⟨η, ι, ρ, st, rs, re, f.imp fun ι1 H1 st1 ds p1 r1 er f1 vs q1 => ⟨ι1, st1, ds, r1, q1, hl _ _ _ _ er, f1.1, f1.2⟩⟩) fun us s1 ⟨vs, H1, I1, r1, ι1, st1, ds, q1, q2, q0, q3, q4⟩ => ?_) hs hpl))
  match ds, q0 with
  | [d, d2, d3], _ =>
    obtain ⟨v, vr, rfl, w1, v2, vr2, rfl, w2, v3, vr3, rfl, w3, w4⟩ := q2
    have : vr3 = [] := w4
    subst this
    cases r1 with
    | cons r rr =>
      cases rr with
      | cons r' rr =>
        cases rr with
        | cons r'' rr =>
          cases rr
          simp only [itOk, Bool.and_eq_true] at q3
          obtain ⟨b, a, its, rfl, h1, h2⟩ := items_of_vals I1 q1 w1 r q3.1.1
          obtain ⟨b', a', its', rfl, h1', h2'⟩ := items_of_vals I1 q1 w2 r' q3.1.2
          obtain ⟨b'', a'', its'', rfl, h1'', h2''⟩ := items_of_vals I1 q1 w3 r'' q3.2
          refine zip_begins3 (sBegins b a its) (sBegins b' a' its') (sBegins b'' a'' its'') h1 h1' h1'' fun h' hz hTI hTO hi1 hi2 hi3 hsz hk => wpAny_pyIter_zip hz ?_
          have I2 : Inv X pins σ H1 { s1 with heap := h' } := I1.kept (t' := s1.toks) hk
          have hlt : a < s1.heap.objs.size := h1.lt
          have hlt' : a' < s1.heap.objs.size := h1'.lt
          have hlt'' : a'' < s1.heap.objs.size := h1''.lt
          have S : ZipSep3 (s1.heap.objs.size + 5) (s1.heap.objs.size + 3) (s1.heap.objs.size + 4) s1.heap.objs.size (s1.heap.objs.size + 1) (s1.heap.objs.size + 2) [s1.heap.objs.size, a] [s1.heap.objs.size + 1, a'] [s1.heap.objs.size + 2, a''] :=
            zip_sep3 (fp1 := [a]) (fp2 := [a']) (fp3 := [a'']) (fun b hb => by rw [List.mem_singleton.mp hb]; exact hlt) (fun b hb => by rw [List.mem_singleton.mp hb]; exact hlt') (fun b hb => by rw [List.mem_singleton.mp hb]; exact hlt'')
          refine ⟨s1.heap.objs.size + 5, [s1.heap.objs.size + 5, s1.heap.objs.size + 3, s1.heap.objs.size + 4, s1.heap.objs.size, s1.heap.objs.size + 1, s1.heap.objs.size + 2], _, _, H1, rfl, I2, turn_z3 (b := b) (b' := b') (b'' := b'') S (Nat.ne_of_lt hlt) (Nat.ne_of_lt (Nat.lt_succ_of_lt hlt')) (Nat.ne_of_lt (Nat.lt_succ_of_lt (Nat.lt_succ_of_lt hlt''))), ⟨hz, hTI, ⟨_, _, _, hTO⟩, sIter0 b a _ _ hi1, sIter0 b' a' _ _ hi2, sIter0 b'' a'' _ _ hi3⟩, fun c hc => ?_, q4 _ (itok_zip3 h2 h2' h2'')⟩
          have hle : s1.heap.objs.size ≤ c := by
            have e' : c = s1.heap.objs.size + 5 ∨ c = s1.heap.objs.size + 3 ∨ c = s1.heap.objs.size + 4 ∨ c = s1.heap.objs.size ∨ c = s1.heap.objs.size + 1 ∨ c = s1.heap.objs.size + 2 := by simpa using hc
            rcases e' with z | z | z | z | z | z <;> (rw [z]; first | exact Nat.le_refl _ | exact Nat.le_add_right _ _)
          exact I1.fpOk hle (I1.hok.fresh hle)
theorem PI.wk {t t' : TI} (h : PI X tg e t) (i : ∀ σ H R, t' σ H R → t σ H R) : PI X tg e t' := ⟨fun p s σ H Q I q => h.run p s σ H Q I (i σ H Q q)⟩
theorem s_itR1 (hg : Gl X "range") (hm : X.mg "range" = none) (ha : PA X [e] (tA X.K N W ms)) (hl : ∀ ρ st ds st', ms ρ st = .ok ds st' → ds.length = 1) (hs : starEach [e] X.env = [(false, eval e X.env)]) :
    PI X tg (.Call (.Name "range" p) [e] [] pos) (tIt X.K N W .range ms) :=
  PI.wk (pi_range1 hg hm ha hs) fun σ H R ⟨η, ι, ρ, st, rs, re, f⟩ => ⟨η, ι, ρ, st, rs, re, f.imp fun ι1 H1 st1 ds p1 r1 er f1 vs q1 => by
    match ds, hl _ _ _ _ er with
    | [d], _ =>
      obtain ⟨v, vr, rfl, w1, w2⟩ := q1
      have : vr = [] := w2
      subst this
      cases d with
      | int n =>
        have hb : -(2 ^ 62) ≤ n ∧ n < 2 ^ 62 := of_decide_eq_true f1.1
        exact ⟨n, by rw [show v = .int n from w1], hb.1, hb.2, f1.2 _ itok_range1⟩
      | _ => exact nomatch f1.1⟩
theorem s_itR2 (hg : Gl X "range") (hm : X.mg "range" = none) (ha : PA X [e, e2] (tA X.K N W ms)) (hl : ∀ ρ st ds st', ms ρ st = .ok ds st' → ds.length = 2) (hs : starEach [e, e2] X.env = [(false, eval e X.env), (false, eval e2 X.env)]) (hs2 : starEach [e2] X.env = [(false, eval e2 X.env)]) :
    PI X tg (.Call (.Name "range" p) [e, e2] [] pos) (tIt X.K N W .range ms) :=
  PI.wk (pi_range2 hg hm ha hs hs2) fun σ H R ⟨η, ι, ρ, st, rs, re, f⟩ => ⟨η, ι, ρ, st, rs, re, f.imp fun ι1 H1 st1 ds p1 r1 er f1 vs q1 => by
    match ds, hl _ _ _ _ er with
    | [d, d2], _ =>
      obtain ⟨v, vr, rfl, w1, v2, vr2, rfl, w2, w3⟩ := q1
      have : vr2 = [] := w3
      subst this
      cases d with
      | int n =>
        cases d2 with
        | int m =>
          have hb : -(2 ^ 62) ≤ n ∧ n < 2 ^ 62 ∧ -(2 ^ 62) ≤ m ∧ m < 2 ^ 62 := of_decide_eq_true f1.1
          exact ⟨n, m, by rw [show v = .int n from w1, show v2 = .int m from w2], hb, f1.2 _ itok_range2⟩
        | _ => exact nomatch f1.1
      | _ => exact nomatch f1.1⟩
end
end G

set_option Elab.async false
set_option linter.all false
set_option maxRecDepth 100000
/-! D4: targets. -/
namespace G
open PySem L2
section
variable {K : PySem.W.Frag} {N : Nms} {ι : List Addr} {H : Hp}
theorem putA_rel (hj : Inj N) {f : Nat} {d : D} {v : V} (h : rel K N ι H d v) : ∀ {ns : List Nat} {l : List D} {xs : List V}, rels K N ι H l xs → ns.length = xs.length →
    ∃ ys, putF (N.attr f) v ((ns.map N.attr).zip xs) = ((putA f d ns l).1.map N.attr).zip ys ∧ (putA f d ns l).1.length = ys.length ∧ rels K N ι H (putA f d ns l).2 ys ∧ (putA f d ns l).1.length ≤ ns.length + 1
  | [], l, xs, q, e => by
    have : xs = [] := List.length_eq_zero_iff.mp e.symm
    subst this
    have : l = [] := List.length_eq_zero_iff.mp (by rw [q.length]; rfl)
    subst this
    exact ⟨[v], rfl, rfl, .one h, Nat.le_refl _⟩
  | k :: ns, [], xs, q, e => by
    rw [show xs = [] from q] at e
    simp at e
  | k :: ns, d' :: l, xs, ⟨w, us, hw, q1, q2⟩, e => by
    subst hw
    by_cases hk : k = f
    · subst hk
      refine ⟨v :: us, ?_, by simpa [putA] using e, ?_, by simp [putA]⟩
      · simp [putF, putA]
      · simp only [putA, if_true]
        exact ⟨v, us, rfl, h, q2⟩
    · obtain ⟨ys, e1, e2, e3, e4⟩ := putA_rel (f := f) hj h q2 (by simpa using e)
      refine ⟨w :: ys, ?_, ?_, ?_, ?_⟩
      · have hne : ¬ N.attr k = N.attr f := fun z => hk (hj _ _ z)
        simp only [putA, if_neg hk, List.map_cons, List.zip_cons_cons, putF, if_neg hne, e1]
      · simp only [putA, if_neg hk, List.length_cons, e2]
      · simp only [putA, if_neg hk]
        exact ⟨w, ys, rfl, q1, e3⟩
      · simp only [putA, if_neg hk, List.length_cons]; omega
end
section
variable {X : Cx} {N : Nms} {W : WX} {a b c e : Expr} {es : List Expr} {pos : Pos} {ma mb : Env' → Store → R D} {T : Tab}
theorem s_nm {i : Nat} {x : Str} (hN : X.N.Nodup) (hi : X.N[i]? = some x) (hx : Loc X.env.scope x) (hf : X.fn x = true ∨ X.env.scope.names.lookup x = some .local) :
    PG X (.Name x pos) (tG X.K N W [i] fun d ρ st => if i < ρ.length then .ok (ρ.set i (some d)) st else .bad) :=
  PG.wk (pg_name hN hi hx hf) fun v σ H Q ⟨η, ι, ρ, st, d, rs, re, q, f⟩ => by
    dsimp only at f
    split at f
    · exact f.of_ok rs _ (re.set i q) ⟨by simp, fun j hj => by rw [List.getElem?_set_ne (by rintro rfl; simp at hj)]⟩
    · exact f.elim
theorem s_tgnil : PGs X [] (tGs X.K N W [] fun ds ρ st => match ds with
    | [] => .ok ρ st
    | _ => .bad) :=
  PGs.wk pgs_nil fun vs σ H Q ⟨η, ι, ρ, st, ds, rs, re, q, f⟩ => by
    cases ds with
    | nil => exact ⟨q, f.of_ok rs _ re .refl⟩
    | cons d ds => exact f.elim
theorem s_tgcons {sl sl' : List Nat} {m : D → Env' → Store → R Env'} {ms : List D → Env' → Store → R Env'} (h1 : PG X e (tG X.K N W sl m)) (h2 : PGs X es (tGs X.K N W sl' ms))
    (hs : (assignEach (e :: es) X.env).map (·.2) = assign e X.env :: (assignEach es X.env).map (·.2)) : PGs X (e :: es) (tGs X.K N W (sl ++ sl') fun ds ρ st => match ds with
    | d :: ds => (m d ρ st).bind fun ρ st => ms ds ρ st
    | [] => .bad) :=
  PGs.wk (pgs_cons h1 h2 hs) fun vs σ H Q ⟨η, ι, ρ, st, ds, rs, re, q, f⟩ => by
    cases ds with
    | nil => exact f.elim
    | cons d ds =>
      obtain ⟨v, us, rfl, q1, q2⟩ := q
      exact ⟨v, us, rfl, η, ι, ρ, st, d, rs, re, q1, f.bind.imp fun ι1 H1 st1 ρ1 p1 r1 _ f1 σ1 e1 g1 => ⟨η, ι1, ρ1, st1, ds, r1, e1, q2.post rs p1, f1.imp fun ι2 H2 st2 ρ2 p2 r2 _ f2 σ2 e2 g2 => f2 σ2 e2 (g1.trans g2)⟩⟩
/-! unpacking a list -/
theorem draw_lst {prog : Program} {w : World} {A : Around} {E : Value → Shared → Prop} {it t : Addr} {zs : Array Value} (hne : t ≠ it) (n : Nat) :
    ∀ (i : Nat) (s : Shared) (Q : List Value → Shared → Prop), s.heap.IsListIter it t i → s.heap.IsList t zs → i + n ≤ zs.size → (∀ h', h'.IsListIter it t (i + n) → Heap.SameBut it s.heap h' → Q ((zs.toList.drop i).take n) { s with heap := h' }) → wpAny (model prog w) A (draw (.ref it) n) Q E s := by
  induction n with
  | zero =>
    intro i s Q a b c d
    have q := d s.heap a (Heap.SameBut.refl ..)
    rw [List.take_zero] at q
    exact wpAny_pure q
  | succ n ih =>
    intro i s Q a b c d
    have q : i < zs.size := by omega
    refine wpAny_bind (wpAny_pyNext_list_item a b (x := zs[i]) (by simp [q]) fun h1 a1 s1 => wpAny_bind (wpAny_holding (ih (i + 1) _ _ a1 (b.extBut s1.extBut hne) (by omega) fun h2 a2 s2 => wpAny_pure ?_)))
    have a3 : h2.IsListIter it t (i + (n + 1)) := by
      have e : i + (n + 1) = i + 1 + n := by omega
      rw [e]; exact a2
    have := d h2 a3 (s1.trans s2)
    have e : zs.toList.drop i = zs[i] :: zs.toList.drop (i + 1) := by simp [List.drop_eq_getElem_cons, q]
    rw [e, List.take_succ_cons] at this
    exact this
theorem unpack_lst {prog : Program} {w : World} {A : Around} {E : Value → Shared → Prop} {s : Shared} {t : Addr} {zs : Array Value} {Q : List Value → Shared → Prop} (hh : A.handled = none) (b : s.heap.IsList t zs) (d : ∀ h', Heap.ExtBut s.heap.objs.size s.heap h' → Q zs.toList { s with heap := h' }) :
    wpAny (model prog w) A (unpackItems (.ref t) zs.size none) Q E s := by
  have hne : t ≠ s.heap.objs.size := by
    obtain ⟨o, ho, _⟩ := b
    exact Nat.ne_of_lt (Heap.lt_size ho)
  unfold unpackItems
  refine wpAny_bind ?_
  unfold notIterableAtAll
  refine wpAny_bind (wpAny_specialOf b.typeIs slot_list_iter.lookup (wpAny_pure ?_))
  rw [if_neg Bool.false_ne_true]
  refine wpAny_bind (wpAny_holding (wpAny_pyIter_list b (wpAny_bind (wpAny_holding (draw_lst hne zs.size 0 _ _ ⟨_, Heap.get?_push_size _ rfl, rfl, rfl⟩ (b.push _) (by omega) fun h1 a1 s1 => ?_)))))
  have e : (zs.toList.drop 0).take zs.size = zs.toList := by
    rw [List.drop_zero, List.take_of_length_le (by simp)]
  rw [e, if_neg (by simp)]
  refine wpAny_bind (wpAny_holding (wpAny_pyNext_list_end hh a1 ((b.push _).extBut s1.extBut hne) (by simp) fun h2 s2 => ?_))
  simp only [Option.isSome_none, Bool.false_eq_true, if_false]
  exact wpAny_pure (d h2 fun c o hc e => s2 c o hc (s1.extBut c o hc (Heap.get?_push_of_some _ e)))
theorem pg_lst {X : Cx} {es : List Expr} {k : Nat} {pos : Pos} {t : TGs} {n : Nat} (hc : X.calm = true) (h : PGs X es t) (hn : (assignEach es X.env).length = n) (hst : (assignEach es X.env).findIdx? (·.1) = none) :
    PG X (.Tuple es k pos) (fun v σ H Q => ∃ a xs, v = .ref a ∧ SqL X.K H a xs ∧ xs.length = n ∧ t xs σ H Q) := by
  refine ⟨fun pins s σ H v u Q I r ⟨a, xs, e1, hq, hl, hw⟩ => ?_⟩
  subst e1
  cases r
  obtain ⟨its, rv, ht, hz⟩ := I.list hq
  rw [PyProof.Rows.assign_Tuple]
  refine wpAny_bind (wpAny_standAt ?_)
  unfold unpack
  have e : (assignEach es X.env).length = its.toArray.size := by rw [hn, ← hl, List.size_toArray, rv.length]
  rw [e, hst]
  refine wpAny_bind (wpAny_holding (unpack_lst (I.ok.hd hc) ht.isList fun h' hx => ?_))
  have I1 : Inv X pins σ H { s with heap := h' } := I.kept (t' := s.toks) fun b o e => hx b o (Nat.ne_of_lt (Heap.lt_size e)) e
  exact h.run pins _ σ H xs _ Q I1 (by simpa using rv) hw
theorem PG.both {X : Cx} {e : Expr} {t1 t2 t : TG} (h1 : PG X e t1) (h2 : PG X e t2) (i : ∀ v σ H Q, t v σ H Q → t1 v σ H Q ∨ t2 v σ H Q) : PG X e t := ⟨fun p s σ H v u Q I r q => (i v σ H Q q).elim (h1.run p s σ H v u Q I r) (h2.run p s σ H v u Q I r)⟩
theorem s_tgtup {sl : List Nat} {k n : Nat} {ms : List D → Env' → Store → R Env'} (hc : X.calm = true) (h : PGs X es (tGs X.K N W sl ms)) (hn : (assignEach es X.env).length = n) (hst : (assignEach es X.env).findIdx? (·.1) = none) :
    PG X (.Tuple es k pos) (tG X.K N W sl fun d ρ st => match d with
      | .tup ds => if ds.length = n then ms ds ρ st else .bad
      | .lst ds => if ds.length = n then ms ds ρ st else .bad
      | _ => .bad) :=
  PG.both (pg_tup hc h hn hst) (pg_lst hc h hn hst) fun v σ H Q ⟨η, ι, ρ, st, d, rs, re, q, f⟩ => by
    cases d with
    | tup ds =>
      obtain ⟨a, xs, rfl, h1, h2⟩ := q
      have f' := f
      dsimp only at f'
      split at f'
      · rename_i hl
        exact .inl ⟨a, xs, rfl, h1, by rw [← h2.length]; exact hl, η, ι, ρ, st, ds, rs, re, h2, f'⟩
      · exact f'.elim
    | lst ds =>
      obtain ⟨a, xs, rfl, h1, hm, h2⟩ := q
      have f' := f
      dsimp only at f'
      split at f'
      · rename_i hl
        exact .inr ⟨a, xs, rfl, .inl (.inl h1), by rw [← h2.length]; exact hl, η, ι, ρ, st, ds, rs, re, h2, f'⟩
      · exact f'.elim
    | _ => exact f.elim
theorem s_tgattr {f : Nat} (hj : Inj N) (hc : ∀ c, T.has c f = true → Cls X.K (N.cls c) ∧ NoAttr X.K (N.cls c) (N.attr f)) (ha : PE X a (tE X.K N W ma)) : PG X (.Attribute a (N.attr f) pos) (tG X.K N W [] fun d ρ st => (ma ρ st).bind fun x st => match x with
    | .loc n => match st[n]? with
      | some (.ins c ns l) => if ns.length < 900 ∧ T.has c f = true then .ok ρ (st.set n (.ins c (putA f d ns l).1 (putA f d ns l).2)) else .bad
      | _ => .bad
    | _ => .bad) := by
  refine ⟨fun pins s σ H v u Q I r h => ?_⟩
  obtain ⟨η, ι, ρ, st, d, rs, re, q, f1⟩ := h
  show wpAny _ _ (do
    let ov ← holding [u] (eval a X.env)
    standAt pos.atName
    holding [u, ov] (setAttr ov (N.attr f) u)
    release [u, ov] []) _ _ s
  refine wpAny_bind (wpAny_holding (thn (ha.run pins s σ H (fun x H1 => ∃ ι1 st1 dx, Post ι H ι1 H1 ∧ RelSt X.K (N.h η) ι1 H1 st1 ∧ rel X.K (N.h η) ι1 H1 dx x ∧ Fin X.K (N.h η) ι1 H1 (match dx with
    | .loc n => match st1[n]? with
      | some (.ins c ns l) => if ns.length < 900 ∧ T.has c f = true then .ok ρ (st1.set n (.ins c (putA f d ns l).1 (putA f d ns l).2)) else .bad
      | _ => .bad
    | _ => .bad) (fun ι' H' _ ρ' => ∀ σ', relE X.K (N.h η) ι' H' ρ' σ' → Agree [] σ σ' → Q σ' H') (EW W)) I ⟨η, ι, ρ, st, rs, re, f1.bind.imp fun ι1 H1 st1 dx p1 r1 _ f2 x qx => ⟨ι1, st1, dx, p1, r1, qx, f2⟩⟩) fun ov s1 ⟨x, H1, I1, rx, ι1, st1, dx, p1, r1, qx, f2⟩ => ?_))
  cases dx with
  | loc n =>
    obtain ⟨ad, rfl, e1⟩ := qx
    cases rx
    have f2' := f2
    dsimp only at f2'
    split at f2'
    · rename_i c ns l hl
      split at f2'
      · rename_i hh
        obtain ⟨ho, h1, dx', xs, rfl, h2, h3⟩ := r1.get e1 hl
        obtain ⟨cl, na⟩ := hc c hh.2
        have q' := rel.post rs p1 q
        obtain ⟨ys, g1, g2, g3, g4⟩ := putA_rel (N := N.h η) (f := f) hj q' h3 h2
        have hlen : (((ns.map N.attr).zip xs)).length < 1000 := by rw [List.length_zip, List.length_map]; omega
        refine wpAny_bind (wpAny_standAt (wpAny_bind (wpAny_holding (setattr_ok I1 h1 cl na hlen r (fun s2 I2 => ?_)))))
        have m1 := mem_of_get e1
        refine wpAny_release ⟨σ, _, I2, f2' ι1 _ (.wrote m1) (r1.wrote e1 ⟨dx', ys, ?_, g2, g3.post r1 (.wrote m1)⟩) σ ((re.post rs p1).post r1 (.wrote m1)) .refl⟩
        exact congrArg (HO.ins (N.cls c) dx') g1
      · exact f2'.elim
    · exact f2'.elim
  | _ => exact f2.elim
/-- a place stored by value -/
theorem set_any (hu : X.A.units + 1 < cLine) {pins : List (Addr × Obj)} {s : Shared} {σ : St} {H : Hp} {x y v : V} {ov iv u : Value} {Q : St → Hp → Prop} {η ι : List Addr} {st : Store} {dx dy d : D} {ρ : Env'} (re : relE X.K (N.h η) ι H ρ σ)
    (I : Inv X pins σ H s) (rx : RelV x ov) (ry : RelV y iv) (ru : RelV v u) (r : RelSt X.K (N.h η) ι H st) (q1 : rel X.K (N.h η) ι H dx x) (q2 : rel X.K (N.h η) ι H dy y) (q3 : rel X.K (N.h η) ι H d v)
    (f : Fin X.K (N.h η) ι H (match dx with
      | .loc n => match st[n]?, dy with
        | some (.lst l), .int j => match ixN l.length j with
          | some k => R.ok ρ (st.set n (.lst (l.set k d)))
          | none => .bad
        | some (.dct ks l), y => match keyOf y with
          | some k => if ks.length < LIM then .ok ρ (st.set n (.dct (putK' k d ks l).1 (putK' k d ks l).2)) else .bad
          | none => .bad
        | _, _ => .bad
      | _ => .bad) (fun ι' H' _ ρ' => ∀ σ', relE X.K (N.h η) ι' H' ρ' σ' → Agree [] σ σ' → Q σ' H') (EW W)) :
    wpAny (model X.prog X.w) X.A (setItem ov iv u) (fun _ s' => ∃ H', Inv X pins σ H' s' ∧ Q σ H') X.xe s := by
  cases dx with
  | loc n =>
    obtain ⟨ad, rfl, e1⟩ := q1
    cases rx
    have f2' := f
    dsimp only at f2'
    split at f2'
    · rename_i l j hl
      split at f2'
      · rename_i k hk
        obtain ⟨ho, h1, xs, rfl, h3⟩ := r.get e1 hl
        have m1 := mem_of_get e1
        refine set_list pins s σ H _ _ _ _ _ u (Q σ) I (show RelV (.ref ad) (.ref ad) from rfl) ry ru ⟨ad, xs, j, k, rfl, q2, h1, by rw [← h3.length]; exact hk, ?_⟩
        exact f2' ι _ (.wrote m1) (r.wrote e1 ⟨_, rfl, ((h3.set k q3)).post r (.wrote m1)⟩) σ (re.post r (.wrote m1)) .refl
      · exact f2'.elim
    · rename_i ks l hl
      split at f2'
      · rename_i k hk
        split at f2'
        · rename_i hlim
          obtain ⟨ho, h1, xs, rfl, h2, h3⟩ := r.get e1 hl
          have m1 := mem_of_get e1
          obtain ⟨ys, g1, g2, g3⟩ := putK_rel (k := k) q3 h3 h2
          have hk' := keyOf_kV q2 hk
          subst hk'
          refine d_setItem hu I (.inl ⟨_, k, h1, rfl, by rw [List.length_zip]; exact Nat.lt_of_le_of_lt (Nat.min_le_left _ _) (lim_lt hlim), rfl⟩) ry ru fun s' I' => ⟨_, I', ?_⟩
          rw [g1]
          rw [g1] at I'
          exact f2' ι _ (.wrote m1) (r.wrote e1 ⟨ys, rfl, g2, g3.post r (.wrote m1)⟩) σ (re.post r (.wrote m1)) .refl
        · exact f2'.elim
      · exact f2'.elim
    · exact f2'.elim
  | _ => exact f.elim
theorem s_tgsub (hu : X.A.units + 64 < cLine) (ha : PE X a (tE X.K N W ma)) (hb : PE X b (tE X.K N W mb))
    (hs : ∀ v, assign (.Subscript a b pos) X.env v = (do
      let ov ← holding [v] (eval a X.env)
      let iv ← holding [v, ov] (eval b X.env)
      standAt pos
      holding [v, ov, iv] (setItem ov iv v)
      release [v, ov, iv] [])) : PG X (.Subscript a b pos) (tG X.K N W [] fun d ρ st => (ma ρ st).bind fun x st => (mb ρ st).bind fun y st => match x with
    | .loc n => match st[n]?, y with
      | some (.lst l), .int j => match ixN l.length j with
        | some k => .ok ρ (st.set n (.lst (l.set k d)))
        | none => .bad
      | some (.dct ks l), y => match keyOf y with
        | some k => if ks.length < LIM then .ok ρ (st.set n (.dct (putK' k d ks l).1 (putK' k d ks l).2)) else .bad
        | none => .bad
      | _, _ => .bad
    | _ => .bad) := by
  refine ⟨fun pins s σ H v u Q I r h => ?_⟩
  obtain ⟨η, ι, ρ, st, d, rs, re, q, f1⟩ := h
  rw [hs]
  refine wpAny_bind (wpAny_holding (thn (ha.run pins s σ H (fun x H1 => ∃ ι1 st1 dx, Post ι H ι1 H1 ∧ RelSt X.K (N.h η) ι1 H1 st1 ∧ rel X.K (N.h η) ι1 H1 dx x ∧ Fin X.K (N.h η) ι1 H1 _ (fun ι' H' _ ρ' => ∀ σ', relE X.K (N.h η) ι' H' ρ' σ' → Agree [] σ σ' → Q σ' H') (EW W)) I ⟨η, ι, ρ, st, rs, re, f1.bind.imp fun ι1 H1 st1 dx p1 r1 _ f2 x qx => ⟨ι1, st1, dx, p1, r1, qx, f2⟩⟩) fun ov s1 ⟨x, H1, I1, rx, ι1, st1, dx, p1, r1, qx, f2⟩ => ?_))
  refine wpAny_bind (wpAny_holding (thn (hb.run pins s1 σ H1 (fun y H2 => ∃ ι2 st2 dy, Post ι1 H1 ι2 H2 ∧ RelSt X.K (N.h η) ι2 H2 st2 ∧ rel X.K (N.h η) ι2 H2 dy y ∧ Fin X.K (N.h η) ι2 H2 _ (fun ι' H' _ ρ' => ∀ σ', relE X.K (N.h η) ι' H' ρ' σ' → Agree [] σ σ' → Q σ' H') (EW W)) I1 ⟨η, ι1, ρ, st1, r1, re.post rs p1, f2.bind.imp fun ι2 H2 st2 dy p2 r2 _ f3 y qy => ⟨ι2, st2, dy, p2, r2, qy, f3⟩⟩) fun iv s2 ⟨y, H2, I2, ry, ι2, st2, dy, p2, r2, qy, f3⟩ => ?_))
  have re2 := (re.post rs p1).post r1 p2
  refine wpAny_bind (wpAny_standAt (wpAny_bind (wpAny_holding (thn (set_any (W := W) (by omega) re2 I2 rx ry r r2 (rel.post r1 p2 qx) qy (rel.post r1 p2 (rel.post rs p1 q)) f3) fun _ s3 ⟨H3, I3, q3⟩ => ?_))))
  exact wpAny_release ⟨σ, H3, I3, q3⟩
end
end G

set_option Elab.async false
set_option linter.all false
set_option maxRecDepth 100000
/-! D5: comprehensions. -/
namespace G
open PySem L2
section
variable {K : PySem.W.Frag} {N : Nms} {ι ι' : List Addr} {H H' : Hp} {st st' : Store} {E E' : XK}
theorem Fin.calm {α : Type} {r : R α} {k : List Addr → Hp → Store → α → Prop} (f : Fin K N ι H r.calm k E) : Fin K N ι H r k E' := by
  cases r with
  | ok a st => exact f
  | exc x st => exact f.elim
  | bad => exact f
theorem wipeD_len (ρ : Env') : ∀ vs, (wipeD ρ vs).length = ρ.length
  | [] => rfl
  | v :: vs => by simp [wipeD, wipeD_len ρ vs]
theorem wipeD_get {ρ : Env'} {i : Nat} {d : D} : ∀ {vs : List Nat}, (wipeD ρ vs)[i]? = some (some d) → ρ[i]? = some (some d) ∧ i ∉ vs
  | [], h => ⟨h, by simp⟩
  | v :: vs, h => by
    unfold wipeD at h
    by_cases hi : v = i
    · subst hi
      by_cases hv : v < (wipeD ρ vs).length
      · rw [List.getElem?_set_self hv] at h; cases h
      · rw [List.getElem?_eq_none (by simpa using hv)] at h; cases h
    · rw [List.getElem?_set_ne hi] at h
      obtain ⟨h1, h2⟩ := wipeD_get h
      exact ⟨h1, by simp only [List.mem_cons, not_or]; exact ⟨fun e => hi e.symm, h2⟩⟩
theorem wipe_keep {σ : St} {i : Nat} : ∀ {vs : List Nat}, i ∉ vs → (wipe σ vs)[i]? = σ[i]?
  | [], _ => rfl
  | v :: vs, h => by
    unfold wipe
    simp only [List.mem_cons, not_or] at h
    rw [List.getElem?_set_ne (Ne.symm h.1)]
    exact wipe_keep h.2
theorem wipe_at {σ : St} {i : Nat} : ∀ {vs : List Nat}, i ∈ vs → i < σ.length → (wipe σ vs)[i]? = some none
  | v :: vs, h, hl => by
    unfold wipe
    by_cases hi : v = i
    · subst hi
      rw [List.getElem?_set_self (by rw [wipe_length]; exact hl)]
    · rw [List.getElem?_set_ne hi]
      exact wipe_at ((List.mem_cons.mp h).resolve_left fun z => hi z.symm) hl
theorem relE.wipe {ρ : Env'} {σ : St} (h : relE K N ι H ρ σ) (vs : List Nat) : relE K N ι H (wipeD ρ vs) (L2.wipe σ vs) :=
  ⟨by rw [wipeD_len, wipe_length]; exact h.1, fun i d e => by
    obtain ⟨e1, e2⟩ := wipeD_get e
    obtain ⟨v, a, b⟩ := h.2 i d e1
    exact ⟨v, by rw [wipe_keep e2]; exact a, b⟩⟩
theorem agree_wipe {vs sl : List Nat} {σ σ2 : St} (h : Agree sl (wipe σ vs) σ2) (hs : ∀ i ∈ sl, i ∈ vs) : wipe σ2 vs = wipe σ vs := by
  have hl : σ2.length = σ.length := by rw [← h.1, wipe_length]
  refine List.ext_getElem? fun i => ?_
  by_cases hi : i ∈ vs
  · by_cases hlt : i < σ.length
    · rw [wipe_at hi hlt, wipe_at hi (by rw [hl]; exact hlt)]
    · rw [List.getElem?_eq_none (by rw [wipe_length]; omega), List.getElem?_eq_none (by rw [wipe_length]; omega)]
  · rw [wipe_keep hi, h.2 i fun z => hi (hs i z), wipe_keep hi]
theorem forR_succ {α : Type} {n i : Nat} {turn : Nat → α → Store → R (Sum α Fl)} {a : α} {st : Store} :
    forR (n + 1) i turn a st = (turn i a st).bind fun r st' => match r with
      | .inl a' => forR n (i + 1) turn a' st'
      | .inr f => .ok (.inr f) st' := rfl
end
section
variable {K : PySem.W.Frag} {N : Nms} {ι : List Addr} {H : Hp} {st : Store}
mutual
/-- what was hidden becomes a place -/
theorem rel.unhide {η : List Addr} {L : Addr} {zs : List V} (hH : H L = some (.lst zs)) : ∀ {d : D} {v : V}, rel K (N.h (L :: η)) ι H d v → rel K (N.h η) (ι ++ [L]) H d v
  | .non, _, h => h
  | .bl _, _, h => h
  | .int _, _, h => h
  | .str _, _, h => h
  | .tup _, _, ⟨a, xs, e, q, l⟩ => ⟨a, xs, e, q, rels.unhide hH l⟩
  | .lst _, _, ⟨a, xs, e, q, m, l⟩ => ⟨a, xs, e, q, ⟨fun z => (List.mem_append.mp z).elim m.1 fun w => m.2 (by rw [List.mem_singleton.mp w]; exact List.mem_cons_self), fun z => m.2 (List.mem_cons_of_mem _ z)⟩, rels.unhide hH l⟩
  | .ro _, _, ⟨a, xs, e, q, l⟩ => ⟨a, xs, e, by
      rcases q with ⟨q, m, k⟩ | q
      · exact .inl ⟨q, fun z => (List.mem_append.mp z).elim m fun w => k (by rw [List.mem_singleton.mp w]; exact List.mem_cons_self), fun z => k (List.mem_cons_of_mem _ z)⟩
      · exact .inr q, rels.unhide hH l⟩
  | .obj _ _ _, _, ⟨a, dx, xs, e, q, m, z, l⟩ => ⟨a, dx, xs, e, q, fun w => (List.mem_append.mp w).elim m fun w => (by rw [List.mem_singleton.mp w, hH] at q; cases q), z, rels.unhide hH l⟩
  | .dct _ _, _, ⟨a, xs, e, q, m, z, l⟩ => ⟨a, xs, e, q, fun w => (List.mem_append.mp w).elim m fun w => (by rw [List.mem_singleton.mp w, hH] at q; cases q), z, rels.unhide hH l⟩
  | .loc k, _, ⟨a, e, q⟩ => ⟨a, e, by rw [List.getElem?_append_left (List.getElem?_eq_some_iff.mp q).1]; exact q⟩
  | .fn _, _, h => h
  | .cls _, _, h => h
  | .ty _, _, h => h
theorem rels.unhide {η : List Addr} {L : Addr} {zs : List V} (hH : H L = some (.lst zs)) : ∀ {l : List D} {vs : List V}, rels K (N.h (L :: η)) ι H l vs → rels K (N.h η) (ι ++ [L]) H l vs
  | [], _, h => h
  | _ :: _, _, ⟨v, xs, e, a, b⟩ => ⟨v, xs, e, rel.unhide hH a, rels.unhide hH b⟩
end
theorem relO.unhide {η : List Addr} {L : Addr} {zs : List V} (hH : H L = some (.lst zs)) {x : O} {ho : HO} (h : relO K (N.h (L :: η)) ι H x ho) : relO K (N.h η) (ι ++ [L]) H x ho := by
  cases x with
  | lst l => obtain ⟨xs, e, q⟩ := h; exact ⟨xs, e, q.unhide hH⟩
  | dct ks l => obtain ⟨xs, e, z, q⟩ := h; exact ⟨xs, e, z, q.unhide hH⟩
  | ins c ns l => obtain ⟨dx, xs, e, z, q⟩ := h; exact ⟨dx, xs, e, z, q.unhide hH⟩
theorem RelSt.unhide {η : List Addr} {L : Addr} {acc : List D} {zs : List V} (r : RelSt K (N.h (L :: η)) ι H st) (hH : H L = some (.lst zs)) (q : rels K (N.h (L :: η)) ι H acc zs) (hn : L ∉ η) : RelSt K (N.h η) (ι ++ [L]) H (st ++ [.lst acc]) := by
  have hL : L ∉ ι := (r.hd L List.mem_cons_self).1
  refine ⟨by simp [r.len], List.nodup_append.mpr ⟨r.nd, by simp, by rintro b hb c hc rfl; exact hL (List.mem_singleton.mp hc ▸ hb)⟩, fun b hb => ?_, fun k b y e1 e2 => ?_⟩
  · obtain ⟨m, o', e⟩ := r.hd b (List.mem_cons_of_mem _ hb)
    exact ⟨fun z => (List.mem_append.mp z).elim m fun z' => hn (List.mem_singleton.mp z' ▸ hb), o', e⟩
  · by_cases hk : k < ι.length
    · rw [List.getElem?_append_left hk] at e1
      rw [List.getElem?_append_left (by rw [← r.len]; exact hk)] at e2
      obtain ⟨ho, e, q'⟩ := r.at_ k b y e1 e2
      exact ⟨ho, e, q'.unhide hH⟩
    · have hk' : k = ι.length := by
        have := (List.getElem?_eq_some_iff.mp e1).1
        simp at this; omega
      subst hk'
      have e1' : L = b := by simpa using e1
      have e2' : O.lst acc = y := by rw [r.len] at e2; simpa using e2
      subst e1' e2'
      exact ⟨_, hH, zs, rfl, q.unhide hH⟩
end
/-- what a comprehension's turn does -/
def lcTurn (k : IK) (ds : List D) (own : List Nat) (mg : D → Env' → Store → R Env') (mi : Env' → Store → R Bool) (me : Env' → Store → R D) (ρ : Env') (i : Nat) (acc : List D) (st : Store) : R (Sum (List D) Fl) :=
  match itAt st k ds i with
  | some (some x) => ((mg x (wipeD ρ own) st).bind fun ρ' st => (mi ρ' st).bind fun b st =>
      if b then (me ρ' st).bind fun y st => .ok (.inl (acc ++ [y])) st else .ok (.inl acc) st).calm
  | _ => .bad
def lcEnd (m : Bool) (k : IK) (ds : List D) (n : Nat) (r : Sum (List D) Fl) (st' : Store) : R D :=
  match r with
  | .inl acc => if itOk st' k ds = true ∧ itLen st' k ds = n then (if m then .ok (.loc st'.length) (st' ++ [.lst acc]) else .ok (.lst acc) st') else .bad
  | .inr _ => .bad
/-- no wish: nothing may be raised -/
def W0 : WX := fun _ _ _ _ => False
section
variable {X : Cx} {N : Nms} {W : WX} {tg elt iter : Expr} {ifs : List Expr} {pos : Pos} {ms : Env' → Store → R (List D)}
theorem lc_read {m : Bool} {k : IK} {own : List Nat} {sl : List Nat} {mg : D → Env' → Store → R Env'} {mi : Env' → Store → R Bool} {me : Env' → Store → R D} (hs : ∀ i ∈ sl, i ∈ own) {σ : St} {H : Hp} {Q : VK}
    (h : tE X.K N W (fun ρ st => (ms ρ st).bind fun ds st => if itOk st k ds = true ∧ itLen st k ds ≤ LIM then (forR (itLen st k ds) 0 (lcTurn k ds own mg mi me ρ) [] st).bind (lcEnd m k ds (itLen st k ds)) else .bad) σ H Q) :
    tLc (tIt X.K N W k ms) (tG X.K N W0 sl mg) (tT X.K N W0 mi) (tE X.K N W0 me) own σ H Q := by
  obtain ⟨η, ι, ρ, st, rs, re, f⟩ := h
  refine ⟨η, ι, ρ, st, rs, re, f.bind.imp fun ι1 H1 st1 ds p1 r1 _ f1 => ?_⟩
  split at f1
  case isFalse => exact f1.elim
  case isTrue hok =>
  refine ⟨hok.1, fun J hJ L hL => ?_⟩
  generalize hn : itLen st1 k ds = n at f1 hok
  have re1 := re.post rs p1
  refine ⟨fun i m' H2 => ∃ ι2 st2 acc vs, m' = n - i ∧ i ≤ n ∧ Post ι1 H1 ι2 H2 ∧ RelSt X.K (N.h (L :: η)) ι2 H2 st2 ∧ H2 L = some (.lst vs) ∧ rels X.K (N.h (L :: η)) ι2 H2 acc vs ∧ acc.length ≤ i ∧
    relE X.K (N.h (L :: η)) ι2 H2 ρ σ ∧ Fin X.K (N.h η) ι1 H1 ((forR (n - i) i (lcTurn k ds own mg mi me ρ) acc st2).bind (lcEnd m k ds n)) (fun ι' H' _ d => ∀ v, rel X.K (N.h η) ι' H' d v → Q v H') (EW W), ⟨n, ι1, st1, [], [], rfl, Nat.zero_le _, .laid hL, r1.hide hL, upd_same, rfl, Nat.le_refl _, ?_, f1⟩, ?_⟩
  · exact ⟨re1.1, fun i d e => let ⟨v, a, b⟩ := re1.2 i d e; ⟨v, a, (b.hide hL).same fun b u h => by rw [upd_ne (ne_of_none h hL)]; exact h⟩⟩
  rintro i m' H2 ⟨ι2, st2, acc, vs, rfl, hi, p2, r2, hH, q2, ha, re2, f2⟩
  obtain ⟨itgo, itstop⟩ := hJ (L :: η) (.inr ⟨L, rfl, hL⟩) ι2 H2 st2 p2 r2 i
  have hLh : L ∈ (N.h (L :: η)).hid := List.mem_cons_self
  have hLι : L ∉ ι2 := (r2.hd L hLh).1
  by_cases hlt : i < n
  · refine .inr ?_
    have e : n - i = (n - (i + 1)) + 1 := by omega
    rw [e, forR_succ] at f2
    cases hat : itAt st2 k ds i with
    | none => simp only [lcTurn, hat] at f2; exact f2.elim
    | some o =>
    cases o with
    | none => simp only [lcTurn, hat] at f2; exact f2.elim
    | some x =>
    obtain ⟨go, yl⟩ := itgo x hat
    refine ⟨go, fun H6 => ∃ ι2 st2 acc vs, i + 1 ≤ n ∧ Post ι1 H1 ι2 H6 ∧ RelSt X.K (N.h (L :: η)) ι2 H6 st2 ∧ H6 L = some (.lst vs) ∧ rels X.K (N.h (L :: η)) ι2 H6 acc vs ∧ acc.length ≤ i + 1 ∧
      relE X.K (N.h (L :: η)) ι2 H6 ρ σ ∧ Fin X.K (N.h η) ι1 H1 ((forR (n - (i + 1)) (i + 1) (lcTurn k ds own mg mi me ρ) acc st2).bind (lcEnd m k ds n)) (fun ι' H' _ d => ∀ v, rel X.K (N.h η) ι' H' d v → Q v H') (EW W),
      fun H6 ⟨ι2, st2, acc, vs, z⟩ => ⟨n - (i + 1), by omega, ι2, st2, acc, vs, rfl, z⟩, fun v H3 hy => ?_⟩
    obtain ⟨p3, r3, q3⟩ := yl v H3 hy
    refine ⟨L :: η, ι2, wipeD ρ own, st2, x, r3, (re2.post r2 p3).wipe own, q3, ?_⟩
    cases e1 : mg x (wipeD ρ own) st2 with
    | bad => simp only [lcTurn, hat, e1] at f2; exact f2.elim
    | exc x' st' => simp only [lcTurn, hat, e1] at f2; exact f2.elim
    | ok ρ' st3 =>
    refine Fin.of_mk fun ι3 H4 p4 r4 σ2 re4 ag => ⟨agree_wipe ag hs, L :: η, ι3, ρ', st3, r4, re4, ?_⟩
    cases e2 : mi ρ' st3 with
    | bad => simp only [lcTurn, hat, e1, R.bind_ok, e2] at f2; exact f2.elim
    | exc x' st' => simp only [lcTurn, hat, e1, R.bind_ok, e2] at f2; exact f2.elim
    | ok b st4 =>
    refine Fin.of_mk fun ι4 H5 p5 r5 => ?_
    have p25 : Post ι2 H2 ι4 H5 := (p3.trans p4).trans p5
    cases b with
    | false =>
      refine iteF ⟨ι4, st4, acc, vs, hlt, p2.trans p25, r5, p25.keep _ _ hH hLι, q2.post r2 p25, by omega, re2.post r2 p25, ?_⟩
      simp only [lcTurn, hat, e1, R.bind_ok, e2] at f2
      exact f2
    | true =>
      refine iteT ⟨L :: η, ι4, ρ', st4, r5, re4.post r4 p5, ?_⟩
      cases e3 : me ρ' st4 with
      | bad => simp only [lcTurn, hat, e1, R.bind_ok, e2, if_true, e3] at f2; exact f2.elim
      | exc x' st' => simp only [lcTurn, hat, e1, R.bind_ok, e2, if_true, e3] at f2; exact f2.elim
      | ok y st5 =>
      refine Fin.of_mk fun ι5 H6 p6 r6 w qw => ?_
      have p26 := p25.trans p6
      have hH6 := p26.keep _ _ hH hLι
      have q6 := q2.post r2 p26
      refine ⟨vs, hH6, ?_, ι5, st5, acc ++ [y], vs ++ [w], hlt, ?_, r6.hid hLh hH6, upd_same, (q6.append (.one qw)).hid hLh hH6, ?_, ?_, ?_⟩
      · rw [← q6.length]
        have : acc.length < LIM := by omega
        exact lim_lt this
      · have p16 := p2.trans p26
        exact ⟨p16.pre, p16.new, fun a o h h' => by rw [upd_ne (ne_of_none h hL)]; exact p16.keep a o h h'⟩
      · rw [List.length_append]; simp; omega
      · have re6 := re2.post r2 p26
        exact ⟨re6.1, fun j d e => let ⟨v, a, b⟩ := re6.2 j d e; ⟨v, a, b.hid hLh hH6⟩⟩
      · simp only [lcTurn, hat, e1, R.bind_ok, e2, if_true, e3] at f2
        exact f2
  · have e : i = n := by omega
    subst e
    refine .inl ?_
    rw [Nat.sub_self] at f2
    have f3 : Fin X.K (N.h η) ι1 H1 (lcEnd m k ds i (.inl acc) st2) _ _ := f2
    unfold lcEnd at f3
    dsimp only at f3
    split at f3
    · rename_i hh
      refine ⟨itstop hh.1 hh.2.symm, ?_⟩
      have r4 := r2.show
      have q4 := q2.show
      have hLη : L ∉ (N.h η).hid := fun z => by
        obtain ⟨_, o, e⟩ := r1.hd L z
        rw [hL] at e; cases e
      cases m with
      | false => exact f3 _ _ p2 r4 _ (.lst_mk hH ⟨hLι, hLη⟩ q4)
      | true =>
        have p3 : Post ι1 H1 (ι2 ++ [L]) H2 := ⟨by
          obtain ⟨more, e⟩ := p2.pre
          exact ⟨more ++ [L], by rw [e, List.append_assoc]⟩, fun a h n => by
          rcases List.mem_append.mp h with z | z
          · exact p2.new a z n
          · rw [List.mem_singleton.mp z]; exact hL, p2.keep⟩
        refine f3 (ι2 ++ [L]) H2 p3 (r2.unhide hH q2 hLη) _ ⟨L, rfl, ?_⟩
        rw [← r2.len]; simp
    · exact f3.elim

/-- tests of a comprehension -/
theorem PTs.wk {t t' : TT} (h : PTs X ifs t) (i : ∀ σ H Q, t' σ H Q → t σ H Q) : PTs X ifs t' := ⟨fun p s σ H Q I q => h.run p s σ H Q I (i σ H Q q)⟩
theorem s_if0 : PTs X [] (tT X.K N W fun _ st => .ok true st) :=
  PTs.wk pts_nil fun σ H Q ⟨η, ι, ρ, st, rs, re, f⟩ => f.of_ok rs
theorem s_if1 {c : Expr} {mc : Env' → Store → R D} (hc : PT X c (tT X.K N W (asB mc))) : PTs X [c] (tT X.K N W fun ρ st => (mc ρ st).bind fun d st => match d with
    | .bl b => .ok b st
    | _ => .bad) := pts_one (PT.wk hc fun σ H Q ⟨η, ι, ρ, st, rs, re, f⟩ => ⟨η, ι, ρ, st, rs, re, by
      have e : (mc ρ st).bind (fun d st => match d with | .bl b => R.ok b st | _ => .bad) = asB mc ρ st := by
        unfold asB
        congr 1
        funext d st
        cases d <;> rfl
      rw [← e]
      exact f⟩)
theorem s_lc {m : Bool} {k : IK} {scope : Scope} {own : List (Str × Nat)} {sl : List Nat} {mg : D → Env' → Store → R Env'} {mi : Env' → Store → R Bool} {me : Env' → Store → R D} (hc : X.calm = true) (hN : X.N.Nodup) (hi : PI X tg iter (tIt X.K N W k ms)) (ok : BlkOk X.N X.env.scope scope own)
    (hs : ∀ i ∈ sl, i ∈ own.map (·.2)) (hg : ∀ (s : Shared) (H : Hp) (C : Addr) (cl : List (Str × Addr)) (fp : List Addr), PG (X.blk s H scope (compEnvC scope cl C X.env) fp) tg (tG X.K N W0 sl mg))
    (ht : ∀ (s : Shared) (H : Hp) (C : Addr) (cl : List (Str × Addr)) (fp : List Addr), PTs (X.blk s H scope (compEnvC scope cl C X.env) fp) ifs (tT X.K N W0 mi))
    (he : ∀ (s : Shared) (H : Hp) (C : Addr) (cl : List (Str × Addr)) (fp : List Addr), PE (X.blk s H scope (compEnvC scope cl C X.env) fp) elt (tE X.K N W0 me)) (hf : ∀ x, foldedSetIterable iter X.env x = pure x) :
    PE X (.ListComp elt [⟨tg, iter, ifs, 0⟩] scope pos) (tE X.K N W (fun ρ st => (ms ρ st).bind fun ds st => if itOk st k ds = true ∧ itLen st k ds ≤ LIM then (forR (itLen st k ds) 0 (lcTurn k ds (own.map (·.2)) mg mi me ρ) [] st).bind (lcEnd m k ds (itLen st k ds)) else .bad)) :=
  PE.wk (pe_lc hc hN hi ok hg ht he hf) fun σ H Q h => lc_read hs h
/-- y = [..] -/
theorem s_setLc {m : Bool} {k : IK} {scope : Scope} {own : List (Str × Nat)} {sl : List Nat} {mg : D → Env' → Store → R Env'} {mi : Env' → Store → R Bool} {me : Env' → Store → R D} {i : Nat} {y : Str} {py spos : Pos} (hc : X.calm = true) (hN : X.N.Nodup) (hy : X.N[i]? = some y) (hyl : X.env.scope.names.lookup y = some .local)
    (hsw : swapsWith (.ListComp elt [⟨tg, iter, ifs, 0⟩] scope pos) (some (.Name y py)) spos.line X.env = pure true) (hi : PI X tg iter (tIt X.K N W k ms)) (ok : BlkOk X.N X.env.scope scope own)
    (hs : ∀ i ∈ sl, i ∈ own.map (·.2)) (hg : ∀ (s : Shared) (H : Hp) (C : Addr) (cl : List (Str × Addr)) (fp : List Addr), PG (X.blk s H scope (compEnvC scope cl C X.env) fp) tg (tG X.K N W0 sl mg))
    (ht : ∀ (s : Shared) (H : Hp) (C : Addr) (cl : List (Str × Addr)) (fp : List Addr), PTs (X.blk s H scope (compEnvC scope cl C X.env) fp) ifs (tT X.K N W0 mi))
    (he : ∀ (s : Shared) (H : Hp) (C : Addr) (cl : List (Str × Addr)) (fp : List Addr), PE (X.blk s H scope (compEnvC scope cl C X.env) fp) elt (tE X.K N W0 me)) (hf : ∀ x, foldedSetIterable iter X.env x = pure x) :
    PS X (.Assign [.Name y py] (.ListComp elt [⟨tg, iter, ifs, 0⟩] scope pos) spos) (tS X.K N W (fun ρ st => ((ms ρ st).bind fun ds st => if itOk st k ds = true ∧ itLen st k ds ≤ LIM then (forR (itLen st k ds) 0 (lcTurn k ds (own.map (·.2)) mg mi me ρ) [] st).bind (lcEnd m k ds (itLen st k ds)) else .bad).bind fun d st =>
      (if i < ρ.length then .ok (ρ.set i (some d)) st else .bad : R Env').bind fun ρ st => .ok (.next ρ) st)) :=
  PS.wk (ps_setLc hc hN hy hyl hsw hi ok hg ht he hf) fun σ H D ⟨η, ι, ρ, st, rs, re, f⟩ => by
    refine lc_read (m := m) hs ⟨η, ι, ρ, st, rs, re, f.bind.imp fun ι1 H1 st1 d p1 r1 _ f1 v q1 => ?_⟩
    split at f1
    · exact f1.of_ok r1 _ ((re.post rs p1).set i q1)
    · exact f1.elim
end
end G

set_option Elab.async false
set_option linter.all false
set_option maxRecDepth 100000
/-! D6: built-in functions by value. -/
namespace G
open PySem L2
section
variable {X : Cx} {N : Nms} {W : WX} {T : Tab}
def tyV' (N : Nms) : Ty → Value
  | .ty b => .type b.name
  | .cls c => .ref (N.cls c)
/-- what is to be known of the classes for isinstance -/
structure IsiAt (K : PySem.W.Frag) (N : Nms) (T : Tab) : Prop where
  isi : ∀ t u b, T.isi.lookup (t, u) = some b → PySem.W.kitOne K (tyV' N t) (tyV' N u) = some b
  cls : ∀ c k, T.clss.lookup c = some k → Cls K (N.cls c) ∧ PySem.W.findIn K (.ref (N.cls c)) "__class__" = some (some (.builtin "object.__class__")) ∧
    PySem.W.specialIn K (.builtin "object.__class__") "__get__" = some (some (.builtin "getset_descriptor.__get__")) ∧ PySem.W.takesIn K (.builtin "object.__class__") = some true ∧ PySem.W.mroIn K (N.cls c) (.type "object") = some true
theorem isiTy_kit {K : PySem.W.Frag} (hI : IsiAt K N T) {t u : Ty} {b : Bool} (h : isiTy T t u = some b) : PySem.W.kitOne K (tyV' N t) (tyV' N u) = some b := by
  cases t with
  | ty t =>
    cases u with
    | ty u =>
      refine kit_ty ?_
      cases t <;> cases u <;> simp [isiTy] at h <;> subst h <;> decide +kernel
    | cls c => exact hI.isi _ _ _ h
  | cls c => exact hI.isi _ _ _ h
theorem tyOf_ok {K : PySem.W.Frag} {ι : List Addr} {H : Hp} {st : Store} {d : D} {v : V} {t : Ty} (hI : IsiAt K N T) (hT : ∀ c, t = .cls c → (T.clss.lookup c).isSome = true) (r : RelSt K N ι H st) (h : rel K N ι H d v) (e : tyOf st d = some t) : TyX K H v (tyV' N t) := by
  have own : ∀ c, t = .cls c → ∀ a dx fs, v = .ref a → H a = some (.ins (N.cls c) dx fs) → TyX K H v (tyV' N t) := by
    intro c hc a dx fs hv hH
    subst hc hv
    obtain ⟨k, hk⟩ := Option.isSome_iff_exists.mp (hT c rfl)
    obtain ⟨a1, a2, a3, a4, a5⟩ := hI.cls c k hk
    exact .base (.ins hH a1 a2 a3 a4 a5)
  cases d with
  | non => cases e; rw [show v = .non from h]; exact .base .non
  | bl b => cases e; rw [show v = .bl b from h]; exact .base (.bl b)
  | int i => cases e; rw [show v = .int i from h]; exact .base (.int i)
  | str s => cases e; rw [show v = .str s from h]; exact .base (.str s)
  | tup l =>
    cases e
    obtain ⟨a, xs, rfl, q, _⟩ := h
    rcases q with (q | ⟨ob, q⟩) | ⟨o, its, n, q, qc, _⟩
    · exact .base (.tup q)
    · exact .fTuple q
    · exact .kTuple q qc
  | lst l => cases e; obtain ⟨a, xs, rfl, q, _⟩ := h; exact .base (.lst q)
  | ro l =>
    cases e
    obtain ⟨a, xs, rfl, q, _⟩ := h
    rcases q with ⟨q, _⟩ | ⟨ob, q⟩ | ⟨o, its, n, q, qc, _⟩
    · exact .base (.lst q)
    · exact .base (.frz q)
    · exact .kList q qc
  | obj c ns l =>
    cases e
    obtain ⟨a, dx, xs, hv, q, _⟩ := h
    exact own c rfl a dx _ hv q
  | dct ks l => cases e; obtain ⟨a, xs, rfl, q, _⟩ := h; exact .base (.dK q)
  | loc n =>
    obtain ⟨a, rfl, q⟩ := h
    simp only [tyOf] at e
    split at e
    · rename_i hl; cases e; obtain ⟨ho, h1, xs, rfl, _⟩ := r.get q hl; exact .base (.lst h1)
    · rename_i hl; cases e; obtain ⟨ho, h1, xs, rfl, _⟩ := r.get q hl; exact .base (.dK h1)
    · rename_i c ns l hl; cases e; obtain ⟨ho, h1, dx, xs, rfl, _⟩ := r.get q hl; exact own c rfl a dx _ rfl h1
    · cases e
  | _ => exact nomatch e
theorem tyD_cls {K : PySem.W.Frag} {ι : List Addr} {H : Hp} {d : D} {v : V} {t : Ty} (h : rel K N ι H d v) (e : tyD d = some t) : ClsV v (tyV' N t) := by
  cases d with
  | ty b => cases e; rw [show v = .ty b.name from h]; exact .ty _
  | cls c => cases e; rw [show v = .ref (N.cls c) from h]; exact .own _
  | _ => exact nomatch e
/-! ### the calls -/
/-- the end: a plain value -/
theorem nfin {ι : List Addr} {η : List Addr} {H : Hp} {st : Store} {Q : VK} {o : Option D} (r : RelSt X.K (N.h η) ι H st) (f : Fin X.K (N.h η) ι H (R.of o st) (fun ι' H' _ d => ∀ v, rel X.K (N.h η) ι' H' d v → Q v H') (fun _ _ _ => False)) :
    ∃ d, o = some d ∧ (∀ v, rel X.K (N.h η) ι H d v → Q v H) ∧ ∀ p ho, H p = none → rel X.K (N.h η) ι (upd H p ho) d (.ref p) → Q (.ref p) (upd H p ho) := by
  obtain ⟨d, e, f⟩ := f.ofE
  exact ⟨d, e, fun v q => f ι H .refl r v q, fun p ho n q => f ι _ (.laid n) (r.laid n) _ q⟩
theorem one_arg {ι : List Addr} {η : List Addr} {H : Hp} {ds : List D} {vs : List V} {a : D} (q : rels X.K (N.h η) ι H ds vs) (e : ds = [a]) : ∃ v, vs = [v] ∧ rel X.K (N.h η) ι H a v := by
  subst e
  obtain ⟨v, us, rfl, q1, z⟩ := q
  cases z
  exact ⟨v, rfl, q1⟩
theorem two_arg {ι : List Addr} {η : List Addr} {H : Hp} {ds : List D} {vs : List V} {a b : D} (q : rels X.K (N.h η) ι H ds vs) (e : ds = [a, b]) : ∃ v w, vs = [v, w] ∧ rel X.K (N.h η) ι H a v ∧ rel X.K (N.h η) ι H b w := by
  subst e
  obtain ⟨v, us, rfl, q1, w, vs, rfl, q2, z⟩ := q
  cases z
  exact ⟨v, w, rfl, q1, q2⟩
theorem b_len : CallR X (.builtin "len") (rN X.K N fun st ds => R.of (biD T st .len ds) st) := by
  intro pins s σ H vs us Q I rv h
  obtain ⟨η, ι, st, ds, r, q, f⟩ := h
  obtain ⟨d, e, fin, _⟩ := nfin r f
  match ds, q, e with
  | [a], q, e =>
    obtain ⟨v, rfl, q1⟩ := one_arg q rfl
    obtain ⟨n, e1, rfl⟩ := Option.map_eq_some_iff.mp (show (lenD st a).map (fun (n : Nat) => D.int (n : Int)) = some d from e)
    have seq : ∀ xs, items? st a = some xs → n = xs.length → wpAny (model X.prog X.w) X.A (PySem.call (.builtin "len") us) (EP X pins σ Q) X.xe s := by
      intro xs e2 e3
      obtain ⟨p, ys, rfl, hs, z⟩ := items?_sq r q1 e2
      exact call_len_seq pins s σ H _ us Q I rv ⟨p, ys, rfl, hs, by rw [← z.length, ← e3]; exact fin _ rfl⟩
    have dic : (match dict? st a with | some (ks, _) => some ks.length | none => none) = some n → wpAny (model X.prog X.w) X.A (PySem.call (.builtin "len") us) (EP X pins σ Q) X.xe s := by
      intro e2
      split at e2
      · rename_i ks l e3
        cases e2
        obtain ⟨p, xs, rfl, h1, h2, h3⟩ := dict?_at r q1 e3
        exact call_lenD pins s σ H _ us Q I rv ⟨p, _, rfl, h1, by rw [List.length_zip, h2, Nat.min_self, ← h2]; exact fin _ rfl⟩
      · cases e2
    cases a with
    | str z =>
      simp only [lenD] at e1
      split at e1
      · rename_i hl
        cases e1
        exact call_len pins s σ H _ us Q I rv ⟨_, z.length, rfl, by rw [show v = .str z from q1]; exact ⟨lim_line hl, rfl⟩, fin _ rfl⟩
      · cases e1
    | tup l => exact seq l rfl (by simp only [lenD, items?] at e1; exact (Option.some.inj e1).symm)
    | lst l => exact seq l rfl (by simp only [lenD, items?] at e1; exact (Option.some.inj e1).symm)
    | ro l => exact seq l rfl (by simp only [lenD, items?] at e1; exact (Option.some.inj e1).symm)
    | dct ks l => exact dic (by simp only [lenD, items?] at e1; exact e1)
    | loc m =>
      cases hi : items? st (.loc m) with
      | some xs => exact seq xs hi (by simp only [lenD, hi] at e1; exact (Option.some.inj e1).symm)
      | none => exact dic (by simp only [lenD, hi] at e1; exact e1)
    | _ => exact nomatch e1
  | [], _, e => exact nomatch e
  | _ :: _ :: _, _, e => exact nomatch e
theorem b_isi (hI : ∀ η, IsiAt X.K (N.h η) T) (hk : ∀ c u b, T.isi.lookup (.cls c, u) = some b → (T.clss.lookup c).isSome = true) : CallR X (.builtin "isinstance") (rN X.K N fun st ds => R.of (biD T st .isinstance ds) st) := by
  intro pins s σ H vs us Q I rv h
  obtain ⟨η, ι, st, ds, r, q, f⟩ := h
  obtain ⟨d, e, fin, _⟩ := nfin r f
  match ds, q, e with
  | [a, c], q, e =>
    obtain ⟨v, w, rfl, q1, q2⟩ := two_arg q rfl
    obtain ⟨b, e1, rfl⟩ := Option.map_eq_some_iff.mp (show (isiD T st a c).map D.bl = some d from e)
    unfold isiD at e1
    split at e1
    · rename_i t u ht hu
      exact call_isi pins s σ H _ us Q I rv ⟨v, w, _, _, b, rfl, tyD_cls q2 hu, tyOf_ok (hI η) (fun c hc => by
        subst hc
        cases u with
        | ty u => exact hk c _ b e1
        | cls u => exact hk c _ b e1) r q1 ht, isiTy_kit (hI η) e1, fin _ rfl⟩
    · cases e1
  | [], _, e => exact nomatch e
  | [_], _, e => exact nomatch e
  | _ :: _ :: _ :: _, _, e => exact nomatch e

theorem b_tuple : CallR X (.type "tuple") (rN X.K N fun st ds => R.of (biD T st .tuple ds) st) := by
  intro pins s σ H vs us Q I rv h
  obtain ⟨η, ι, st, ds, r, q, f⟩ := h
  obtain ⟨d, e, fin, new⟩ := nfin r f
  match ds, q, e with
  | [a], q, e =>
    obtain ⟨v, rfl, q1⟩ := one_arg q rfl
    obtain ⟨xs, e1, rfl⟩ := Option.map_eq_some_iff.mp (show (items? st a).map D.tup = some d from e)
    obtain ⟨p, ys, rfl, hs, z⟩ := items?_sq r q1 e1
    refine call_tuple_of pins s σ H _ us Q I rv ⟨p, ys, rfl, ?_⟩
    rcases hs with hs | hs
    · exact .inl ⟨hs, fun l nl => new l _ nl (.tup_mk upd_same (z.post r (.laid nl)))⟩
    · exact .inr ⟨hs, fin _ ⟨p, ys, rfl, hs, z⟩⟩
  | [], _, e => exact nomatch e
  | _ :: _ :: _, _, e => exact nomatch e
theorem b_list : CallR X (.type "list") (rN X.K N fun st ds => R.of (biD T st .list ds) st) := by
  intro pins s σ H vs us Q I rv h
  obtain ⟨η, ι, st, ds, r, q, f⟩ := h
  obtain ⟨d, e, fin, new⟩ := nfin r f
  match ds, q, e with
  | [a], q, e =>
    obtain ⟨v, rfl, q1⟩ := one_arg q rfl
    obtain ⟨xs, e1, rfl⟩ := Option.map_eq_some_iff.mp (show (items? st a).map D.lst = some d from e)
    obtain ⟨p, ys, rfl, hs, z⟩ := items?_sq r q1 e1
    exact call_list_of pins s σ H _ us Q I rv ⟨p, ys, rfl, hs, fun l nl => new l _ nl (.lst_mk upd_same (r.out nl) (z.post r (.laid nl)))⟩
  | [], _, e => exact nomatch e
  | _ :: _ :: _, _, e => exact nomatch e
theorem bools_of {K : PySem.W.Frag} {ι : List Addr} {H : Hp} : ∀ {l : List D} {vs : List V} {bs : List Bool}, rels K N ι H l vs → bools? l = some bs → vs = bs.map V.bl
  | [], vs, bs, h, e => by cases e; exact h
  | d :: l, vs, bs, ⟨v, us, hv, h1, h2⟩, e => by
    subst hv
    cases d with
    | bl b =>
      obtain ⟨bs', e1, rfl⟩ := Option.map_eq_some_iff.mp (show (bools? l).map (b :: ·) = some bs from e)
      rw [show v = .bl b from h1, bools_of h2 e1]
      rfl
    | _ => exact nomatch e
theorem strs_of {K : PySem.W.Frag} {ι : List Addr} {H : Hp} : ∀ {l : List D} {vs : List V} {bs : List Str}, rels K N ι H l vs → strs? l = some bs → vs = bs.map V.str
  | [], vs, bs, h, e => by cases e; exact h
  | d :: l, vs, bs, ⟨v, us, hv, h1, h2⟩, e => by
    subst hv
    cases d with
    | str b =>
      obtain ⟨bs', e1, rfl⟩ := Option.map_eq_some_iff.mp (show (strs? l).map (b :: ·) = some bs from e)
      rw [show v = .str b from h1, strs_of h2 e1]
      rfl
    | _ => exact nomatch e

theorem b_all (hc : X.calm = true) : CallR X (.builtin "all") (rN X.K N fun st ds => R.of (biD T st .all ds) st) := by
  intro pins s σ H vs us Q I rv h
  obtain ⟨η, ι, st, ds, r, q, f⟩ := h
  obtain ⟨d, e, fin, new⟩ := nfin r f
  match ds, q, e with
  | [a], q, e =>
    obtain ⟨v, rfl, q1⟩ := one_arg q rfl
    simp only [biD] at e
    split at e
    · rename_i l e1
      obtain ⟨bs, e2, rfl⟩ := Option.map_eq_some_iff.mp e
      obtain ⟨p, ys, rfl, hs, z⟩ := list?_sq r q1 e1
      have hb := bools_of z e2
      subst hb
      exact cr_all hc pins s σ H _ us Q I rv ⟨p, bs, rfl, SqL.of hs, fin _ rfl⟩
    · cases e
  | [], _, e => exact nomatch e
  | _ :: _ :: _, _, e => exact nomatch e
theorem b_any (hc : X.calm = true) : CallR X (.builtin "any") (rN X.K N fun st ds => R.of (biD T st .any ds) st) := by
  intro pins s σ H vs us Q I rv h
  obtain ⟨η, ι, st, ds, r, q, f⟩ := h
  obtain ⟨d, e, fin, new⟩ := nfin r f
  match ds, q, e with
  | [a], q, e =>
    obtain ⟨v, rfl, q1⟩ := one_arg q rfl
    simp only [biD] at e
    split at e
    · rename_i l e1
      obtain ⟨bs, e2, rfl⟩ := Option.map_eq_some_iff.mp e
      obtain ⟨p, ys, rfl, hs, z⟩ := list?_sq r q1 e1
      have hb := bools_of z e2
      subst hb
      exact cr_any hc pins s σ H _ us Q I rv ⟨p, bs, rfl, SqL.of hs, fin _ rfl⟩
    · cases e
  | [], _, e => exact nomatch e
  | _ :: _ :: _, _, e => exact nomatch e
theorem b_abs : CallR X (.builtin "abs") (rN X.K N fun st ds => R.of (biD T st .abs ds) st) := by
  intro pins s σ H vs us Q I rv h
  obtain ⟨η, ι, st, ds, r, q, f⟩ := h
  obtain ⟨d, e, fin, new⟩ := nfin r f
  match ds, q, e with
  | [a], q, e =>
    obtain ⟨v, rfl, q1⟩ := one_arg q rfl
    cases a with
    | int i => cases e; exact call_abs pins s σ H _ us Q I rv ⟨i, by rw [show v = .int i from q1], fin _ rfl⟩
    | _ => exact nomatch e
  | [], _, e => exact nomatch e
  | a :: _ :: _, _, e => cases a <;> exact nomatch e
theorem b_int : CallR X (.type "int") (rN X.K N fun st ds => R.of (biD T st .int ds) st) := by
  intro pins s σ H vs us Q I rv h
  obtain ⟨η, ι, st, ds, r, q, f⟩ := h
  obtain ⟨d, e, fin, new⟩ := nfin r f
  match ds, q, e with
  | [a], q, e =>
    obtain ⟨v, rfl, q1⟩ := one_arg q rfl
    cases a with
    | int i => cases e; exact call_int1 pins s σ H _ us Q I rv (.inl ⟨i, by rw [show v = .int i from q1], fin _ rfl⟩)
    | bl b => cases e; exact call_int1 pins s σ H _ us Q I rv (.inr ⟨b, by rw [show v = .bl b from q1], fin _ rfl⟩)
    | _ => exact nomatch e
  | [], _, e => exact nomatch e
  | a :: _ :: _, _, e => cases a <;> exact nomatch e
theorem b_str : CallR X (.type "str") (rN X.K N fun st ds => R.of (biD T st .str ds) st) := by
  intro pins s σ H vs us Q I rv h
  obtain ⟨η, ι, st, ds, r, q, f⟩ := h
  obtain ⟨d, e, fin, new⟩ := nfin r f
  match ds, q, e with
  | [a], q, e =>
    obtain ⟨v, rfl, q1⟩ := one_arg q rfl
    cases a with
    | int i =>
      simp only [biD] at e
      split at e
      · cases e; exact call_str_int pins s σ H _ us Q I rv ⟨i, by rw [show v = .int i from q1], by assumption, fin _ rfl⟩
      · cases e
    | str x => cases e; exact SkE.call_str_str pins s σ H _ us Q I rv ⟨x, by rw [show v = .str x from q1], fin _ rfl⟩
    | _ => exact nomatch e
  | [], _, e => exact nomatch e
  | a :: _ :: _, _, e => cases a <;> exact nomatch e
theorem b_gcd : CallR X (.builtin "math.gcd") (rN X.K N fun st ds => R.of (biD T st .gcd ds) st) := by
  intro pins s σ H vs us Q I rv h
  obtain ⟨η, ι, st, ds, r, q, f⟩ := h
  obtain ⟨d, e, fin, new⟩ := nfin r f
  match ds, q, e with
  | [a, b], q, e =>
    obtain ⟨v, w, rfl, q1, q2⟩ := two_arg q rfl
    cases a with
    | int i =>
      cases b with
      | int j => cases e; exact cr_gcd pins s σ H _ us Q I rv ⟨i, j, by rw [show v = .int i from q1, show w = .int j from q2], fin _ rfl⟩
      | _ => exact nomatch e
    | _ => exact nomatch e
  | [], _, e => exact nomatch e
  | [a], _, e => cases a <;> exact nomatch e
  | a :: b :: _ :: _, _, e =>
    cases a with
    | int i => cases b <;> exact nomatch e
    | _ => exact nomatch e
end
end G

set_option Elab.async false
set_option linter.all false
set_option maxRecDepth 100000
/-! D7: built-in calls as rules; methods of built-in classes; dict displays; what may be written. -/
namespace G
open PySem L2
section
variable {X : Cx} {N : Nms} {W : WX} {T : Tab} {a b e : Expr} {es : List Expr} {p pos : Pos} {ma mb : Env' → Store → R D} {ms : Env' → Store → R (List D)}
theorem cb_wk {m : Store → List D → Option D} {σ : St} {H : Hp} {Q : VK} (h : tE X.K N W (fun ρ st => (ms ρ st).bind fun ds st => .of (m st ds) st) σ H Q) :
    tCB (rN X.K N fun st ds => R.of (m st ds) st) (tA X.K N W ms) σ H Q := by
  obtain ⟨η, ι, ρ, st, rs, re, f⟩ := h
  exact ⟨η, ι, ρ, st, rs, re, f.bind.imp fun ι1 H1 st1 ds p1 r1 _ f1 vs q1 => ⟨η, ι1, st1, ds, r1, q1, f1.swapE⟩⟩
theorem s_bi {x : Str} {id : String} {m : Store → List D → Option D} (hc : CallR X (.builtin id) (rN X.K N fun st ds => R.of (m st ds) st)) (hg : Gl X x) (hm : X.mg x = none) (hb : bootBuiltins x = some (.builtin id)) (ha : PA X (e :: es) (tA X.K N W ms))
    (h1 : x ≠ "__name__") (h2 : (x == ("__debug__" : Str)) = false) (h3 : starEach (e :: es) X.env = (false, eval e X.env) :: starEach es X.env) (h4 : (backTo pos (starEach es X.env)).any (·.1) = false) :
    PE X (.Call (.Name x p) (e :: es) [] pos) (tE X.K N W fun ρ st => (ms ρ st).bind fun ds st => .of (m st ds) st) :=
  PE.wk (pe_callB hc hg hm hb ha h1 h2 h3 h4) fun σ H Q h => cb_wk h
theorem s_bt {x : Str} {id : String} {m : Store → List D → Option D} (hc : CallR X (.type id) (rN X.K N fun st ds => R.of (m st ds) st)) (hg : Gl X x) (hm : X.mg x = none) (hb : bootBuiltins x = some (.type id)) (ha : PA X (e :: es) (tA X.K N W ms))
    (h1 : x ≠ "__name__") (h2 : (x == ("__debug__" : Str)) = false) (h3 : starEach (e :: es) X.env = (false, eval e X.env) :: starEach es X.env) (h4 : (backTo pos (starEach es X.env)).any (·.1) = false) :
    PE X (.Call (.Name x p) (e :: es) [] pos) (tE X.K N W fun ρ st => (ms ρ st).bind fun ds st => .of (m st ds) st) :=
  PE.wk (pe_callTy hc hg hm hb ha h1 h2 h3 h4) fun σ H Q h => cb_wk h
theorem s_bf {x : Str} {id : String} {m : Store → List D → Option D} (hc : CallR X (.builtin id) (rN X.K N fun st ds => R.of (m st ds) st)) (hg : Gl X x) (hm : X.mg x = some (.builtin id)) (ha : PA X (e :: es) (tA X.K N W ms))
    (h2 : (x == ("__debug__" : Str)) = false) (h3 : starEach (e :: es) X.env = (false, eval e X.env) :: starEach es X.env) (h4 : (backTo pos (starEach es X.env)).any (·.1) = false) :
    PE X (.Call (.Name x p) (e :: es) [] pos) (tE X.K N W fun ρ st => (ms ρ st).bind fun ds st => .of (m st ds) st) :=
  PE.wk (pe_callBfun hc hg hm ha h2 h3 h4) fun σ H Q h => cb_wk h

/-! what may be written -/
def rO (K : PySem.W.Frag) (N : Nms) (m : Store → List D → Option O) : List V → Hp → VK → Prop := fun vs H Q => ∃ η ι st ds, RelSt K (N.h η) ι H st ∧ rels K (N.h η) ι H ds vs ∧ Fin K (N.h η) ι H ((R.of (m st ds) st).bind fun o st => .ok (.loc st.length) (st ++ [o])) (fun ι' H' _ d => ∀ v, rel K (N.h η) ι' H' d v → Q v H') (fun _ _ _ => False)
theorem ofin {η ι : List Addr} {H : Hp} {st : Store} {Q : VK} {o : Option O} (r : RelSt X.K (N.h η) ι H st) (f : Fin X.K (N.h η) ι H ((R.of o st).bind fun o st => .ok (.loc st.length) (st ++ [o])) (fun ι' H' _ d => ∀ v, rel X.K (N.h η) ι' H' d v → Q v H') (fun _ _ _ => False)) :
    ∃ x, o = some x ∧ ∀ p ho, H p = none → relO X.K (N.h η) (ι ++ [p]) (upd H p ho) x ho → Q (.ref p) (upd H p ho) := by
  obtain ⟨x, e, f⟩ := f.bind.ofE
  subst e
  refine ⟨x, rfl, fun p ho n q => ?_⟩
  exact f (ι ++ [p]) _ (.pushed n) (r.pushed n q) _ ⟨p, rfl, by rw [← r.len]; simp⟩
theorem bO_list : CallR X (.type "list") (rO X.K N fun st ds => biO st .list ds) := by
  intro pins s σ H vs us Q I rv h
  obtain ⟨η, ι, st, ds, r, q, f⟩ := h
  obtain ⟨d, e, new⟩ := ofin r f
  match ds, q, e with
  | [a], q, e =>
    obtain ⟨v, rfl, q1⟩ := one_arg q rfl
    obtain ⟨xs, e1, rfl⟩ := Option.map_eq_some_iff.mp (show (items? st a).map O.lst = some d from e)
    obtain ⟨p, ys, rfl, hs, z⟩ := items?_sq r q1 e1
    exact call_list_of pins s σ H _ us Q I rv ⟨p, ys, rfl, hs, fun l nl => new l _ nl ⟨ys, rfl, z.post r (.pushed nl)⟩⟩
  | [], _, e => exact nomatch e
  | _ :: _ :: _, _, e => exact nomatch e
theorem bO_dict : CallR X (.type "dict") (rO X.K N fun st ds => biO st .dict ds) := by
  intro pins s σ H vs us Q I rv h
  obtain ⟨η, ι, st, ds, r, q, f⟩ := h
  obtain ⟨d, e, new⟩ := ofin r f
  match ds, q, e with
  | [a], q, e =>
    obtain ⟨v, rfl, q1⟩ := one_arg q rfl
    obtain ⟨⟨ks, l⟩, e1, rfl⟩ := Option.map_eq_some_iff.mp (show (dict? st a).map (fun p => O.dct p.1 p.2) = some d from e)
    obtain ⟨p, ys, rfl, hs, hl, z⟩ := dict?_at r q1 e1
    exact call_dictD pins s σ H _ us Q I rv ⟨p, _, rfl, .inl hs, fun l nl => new l _ nl ⟨ys, rfl, hl, z.post r (.pushed nl)⟩⟩
  | [], _, e => exact nomatch e
  | _ :: _ :: _, _, e => exact nomatch e
theorem co_wk {m : Store → List D → Option O} {σ : St} {H : Hp} {Q : VK} (h : tE X.K N W (fun ρ st => (ms ρ st).bind fun ds st => (R.of (m st ds) st).bind fun o st => .ok (.loc st.length) (st ++ [o])) σ H Q) :
    tCB (rO X.K N m) (tA X.K N W ms) σ H Q := by
  obtain ⟨η, ι, ρ, st, rs, re, f⟩ := h
  refine ⟨η, ι, ρ, st, rs, re, f.bind.imp fun ι1 H1 st1 ds p1 r1 _ f1 vs q1 => ⟨η, ι1, st1, ds, r1, q1, ?_⟩⟩
  cases hm : m st1 ds with
  | none => rw [hm] at f1; exact f1.elim
  | some o => rw [hm] at f1; exact f1
theorem s_btO {x : Str} {id : String} {m : Store → List D → Option O} (hc : CallR X (.type id) (rO X.K N m)) (hg : Gl X x) (hm : X.mg x = none) (hb : bootBuiltins x = some (.type id)) (ha : PA X (e :: es) (tA X.K N W ms))
    (h1 : x ≠ "__name__") (h2 : (x == ("__debug__" : Str)) = false) (h3 : starEach (e :: es) X.env = (false, eval e X.env) :: starEach es X.env) (h4 : (backTo pos (starEach es X.env)).any (·.1) = false) :
    PE X (.Call (.Name x p) (e :: es) [] pos) (tE X.K N W fun ρ st => (ms ρ st).bind fun ds st => (R.of (m st ds) st).bind fun o st => .ok (.loc st.length) (st ++ [o])) :=
  PE.wk (pe_callTy hc hg hm hb ha h1 h2 h3 h4) fun σ H Q h => co_wk h
/-- a list that an operator makes, to be written -/
def r2O (K : PySem.W.Frag) (N : Nms) (m : Store → D → D → Option O) : R2 := fun x y H Q => ∃ η ι st d e, RelSt K (N.h η) ι H st ∧ rel K (N.h η) ι H d x ∧ rel K (N.h η) ι H e y ∧ Fin K (N.h η) ι H ((R.of (m st d e) st).bind fun o st => .ok (.loc st.length) (st ++ [o])) (fun ι' H' _ d => ∀ v, rel K (N.h η) ι' H' d v → Q v H') (fun _ _ _ => False)
theorem o_binO (op : Operator) : OpR X (binaryOp op) (r2O X.K N fun st x y => binO st op x y) := by
  intro pins s σ H x y v u Q I rx ry h
  obtain ⟨η, ι, st, d, e, r, q1, q2, f⟩ := h
  obtain ⟨w, ew, new⟩ := ofin r f
  cases op with
  | Add =>
    simp only [binO] at ew
    split at ew
    · rename_i xs ys e1 e2
      split at ew
      · rename_i hl
        cases ew
        obtain ⟨a1, vs1, rfl, h1, z1⟩ := list?_sq r q1 e1
        obtain ⟨a2, vs2, rfl, h2, z2⟩ := list?_sq r q2 e2
        exact op_cat pins s σ H _ _ v u Q I rx ry ⟨a1, a2, vs1, vs2, rfl, rfl, h1, h2, lim_line (by rw [← z1.length, ← z2.length]; exact hl), fun p np => new p _ np ⟨_, rfl, (z1.append z2).post r (.pushed np)⟩⟩
      · cases ew
    · cases ew
  | Mult =>
    simp only [binO] at ew
    split at ew
    · rename_i k
      split at ew
      · rename_i xs e1
        split at ew
        · rename_i hk
          cases ew
          obtain ⟨a1, vs1, rfl, h1, z1⟩ := list?_sq r q1 e1
          exact op_rep pins s σ H _ _ v u Q I rx ry ⟨a1, k, vs1, rfl, q2, h1, by omega, by omega, lim_line (by rw [← z1.length]; exact hk.2.2), fun p np => new p _ np ⟨_, rfl, (z1.rep _).post r (.pushed np)⟩⟩
        · cases ew
      · cases ew
    · cases ew
  | _ => exact nomatch ew
theorem s_binO {op : Operator} (ha : PE X a (tE X.K N W ma)) (hb : PE X b (tE X.K N W mb)) :
    PE X (.BinOp a op b pos) (tE X.K N W fun ρ st => (ma ρ st).bind fun x st => (mb ρ st).bind fun y st => (R.of (binO st op x y) st).bind fun o st => .ok (.loc st.length) (st ++ [o])) :=
  PE.wk (pe_op (o_binO op) ha hb) fun σ H Q ⟨η, ι, ρ, st, rs, re, f⟩ =>
    ⟨η, ι, ρ, st, rs, re, f.bind.imp fun ι1 H1 st1 d p1 r1 _ f1 v q1 => ⟨η, ι1, ρ, st1, r1, re.post rs p1, f1.bind.imp fun ι2 H2 st2 d2 p2 r2 _ f2 v2 q2 => ⟨η, ι2, st2, d, d2, r2, rel.post r1 p2 q1, q2, by
      cases hm : binO st2 op d d2 with
      | none => rw [hm] at f2; exact f2.elim
      | some o => simp only [hm] at f2 ⊢; exact f2⟩⟩⟩
/-- isinstance of several -/
theorem isiAny_kit {K : PySem.W.Frag} (hI : IsiAt K N T) {t : Ty} : ∀ {ds : List D} {us : List Value} {b : Bool}, isiAny T t ds = some b → Paired (fun d u => ∃ y, tyD d = some y ∧ u = tyV' N y) ds us → PySem.W.kitAny K (tyV' N t) us = some b
  | [], _, b, h, .nil => h
  | d :: ds, _, b, h, .cons ⟨y, hy, hu⟩ r => by
    subst hu
    simp only [isiAny, hy] at h
    unfold PySem.W.kitAny
    cases hb : isiTy T t y with
    | none => rw [hb] at h; exact nomatch h
    | some k =>
      rw [isiTy_kit hI hb]
      rw [hb] at h
      cases k with
      | true => exact h
      | false => exact isiAny_kit hI h r
end
end G

set_option Elab.async false
set_option linter.all false
set_option maxRecDepth 100000
/-! D8: isinstance of several, dict displays, methods of built-in classes, dicts of the module. -/
namespace G
open PySem L2
section
variable {X : Cx} {N : Nms} {W : WX} {T : Tab} {a b e o : Expr} {es : List Expr} {p pos : Pos} {ma mb mo : Env' → Store → R D} {ms : Env' → Store → R (List D)}
theorem isiAny_known (hk : ∀ c u b, T.isi.lookup (.cls c, u) = some b → (T.clss.lookup c).isSome = true) {t : Ty} {ds : List D} {b : Bool} {c : Nat} (h : isiAny T t ds = some b) (hc : t = .cls c) (hd : ds ≠ []) : (T.clss.lookup c).isSome = true := by
  subst hc
  cases ds with
  | nil => exact absurd rfl hd
  | cons d ds =>
    simp only [isiAny] at h
    cases hy : tyD d with
    | none => rw [hy] at h; exact nomatch h
    | some u =>
      rw [hy] at h
      dsimp only at h
      cases hb : isiTy T (.cls c) u with
      | none => rw [hb] at h; exact nomatch h
      | some k => cases u <;> exact hk c _ k hb
theorem cls_all {η ι : List Addr} {H : Hp} : ∀ {ds : List D} {us : List V}, rels X.K (N.h η) ι H ds us → (∀ d ∈ ds, (tyD d).isSome = true) → ∃ us', Paired ClsV us us' ∧ Paired (fun d u => ∃ y, tyD d = some y ∧ u = tyV' (N.h η) y) ds us'
  | [], us, q, _ => by
    cases (show us = [] from q)
    exact ⟨[], .nil, .nil⟩
  | d :: ds, us, ⟨v, us', e, q1, q2⟩, hd => by
    subst e
    obtain ⟨y, hy⟩ := Option.isSome_iff_exists.mp (hd d List.mem_cons_self)
    obtain ⟨w, z1, z2⟩ := cls_all q2 fun d hd' => hd d (List.mem_cons_of_mem _ hd')
    exact ⟨_ :: w, .cons (tyD_cls q1 hy) z1, .cons ⟨y, hy, rfl⟩ z2⟩
theorem s_isiT {k : Nat} {tp : Pos} (hI : ∀ η, IsiAt X.K (N.h η) T) (hk : ∀ c u b, T.isi.lookup (.cls c, u) = some b → (T.clss.lookup c).isSome = true) (hg : Gl X "isinstance") (hm : X.mg "isinstance" = none)
    (ha : PE X a (tE X.K N W ma)) (hes : PA X es (tA X.K N W ms)) (hs2 : starEach [.Tuple es k tp] X.env = [(false, eval (.Tuple es k tp) X.env)])
    (h3 : starEach [a, .Tuple es k tp] X.env = (false, eval a X.env) :: starEach [.Tuple es k tp] X.env) (h4 : (backTo pos (starEach [.Tuple es k tp] X.env)).any (·.1) = false) :
    PE X (.Call (.Name "isinstance" p) [a, .Tuple es k tp] [] pos) (tE X.K N W fun ρ st => (ma ρ st).bind fun x st => (ms ρ st).bind fun ds st => if ds.length ≤ LIM then (R.of (isiTD T st x ds) st).bind fun b st => .ok (.bl b) st else .bad) :=
  PE.wk (pe_callB call_isiT hg hm (by decide +kernel) (pa_cons ha (pa_cons (pe_tup hes) pa_nil hs2) h3) (by decide) (by decide) h3 h4) fun σ H Q ⟨η, ι, ρ, st, rs, re, f⟩ => by
    refine ⟨η, ι, ρ, st, rs, re, f.bind.imp fun ι1 H1 st1 d p1 r1 _ f1 v q1 => ?_⟩
    refine ⟨η, ι1, ρ, st1, r1, re.post rs p1, f1.bind.imp fun ι2 H2 st2 ds p2 r2 _ f2 vs q2 => ?_⟩
    obtain ⟨hl, f3⟩ := lim_fin f2
    refine ⟨lim_line (by rw [← q2.length]; exact hl), fun tp np => ?_⟩
    obtain ⟨k, e1, f4⟩ := f3.bind.ofE
    unfold isiTD at e1
    split at e1
    · rename_i t ht
      split at e1
      · rename_i hh
        rw [Bool.and_eq_true, List.all_eq_true] at hh
        have hne : ds ≠ [] := fun z => by rw [z] at hh; exact nomatch hh.2
        have r3 := r2.laid (o := .tup vs) np
        have q3 := q2.post r2 (.laid (o := .tup vs) np)
        obtain ⟨us, z1, z2⟩ := cls_all q3 hh.1
        refine ⟨v, tp, vs, _, us, k, rfl, upd_same, z1, ?_, isiAny_kit (hI η) e1 z2, ?_⟩
        · have ht3 : tyOf st2 d = some t := ht
          exact tyOf_ok (hI η) (fun c hc => isiAny_known hk e1 hc hne) r3 (rel.post r2 (.laid np) (rel.post r1 p2 q1)) ht3
        · exact Fin.of_ok (f4 ι2 _ (.laid np) r3) r3 _ rfl
      · cases e1
    · cases e1
/-! dict displays -/
def tDisp2 (trs : List (TE × TE)) : TE := fun σ H Q => tPairs trs σ H fun ps H2 => ∃ kvs : List (Key × V), ps = kvs.map (fun kv => (kV kv.1, kv.2)) ∧ kvs.length ≤ 15 ∧ ∀ p, H2 p = none → Q (.ref p) (upd H2 p (.dK (mergeK [] kvs)))
theorem pe_disp2 {keys : List (Option Expr)} {values : List Expr} {trs : List (TE × TE)} (h : PPs X pos keys values trs) (hall : keys.all (·.isSome) = true) (hl : keys.length = values.length) (h0 : keys ≠ [])
    (h15 : keys.length ≤ 15) : PE X (.Dict keys values pos) (tDisp2 trs) := by
  refine ⟨fun pins s σ H Q I q => ?_⟩
  have hn := I.hok.fresh (Nat.le_refl s.heap.objs.size)
  let ob : Obj := { cls := .type "dict", data := .dict #[] }
  have eo : (s.heap.push ob).get? s.heap.objs.size = some ob := Heap.get?_push_size _ rfl
  have I1 : Inv X pins σ H { s with heap := s.heap.push ob } := I.kept (t' := s.toks) fun b o e => Heap.get?_push_of_some _ e
  have fp : ∀ {H' : Hp}, H' s.heap.objs.size = none → FpOk X pins H' s.heap.objs.size := fun n => I.fpOk (Nat.le_refl _) n
  have I1' : Inv X (pins ++ pinsAt [s.heap.objs.size] (s.heap.push ob)) σ H { s with heap := s.heap.push ob } := I1.pinned (fp := [s.heap.objs.size]) (fun b hb => by rw [List.mem_singleton.mp hb]; exact fp hn) (fun b hb => by rw [List.mem_singleton.mp hb]; exact ⟨ob, eo, fun v z => nomatch z⟩)
  refine wpAny_Dict_walk (knd := mixKind X.prog X.w) hall hl h0 h15 (thn (h.run _ _ σ H _ I1' q) fun ws s2 ⟨ps, H2, I2, rel, kvs, ep, lk, q2⟩ => ?_)
  subst ep
  obtain ⟨rs, c, rk⟩ := carries_of (P := X.prog) (w := X.w) rel
  obtain ⟨g1, g2, _⟩ := I2.pin (s.heap.objs.size, ob) (List.mem_append_right _ (List.mem_append_right _ (mem_pinsAt List.mem_cons_self eo)))
  refine ⟨rs, c, ⟨ob, #[], 0, g1, ⟨rfl, rfl, rfl⟩, rfl, fun _ he => by simp at he, Pairs.nil, List.nodup_nil⟩, fun h' dd' hs => ⟨.ref s.heap.objs.size, _, ?_, rfl, q2 _ g2⟩⟩
  have hz : (mergeK [] kvs).length ≤ sizeLine := by
    have h1 := length_mergeK kvs []
    rw [List.length_nil] at h1
    rw [sizeLine_eq]; omega
  exact I2.unpinned.take (fun b u hb z => (hs.2 b hb).trans z) (fp g2) (dk_new hz (beq_eq_false_iff_ne.mpr (Ne.symm (Nat.ne_of_lt I.big))) (rk.merge .nil) dd')
/-- the pairs with keys told -/
def PKs (X : Cx) (N : Nms) (W : WX) (pos : Pos) (keys : List (Option Expr)) (values : List Expr) (ks : List Key) (ms : Env' → Store → R (List D)) : Prop :=
  ∃ trs, PPs X pos keys values trs ∧ ∀ σ H Q, tA X.K N W ms σ H (fun vs H' => Q ((ks.map kV).zip vs) H') → tPairs trs σ H Q
theorem pk_nil : PKs X N W pos [] [] [] fun _ st => .ok [] st :=
  ⟨[], pps_nil, fun σ H Q ⟨η, ι, ρ, st, rs, re, f⟩ => f.of_ok rs [] rfl⟩
theorem pk_cons {k v : Expr} {ks : List (Option Expr)} {vs : List Expr} {kk : Key} {kks : List Key} (hk : PE X k (tC (kV kk))) (hv : PE X v (tE X.K N W ma)) (hr : PKs X N W pos ks vs kks ms) :
    PKs X N W pos (some k :: ks) (v :: vs) (kk :: kks) fun ρ st => (ma ρ st).bind fun d st => (ms ρ st).bind fun ds st => .ok (d :: ds) st := by
  obtain ⟨trs, h1, h2⟩ := hr
  refine ⟨_, pps_cons hk hv h1, fun σ H Q ⟨η, ι, ρ, st, rs, re, f⟩ => ?_⟩
  refine ⟨η, ι, ρ, st, rs, re, f.bind.imp fun ι1 H1 st1 d p1 r1 _ f1 y q1 => h2 _ _ _ ?_⟩
  exact ⟨η, ι1, ρ, st1, r1, re.post rs p1, f1.bind.imp fun ι2 H2 st2 ds p2 r2 _ f2 vs q2 => f2.of_ok r2 (y :: vs) ⟨y, vs, rfl, rel.post r1 p2 q1, q2⟩⟩
theorem zip_split {ks : List Key} {vs : List V} : (ks.map kV).zip vs = (ks.zip vs).map fun kv => (kV kv.1, kv.2) := by
  induction ks generalizing vs with
  | nil => rfl
  | cons k ks ih => cases vs with
    | nil => rfl
    | cons v vs => simp [ih]
theorem valV_none {k : Key} {kvs : List (Key × V)} (h : k ∉ kvs.map (·.1)) : valV kvs k = none := by
  unfold valV
  rw [Option.map_eq_none_iff, List.find?_eq_none]
  intro kv hm e
  exact h (by rw [← of_decide_eq_true e]; exact List.mem_map_of_mem hm)
theorem merge_zip : ∀ {ks : List Key} {vs : List V} {kvs : List (Key × V)}, (∀ k ∈ ks, k ∉ kvs.map (·.1)) → ks.Nodup → ks.length = vs.length → mergeK kvs (ks.zip vs) = kvs ++ ks.zip vs
  | [], _, _, _, _, _ => by simp [mergeK]
  | k :: ks, [], _, _, _, h => nomatch h
  | k :: ks, v :: vs, kvs, h1, h2, h3 => by
    have hk : k ∉ kvs.map (·.1) := h1 k List.mem_cons_self
    have e : putK kvs k v = kvs ++ [(k, v)] := putK_new v (valV_none hk)
    show mergeK (putK kvs k v) (ks.zip vs) = _
    rw [e, merge_zip (fun k' hk' z => ?_) (List.nodup_cons.mp h2).2 (by simpa using h3)]
    · simp
    · rw [List.map_append, List.mem_append] at z
      rcases z with z | z
      · exact h1 k' (List.mem_cons_of_mem _ hk') z
      · simp at z; subst z; exact (List.nodup_cons.mp h2).1 hk'
theorem s_dct {m : Bool} {keys : List (Option Expr)} {values : List Expr} {ks : List Key} (h : PKs X N W pos keys values ks ms) (hall : keys.all (·.isSome) = true) (hl : keys.length = values.length) (h0 : keys ≠ []) (h15 : keys.length ≤ 15) :
    PE X (.Dict keys values pos) (tE X.K N W fun ρ st => (ms ρ st).bind fun ds st => if ds.length = ks.length ∧ ks.length ≤ 15 ∧ ks ≠ [] ∧ ks.Nodup then (if m then .ok (.loc st.length) (st ++ [.dct ks ds]) else .ok (.dct ks ds) st) else .bad) := by
  obtain ⟨trs, h1, h2⟩ := h
  refine PE.wk (pe_disp2 h1 hall hl h0 h15) fun σ H Q ⟨η, ι, ρ, st, rs, re, f⟩ => ?_
  refine h2 _ _ _ ⟨η, ι, ρ, st, rs, re, f.bind.imp fun ι1 H1 st1 ds p1 r1 _ f1 vs q1 => ?_⟩
  split at f1
  · rename_i hh
    have hv : ks.length = vs.length := by rw [← q1.length]; exact hh.1.symm
    refine ⟨ks.zip vs, zip_split, by rw [List.length_zip]; omega, fun p np => ?_⟩
    rw [merge_zip (fun _ _ z => (List.not_mem_nil z).elim) hh.2.2.2 hv]
    cases m with
    | false => exact fin_new r1 np f1 ⟨p, vs, rfl, upd_same, (r1.out np).1, hv, q1.post r1 (.laid np)⟩
    | true =>
      refine f1 (ι1 ++ [p]) _ (.pushed np) (r1.pushed np ⟨vs, rfl, hv, q1.post r1 (.pushed np)⟩) _ ⟨p, rfl, ?_⟩
      rw [← r1.len]; simp
  · exact f1.elim
end
end G

set_option Elab.async false
set_option linter.all false
set_option maxRecDepth 100000
/-! D9: methods of built-in classes; dicts of the module; attributes added to. -/
namespace G
open PySem L2
section
variable {X : Cx} {N : Nms} {W : WX} {T : Tab} {a b e o : Expr} {es : List Expr} {p pos apos : Pos} {ma mb mo : Env' → Store → R D} {ms : Env' → Store → R (List D)}
def rM (K : PySem.W.Frag) (N : Nms) (m : BM) : V → List V → Hp → VK → Prop := fun x vs H Q => ∃ η ι st d ds, RelSt K (N.h η) ι H st ∧ rel K (N.h η) ι H d x ∧ rels K (N.h η) ι H ds vs ∧ Fin K (N.h η) ι H (bmD st m d ds) (fun ι' H' _ d => ∀ v, rel K (N.h η) ι' H' d v → Q v H') (fun _ _ _ => False)
theorem list?_at {K : PySem.W.Frag} {ι : List Addr} {H : Hp} {st : Store} {d : D} {v : V} {l : List D} (r : RelSt K N ι H st) (q : rel K N ι H d v) (e : list? st d = some l) : ∃ a vs, v = .ref a ∧ H a = some (.lst vs) ∧ rels K N ι H l vs := by
  cases d with
  | lst l' => cases e; obtain ⟨a, xs, rfl, h, _, z⟩ := q; exact ⟨a, xs, rfl, h, z⟩
  | loc n =>
    obtain ⟨a, rfl, q⟩ := q
    simp only [list?] at e
    split at e
    · rename_i l' hl
      cases e
      obtain ⟨ho, h1, xs, rfl, z⟩ := r.get q hl
      exact ⟨a, xs, rfl, h1, z⟩
    · cases e
  | _ => exact nomatch e
theorem isLst_some {o : Option O} (h : isLst o = true) : ∃ l, o = some (.lst l) := by
  cases o with
  | none => exact nomatch h
  | some x => cases x with
    | lst l => exact ⟨l, rfl⟩
    | _ => exact nomatch h
theorem lst_ty {ι : List Addr} {H : Hp} {st : Store} {n : Nat} {x : V} (r : RelSt X.K N ι H st) (q : rel X.K N ι H (.loc n) x) (h : isLst st[n]? = true) : tyV X.K "list" x H := by
  obtain ⟨l, hl⟩ := isLst_some h
  obtain ⟨a, rfl, q⟩ := q
  obtain ⟨ho, h1, xs, rfl, z⟩ := r.get q hl
  exact .inl ⟨rfl, xs, .inl (.inl h1)⟩
theorem m_append : MtR X "list.append" (rM X.K N .append) := by
  intro pins s σ H x vs v us Q I rx rv h
  obtain ⟨η, ι, st, d, ds, r, q, qs, f⟩ := h
  match d, ds, f with
  | .loc n, [y], f =>
    simp only [bmD] at f
    split at f
    · rename_i l hl
      split at f
      · rename_i hlim
        obtain ⟨w, rfl, q1⟩ := one_arg qs rfl
        obtain ⟨a, rfl, e1⟩ := q
        obtain ⟨ho, h1, xs, rfl, z⟩ := r.get e1 hl
        have m1 := mem_of_get e1
        refine mt_append pins s σ H _ _ v us Q I rx rv ⟨a, xs, w, rfl, rfl, h1, by rw [← z.length]; exact lim_lt hlim, ?_⟩
        exact f ι _ (.wrote m1) (r.wrote e1 ⟨_, rfl, (z.append (.one q1)).post r (.wrote m1)⟩) _ rfl
      · exact f.elim
    · exact f.elim
  | .loc n, [], f => exact f.elim
  | .loc n, _ :: _ :: _, f => exact f.elim
  | .non, _, f | .bl _, _, f | .int _, _, f | .str _, _, f | .tup _, _, f | .lst _, _, f | .ro _, _, f | .obj _ _ _, _, f | .dct _ _, _, f | .fn _, _, f | .cls _, _, f | .ty _, _, f => exact f.elim
theorem m_extend : MtR X "list.extend" (rM X.K N .extend) := by
  intro pins s σ H x vs v us Q I rx rv h
  obtain ⟨η, ι, st, d, ds, r, q, qs, f⟩ := h
  match d, ds, f with
  | .loc n, [y], f =>
    simp only [bmD] at f
    split at f
    · rename_i l m hl hm
      split at f
      · rename_i hlim
        obtain ⟨w, rfl, q1⟩ := one_arg qs rfl
        obtain ⟨b, ys, rfl, h2, z2⟩ := list?_at r q1 hm
        obtain ⟨a, rfl, e1⟩ := q
        obtain ⟨ho, h1, xs, rfl, z⟩ := r.get e1 hl
        have m1 := mem_of_get e1
        refine mt_extend pins s σ H _ _ v us Q I rx rv ⟨a, b, xs, ys, rfl, rfl, h1, h2, by rw [← z.length, ← z2.length]; exact lim_line hlim, ?_⟩
        exact f ι _ (.wrote m1) (r.wrote e1 ⟨_, rfl, (z.append z2).post r (.wrote m1)⟩) _ rfl
      · exact f.elim
    · exact f.elim
  | .loc n, [], f => exact f.elim
  | .loc n, _ :: _ :: _, f => exact f.elim
  | .non, _, f | .bl _, _, f | .int _, _, f | .str _, _, f | .tup _, _, f | .lst _, _, f | .ro _, _, f | .obj _ _ _, _, f | .dct _ _, _, f | .fn _, _, f | .cls _, _, f | .ty _, _, f => exact f.elim
theorem rels.dropLast {K : PySem.W.Frag} {ι : List Addr} {H : Hp} {l : List D} {xs : List V} (h : rels K N ι H l xs) : rels K N ι H l.dropLast xs.dropLast := by
  rw [List.dropLast_eq_take, List.dropLast_eq_take, ← h.length]
  exact h.take _
theorem rels.eraseIdx {K : PySem.W.Frag} {ι : List Addr} {H : Hp} {l : List D} {xs : List V} (k : Nat) (h : rels K N ι H l xs) : rels K N ι H (l.eraseIdx k) (xs.eraseIdx k) := by
  rw [List.eraseIdx_eq_take_drop_succ, List.eraseIdx_eq_take_drop_succ]
  exact (h.take _).append (h.drop _)
theorem m_pop : MtR X "list.pop" (rM X.K N .pop) := by
  intro pins s σ H x vs v us Q I rx rv h
  obtain ⟨η, ι, st, d, ds, r, q, qs, f⟩ := h
  match d, ds, f with
  | .loc n, [], f =>
    simp only [bmD] at f
    split at f
    · rename_i l hl
      split at f
      · rename_i y hy
        have : vs = [] := qs
        subst this
        obtain ⟨a, rfl, e1⟩ := q
        obtain ⟨ho, h1, xs, rfl, z⟩ := r.get e1 hl
        have m1 := mem_of_get e1
        obtain ⟨w, g1, g2⟩ := z.get hy
        refine mt_pop pins s σ H _ _ v us Q I rx rv ⟨a, xs, w, rfl, rfl, h1, by rw [← z.length]; exact g1, ?_⟩
        exact f ι _ (.wrote m1) (r.wrote e1 ⟨_, rfl, z.dropLast.post r (.wrote m1)⟩) _ (rel.post r (.wrote m1) g2)
      · exact f.elim
    · exact f.elim
  | .loc n, [.int i], f =>
    simp only [bmD] at f
    split at f
    · rename_i l hl
      split at f
      · rename_i k hk
        split at f
        · rename_i y hy
          split at f
          · rename_i hi
            obtain ⟨u, rfl, q1⟩ := one_arg qs rfl
            obtain ⟨a, rfl, e1⟩ := q
            obtain ⟨ho, h1, xs, rfl, z⟩ := r.get e1 hl
            have m1 := mem_of_get e1
            obtain ⟨w, g1, g2⟩ := z.get hy
            refine mt_popAt pins s σ H _ _ v us Q I rx rv ⟨a, xs, i, k, w, rfl, by rw [show u = .int i from q1], h1, hi.1, hi.2, by rw [← z.length]; exact hk, g1, ?_⟩
            exact f ι _ (.wrote m1) (r.wrote e1 ⟨_, rfl, (z.eraseIdx k).post r (.wrote m1)⟩) _ (rel.post r (.wrote m1) g2)
          · exact f.elim
        · exact f.elim
      · exact f.elim
    · exact f.elim
  | .loc n, d1 :: _ :: _, f => cases d1 <;> exact f.elim
  | .loc n, [.non], f | .loc n, [.bl _], f | .loc n, [.str _], f | .loc n, [.tup _], f | .loc n, [.lst _], f | .loc n, [.ro _], f | .loc n, [.obj _ _ _], f | .loc n, [.dct _ _], f | .loc n, [.loc _], f | .loc n, [.fn _], f | .loc n, [.cls _], f | .loc n, [.ty _], f => exact f.elim
  | .non, _, f | .bl _, _, f | .int _, _, f | .str _, _, f | .tup _, _, f | .lst _, _, f | .ro _, _, f | .obj _ _ _, _, f | .dct _ _, _, f | .fn _, _, f | .cls _, _, f | .ty _, _, f => exact f.elim
theorem bmD_calm {st st' : Store} {m : BM} {d : D} {ds : List D} {x : XD} (h : bmD st m d ds = .exc x st') : False := by
  unfold bmD at h
  repeat' split at h
  all_goals first | exact nomatch h | (split at h <;> exact nomatch h)
theorem s_bm {m : BM} {name : Str} {t id : String} (pa : PlainAttrs t) (slot : Slot t name id) (hty : typeOf (.builtin id) = pure (.type "method_descriptor")) (hm : MtR X id (rM X.K N m))
    (htv : ∀ η ι H st d x, RelSt X.K (N.h η) ι H st → rel X.K (N.h η) ι H d x → bmTy st m d = true → tyV X.K t x H) (ho : PE X o (tE X.K N W mo)) (ha : PA X (e :: es) (tA X.K N W ms))
    (hbase : attributeBase o name X.env (eval o X.env) = eval o X.env)
    (hfew : ((backTo pos (starEach (e :: es) X.env)).all (fun x => !x.1) && (backToKw pos (keywordEach [] X.env)).all (fun x => x.1.isSome)
      && decide ((e :: es).length + ([] : List Keyword).length + (if ([] : List Keyword).isEmpty then 0 else 1) < 30)) = true)
    (hline : (apos.endLine == pos.line) = true) (hs : starEach (e :: es) X.env = (false, eval e X.env) :: starEach es X.env) (hplain : (backTo pos (starEach es X.env)).any (·.1) = false) :
    PE X (.Call (.Attribute o name apos) (e :: es) [] pos) (tE X.K N W fun ρ st => (mo ρ st).bind fun x st => if bmTy st m x then (ms ρ st).bind fun ds st => bmD st m x ds else .bad) :=
  PE.wk (pe_bm pa slot hty hm ho ha hbase hfew hline hs hplain) fun σ H Q ⟨η, ι, ρ, st, rs, re, f⟩ => ⟨η, ι, ρ, st, rs, re, f.bind.imp fun ι1 H1 st1 d p1 r1 _ f1 v q1 => by
    split at f1
    · rename_i hb
      refine ⟨htv _ _ _ _ _ _ r1 q1 hb, η, ι1, ρ, st1, r1, re.post rs p1, f1.bind.imp fun ι2 H2 st2 ds p2 r2 _ f2 vs q2 => ⟨η, ι2, st2, d, ds, r2, rel.post r1 p2 q1, q2, ?_⟩⟩
      cases hr : bmD st2 m d ds with
      | ok y st3 => rw [hr] at f2; exact f2
      | bad => rw [hr] at f2; exact f2
      | exc x st3 => exact (bmD_calm hr).elim
    · exact f1.elim⟩
theorem s_bm0 {m : BM} {name : Str} {t id : String} (pa : PlainAttrs t) (slot : Slot t name id) (hty : typeOf (.builtin id) = pure (.type "method_descriptor")) (hm : MtR X id (rM X.K N m))
    (htv : ∀ η ι H st d x, RelSt X.K (N.h η) ι H st → rel X.K (N.h η) ι H d x → bmTy st m d = true → tyV X.K t x H) (ho : PE X o (tE X.K N W mo))
    (hbase : attributeBase o name X.env (eval o X.env) = eval o X.env) (hline : (apos.endLine == pos.line) = true) :
    PE X (.Call (.Attribute o name apos) [] [] pos) (tE X.K N W fun ρ st => (mo ρ st).bind fun x st => if bmTy st m x then (R.ok [] st).bind fun ds st => bmD st m x ds else .bad) :=
  PE.wk (pe_bm0 pa slot hty hm ho hbase hline) fun σ H Q ⟨η, ι, ρ, st, rs, re, f⟩ => ⟨η, ι, ρ, st, rs, re, f.bind.imp fun ι1 H1 st1 d p1 r1 _ f1 v q1 => by
    split at f1
    · rename_i hb
      refine ⟨htv _ _ _ _ _ _ r1 q1 hb, η, ι1, st1, d, [], r1, q1, rfl, ?_⟩
      cases hr : bmD st1 m d [] with
      | ok y st3 => simp only [R.bind_ok, hr] at f1; exact f1
      | bad => simp only [R.bind_ok, hr] at f1; exact f1
      | exc x st3 => exact (bmD_calm hr).elim
    · exact f1.elim⟩
theorem s_bits (ho : PE X o (tE X.K N W mo)) (hbase : attributeBase o "bit_length" X.env (eval o X.env) = eval o X.env) (hline : (apos.endLine == pos.line) = true) :
    PE X (.Call (.Attribute o "bit_length" apos) [] [] pos) (tE X.K N W fun ρ st => (mo ρ st).bind fun x st => if bmTy st .bitLength x then (R.ok [] st).bind fun ds st => bmD st .bitLength x ds else .bad) :=
  PE.wk (pe_bits ho hbase hline) fun σ H Q ⟨η, ι, ρ, st, rs, re, f⟩ => ⟨η, ι, ρ, st, rs, re, f.bind.imp fun ι1 H1 st1 d p1 r1 _ f1 v q1 => by
    cases d with
    | int i => exact ⟨i, q1, f1 ι1 H1 .refl r1 _ rfl⟩
    | loc n => exact f1.elim
    | _ => exact f1.elim⟩
/-- a dict of the module -/
theorem s_kix {x : Str} {ks : List Str} {ds : List D} {ad : Addr} (hu : X.A.units + 64 < cLine) (hg : Gl X x) (hm : X.mg x = some (.ref ad)) (hdb : (x == ("__debug__" : Str)) = false)
    (hk : ∀ z d, lookS z ks ds = some d → ∃ v, KDct X.K X.w ad z v ∧ ∀ η ι H, rel X.K (N.h η) ι H d v) (hb : PE X b (tE X.K N W mb)) (hs : PlainIx b) :
    PE X (.Subscript (.Name x p) b pos) (tE X.K N W fun ρ st => (mb ρ st).bind fun y st => match y with
      | .str z => .of (lookS z ks ds) st
      | _ => .bad) :=
  PE.wk (pe_ix ix_kdict (pe_glob (v := .ref ad) hg hm rfl hdb) hb hs) fun σ H Q ⟨η, ι, ρ, st, rs, re, f⟩ => by
    refine ⟨η, ι, ρ, st, rs, re, f.bind.imp fun ι1 H1 st1 d p1 r1 _ f1 v q1 => ?_⟩
    cases d with
    | str z =>
      obtain ⟨w, e1, f2⟩ := f1.ofE
      obtain ⟨u, h1, h2⟩ := hk z w e1
      exact ⟨ad, z, u, rfl, q1, h1, f2 ι1 H1 .refl r1 _ (h2 _ _ _)⟩
    | _ => exact f1.elim
end
end G

set_option Elab.async false
set_option linter.all false
set_option maxRecDepth 100000
/-! E1: statements. -/
namespace G
open PySem L2
section
variable {X : Cx} {N : Nms} {W : WX} {T : Tab} {e c o tg : Expr} {s : Stmt} {r a b body : List Stmt} {es : List Expr} {p pos : Pos} {me mc mo : Env' → Store → R D} {ms : Env' → Store → R (List D)} {m m2 mb : Env' → Store → R Fl}
/-- what is wished of a statement's ends -/
def kF (K : PySem.W.Frag) (N : Nms) (D : Ends) : List Addr → Hp → Store → Fl → Prop := fun ι' H' _ f => match f with
  | .next ρ' => ∀ σ', relE K N ι' H' ρ' σ' → D.nx σ' H'
  | .brk ρ' => ∀ σ', relE K N ι' H' ρ' σ' → D.bk σ' H'
  | .cnt ρ' => ∀ σ', relE K N ι' H' ρ' σ' → D.ct σ' H'
  | .ret d => ∀ v, rel K N ι' H' d v → D.rt v H'
def thenS (ms : Env' → Store → R Fl) (f : Fl) (st : Store) : R Fl := match f with
  | .next ρ => ms ρ st
  | f => .ok f st
theorem s_expr (he : PE X e (tE X.K N W me)) (hs : swapsWith e none pos.line X.env = pure false) : PS X (.Expr e pos) (tS X.K N W fun ρ st => (me ρ st).bind fun _ st => .ok (.next ρ) st) :=
  PS.wk (ps_expr he hs) fun σ H D ⟨η, ι, ρ, st, rs, re, f⟩ => ⟨η, ι, ρ, st, rs, re, f.bind.imp fun ι1 H1 st1 d p1 r1 _ f1 v q1 => f1.of_ok r1 σ (re.post rs p1)⟩
theorem s_doc {x : Str} {j : Nat} {pos' : Pos} : PS X (.Expr (.Constant (.str x) j p) pos') (tS X.K N W fun ρ st => .ok (.next ρ) st) :=
  PS.wk ps_doc fun σ H D ⟨η, ι, ρ, st, rs, re, f⟩ => f.of_ok rs σ re
theorem s_pass : PS X (.Pass pos) (tS X.K N W fun ρ st => .ok (.next ρ) st) :=
  PS.wk ps_pass fun σ H D ⟨η, ι, ρ, st, rs, re, f⟩ => f.of_ok rs σ re
theorem s_brk : PS X (.Break pos) (tS X.K N W fun ρ st => .ok (.brk ρ) st) :=
  PS.wk ps_break fun σ H D ⟨η, ι, ρ, st, rs, re, f⟩ => f.of_ok rs σ re
theorem s_cnt : PS X (.Continue pos) (tS X.K N W fun ρ st => .ok (.cnt ρ) st) :=
  PS.wk ps_continue fun σ H D ⟨η, ι, ρ, st, rs, re, f⟩ => f.of_ok rs σ re
theorem s_ret (he : PE X e (tE X.K N W me)) : PS X (.Return (some e) pos) (tS X.K N W fun ρ st => (me ρ st).bind fun d st => .ok (.ret d) st) :=
  PS.wk (ps_ret he) fun σ H D ⟨η, ι, ρ, st, rs, re, f⟩ => ⟨η, ι, ρ, st, rs, re, f.bind.imp fun ι1 H1 st1 d p1 r1 _ f1 v q1 => f1.of_ok r1 v q1⟩
theorem s_retN : PS X (.Return none pos) (tS X.K N W fun _ st => .ok (.ret .non) st) :=
  PS.wk ps_retN fun σ H D ⟨η, ι, ρ, st, rs, re, f⟩ => f.of_ok rs .non rfl
theorem s_asg {sl : List Nat} {mg : D → Env' → Store → R Env'} (he : PE X e (tE X.K N W me)) (hg : PG X tg (tG X.K N W sl mg)) (hs : swapsWithSole [tg] e pos.line X.env = pure false) (hw : swappedStores [tg] e X.env = pure none)
    (h1 : (assignEach [tg] X.env).map (·.2) = [assign tg X.env]) : PS X (.Assign [tg] e pos) (tS X.K N W fun ρ st => (me ρ st).bind fun d st => (mg d ρ st).bind fun ρ st => .ok (.next ρ) st) :=
  PS.wk (ps_asg he hg hs hw h1) fun σ H D ⟨η, ι, ρ, st, rs, re, f⟩ => ⟨η, ι, ρ, st, rs, re, f.bind.imp fun ι1 H1 st1 d p1 r1 _ f1 v q1 =>
    ⟨η, ι1, ρ, st1, d, r1, re.post rs p1, q1, f1.bind.imp fun ι2 H2 st2 ρ2 p2 r2 _ f2 σ2 re2 _ => f2.of_ok r2 σ2 re2⟩⟩
theorem s_par {i j : Nat} {x y : Str} {a b : Expr} {px py pt : Pos} {kt k2 pt2} (hc : X.calm = true) (hN : X.N.Nodup) (hi : X.N[i]? = some x) (hj : X.N[j]? = some y) (hij : i ≠ j)
    (hx : X.env.scope.names.lookup x = some .local) (hy : X.env.scope.names.lookup y = some .local) (ha : PA X [a, b] (tA X.K N W ms))
    (hw : swappedStores [.Tuple [.Name x px, .Name y py] kt pt] (.Tuple [a, b] k2 pt2) X.env = pure (some [x, y]))
    (hs : swapsWithSole [.Tuple [.Name x px, .Name y py] kt pt] (.Tuple [a, b] k2 pt2) pos.line X.env = pure false) :
    PS X (.Assign [.Tuple [.Name x px, .Name y py] kt pt] (.Tuple [a, b] k2 pt2) pos) (tS X.K N W fun ρ st => (ms ρ st).bind fun ds st => if ds.length = [i, j].length ∧ [i, j].all (· < ρ.length) then .ok (.next (setAll ρ [i, j] ds)) st else .bad) :=
  PS.wk (ps_par hc hN hi hj hij hx hy ha hw hs) fun σ H D ⟨η, ι, ρ, st, rs, re, f⟩ => ⟨η, ι, ρ, st, rs, re, f.bind.imp fun ι1 H1 st1 ds p1 r1 _ f1 vs q1 => by
    split at f1
    · rename_i hh
      match ds, hh.1 with
      | [d1, d2], _ =>
        obtain ⟨v1, _, rfl, w1, v2, _, rfl, w2, w3⟩ := q1
        have w3' := show _ = [] from w3
        subst w3'
        exact ⟨v1, v2, rfl, f1.of_ok r1 _ (((re.post rs p1).set i w1).set j w2)⟩
    · exact f1.elim⟩
theorem s_par3 {i j l : Nat} {x y z : Str} {a b c : Expr} {px py pz pt : Pos} {kt k2 pt2} (hc : X.calm = true) (hN : X.N.Nodup) (hi : X.N[i]? = some x) (hj : X.N[j]? = some y) (hl : X.N[l]? = some z) (hij : i ≠ j) (hil : i ≠ l) (hjl : j ≠ l)
    (hx : X.env.scope.names.lookup x = some .local) (hy : X.env.scope.names.lookup y = some .local) (hz : X.env.scope.names.lookup z = some .local) (ha : PA X [a, b, c] (tA X.K N W ms))
    (hw : swappedStores [.Tuple [.Name x px, .Name y py, .Name z pz] kt pt] (.Tuple [a, b, c] k2 pt2) X.env = pure (some [x, y, z]))
    (hs : swapsWithSole [.Tuple [.Name x px, .Name y py, .Name z pz] kt pt] (.Tuple [a, b, c] k2 pt2) pos.line X.env = pure false) :
    PS X (.Assign [.Tuple [.Name x px, .Name y py, .Name z pz] kt pt] (.Tuple [a, b, c] k2 pt2) pos) (tS X.K N W fun ρ st => (ms ρ st).bind fun ds st => if ds.length = [i, j, l].length ∧ [i, j, l].all (· < ρ.length) then .ok (.next (setAll ρ [i, j, l] ds)) st else .bad) :=
  PS.wk (ps_par3 hc hN hi hj hl hij hil hjl hx hy hz ha hw hs) fun σ H D ⟨η, ι, ρ, st, rs, re, f⟩ => ⟨η, ι, ρ, st, rs, re, f.bind.imp fun ι1 H1 st1 ds p1 r1 _ f1 vs q1 => by
    split at f1
    · rename_i hh
      match ds, hh.1 with
      | [d1, d2, d3], _ =>
        obtain ⟨v1, _, rfl, w1, v2, _, rfl, w2, v3, _, rfl, w3, w4⟩ := q1
        have w4' := show _ = [] from w4
        subst w4'
        exact ⟨v1, v2, v3, rfl, f1.of_ok r1 _ ((((re.post rs p1).set i w1).set j w2).set l w3)⟩
    · exact f1.elim⟩
theorem augD_ints {op : Operator} {d d2 z : D} (h : augD op d d2 = some z) : ∃ i j, d = .int i ∧ d2 = .int j ∧ ((op = .Add ∧ z = .int (i + j)) ∨ (op = .Sub ∧ z = .int (i - j))) := by
  unfold augD at h
  split at h
  · cases h; exact ⟨_, _, rfl, rfl, .inl ⟨rfl, rfl⟩⟩
  · cases h; exact ⟨_, _, rfl, rfl, .inr ⟨rfl, rfl⟩⟩
  · cases h
theorem s_aug {i : Nat} {x : Str} {op : Operator} {pos' : Pos} (hop : op = .Add ∨ op = .Sub) (hN : X.N.Nodup) (hi : X.N[i]? = some x) (hx : Loc X.env.scope x) (he : PE X e (tE X.K N W me)) (hf : X.fn x = true ∨ X.env.scope.names.lookup x = some .local) :
    PS X (.AugAssign (.Name x pos') op e pos) (tS X.K N W fun ρ st => match getVar ρ i with
      | none => .bad
      | some x => (me ρ st).bind fun y st => (R.of (augD op x y) st).bind fun z st => .ok (.next (ρ.set i (some z))) st) := by
  have key : ∀ {ti : TIp}, PIp X op ti → (∀ i j Q H, (∀ z, augD op (.int i) (.int j) = some (.int z) → Q (.int z) H) → ti (.int i) (.int j) H Q) → PS X (.AugAssign (.Name x pos') op e pos) (tS X.K N W fun ρ st => match getVar ρ i with
      | none => .bad
      | some x => (me ρ st).bind fun y st => (R.of (augD op x y) st).bind fun z st => .ok (.next (ρ.set i (some z))) st) := fun {ti} hp ht =>
    PS.wk (ps_aug hN hi hx he hp hf) fun σ H D ⟨η, ι, ρ, st, rs, re, f⟩ => by
      dsimp only at f
      split at f
      · exact f.elim
      · rename_i d ed
        obtain ⟨v, e1, e2⟩ := re.2 i d (by unfold getVar at ed; split at ed; · rename_i e'; cases ed; exact e'
                                           · cases ed)
        refine ⟨v, e1, η, ι, ρ, st, rs, re, f.bind.imp fun ι1 H1 st1 d2 p1 r1 _ f1 v2 q2 => ?_⟩
        obtain ⟨z, ez, f2⟩ := f1.bind.ofE
        obtain ⟨a, b, rfl, rfl, hz⟩ := augD_ints ez
        rw [show v = .int a from e2, show v2 = .int b from q2]
        refine ht _ _ _ _ fun z' hz' => ?_
        rw [hz'] at ez
        cases ez
        exact Fin.of_ok (f2 ι1 H1 .refl r1) r1 _ ((re.post rs p1).set i rfl)
  rcases hop with rfl | rfl
  · exact key ip_add fun i j Q H h => ⟨i, j, rfl, rfl, h _ rfl⟩
  · exact key ip_sub fun i j Q H h => ⟨i, j, rfl, rfl, h _ rfl⟩
theorem s_if (hc : PT X c (tT X.K N W (asB mc))) (ha : PSs X a (tS X.K N W m)) (hb : PSs X b (tS X.K N W m2)) : PS X (.If c a b pos) (tS X.K N W fun ρ st => (mc ρ st).bind fun x st => match x with
    | .bl true => m ρ st
    | .bl false => m2 ρ st
    | _ => .bad) :=
  PS.wk (ps_if hc ha hb) fun σ H D ⟨η, ι, ρ, st, rs, re, f⟩ => by
    have f' : Fin X.K (N.h η) ι H ((asB mc ρ st).bind fun b st => if b = true then m ρ st else m2 ρ st) (kF X.K (N.h η) D) (EW W) := by
      have e : (asB mc ρ st).bind (fun b st => if b = true then m ρ st else m2 ρ st) = (mc ρ st).bind fun x st => match x with
          | .bl true => m ρ st
          | .bl false => m2 ρ st
          | _ => .bad := by
        unfold asB
        cases mc ρ st with
        | ok d st => cases d with
          | bl b => cases b <;> rfl
          | _ => rfl
        | exc x st => rfl
        | bad => rfl
      rw [e]
      exact f
    refine ⟨η, ι, ρ, st, rs, re, f'.bind.imp fun ι1 H1 st1 b p1 r1 _ f1 => ?_⟩
    by_cases hb : b = true
    · rw [if_pos hb] at f1 ⊢; exact ⟨η, ι1, ρ, st1, r1, re.post rs p1, f1⟩
    · rw [if_neg hb] at f1 ⊢; exact ⟨η, ι1, ρ, st1, r1, re.post rs p1, f1⟩
theorem ss_nil : PSs X [] (tS X.K N W fun ρ st => .ok (.next ρ) st) :=
  PSs.wk pss_nil fun σ H D ⟨η, ι, ρ, st, rs, re, f⟩ => f.of_ok rs σ re
theorem ss_cons (h1 : PS X s (tS X.K N W m)) (h2 : PSs X r (tS X.K N W m2)) : PSs X (s :: r) (tS X.K N W fun ρ st => (m ρ st).bind (thenS m2)) :=
  PSs.wk (pss_cons h1 h2) fun σ H D ⟨η, ι, ρ, st, rs, re, f⟩ => ⟨η, ι, ρ, st, rs, re, f.bind.imp fun ι1 H1 st1 fl p1 r1 _ f1 => by
    cases fl with
    | next ρ' => exact fun σ' re' => ⟨η, ι1, ρ', st1, r1, re', f1⟩
    | brk ρ' => exact f1.of_ok r1
    | cnt ρ' => exact f1.of_ok r1
    | ret d => exact f1.of_ok r1⟩
theorem R.bind_assoc {α β γ : Type} (r : R α) (f : α → Store → R β) (g : β → Store → R γ) : (r.bind f).bind g = r.bind fun a st => (f a st).bind g := by
  cases r <;> rfl
/-- what a turn of a for does -/
def forTurn (k : IK) (ds : List D) (mg : D → Env' → Store → R Env') (mb : Env' → Store → R Fl) (i : Nat) (ρ : Env') (st : Store) : R (Sum Env' Fl) := match itAt st k ds i with
  | some (some x) => (mg x ρ st).bind fun ρ st => (mb ρ st).bind bodyEnd
  | _ => .bad
theorem s_for {k : IK} {sl : List Nat} {mg : D → Env' → Store → R Env'} {iter : Expr} (hp : PassesOwn (model X.prog X.w) X.A X.env X.xe) (hc : X.calm = true) (hi : PI X tg iter (tIt X.K N W k ms)) (hg : PG X tg (tG X.K N W sl mg)) (hb : PSs X body (tS X.K N W mb))
    (hs : ∀ x, foldedSetIterable iter X.env x = pure x) : PS X (.For tg iter body [] pos) (tS X.K N W fun ρ st => (ms ρ st).bind fun ds st => if itOk st k ds = true then (forR (itLen st k ds) 0 (forTurn k ds mg mb) ρ st).bind (forEnd k ds (itLen st k ds)) else .bad) :=
  PS.wk (ps_for hp hc hi hg hb hs) fun σ H D ⟨η, ι, ρ, st, rs, re, f⟩ => by
    refine ⟨η, ι, ρ, st, rs, re, f.bind.imp fun ι1 H1 st1 ds p1 r1 _ f1 => ?_⟩
    split at f1
    case isFalse => exact f1.elim
    case isTrue hok =>
    refine ⟨hok, fun J hJ => ?_⟩
    generalize hn : itLen st1 k ds = n at f1
    refine ⟨fun i m' σ2 H2 => ∃ ι2 st2 ρ2, m' = n - i ∧ i ≤ n ∧ Post ι1 H1 ι2 H2 ∧ RelSt X.K (N.h η) ι2 H2 st2 ∧ relE X.K (N.h η) ι2 H2 ρ2 σ2 ∧ Fin X.K (N.h η) ι2 H2 ((forR (n - i) i (forTurn k ds mg mb) ρ2 st2).bind (forEnd k ds n)) (kF X.K (N.h η) D) (EW W),
      ⟨n, ι1, st1, ρ, rfl, Nat.zero_le _, .refl, r1, re.post rs p1, f1⟩, ?_⟩
    rintro i m' σ2 H2 ⟨ι2, st2, ρ2, rfl, hi, p2, r2, re2, f2⟩
    obtain ⟨itgo, itstop⟩ := hJ η (.inl rfl) ι2 H2 st2 p2 r2 i
    by_cases hlt : i < n
    · refine .inr ?_
      have e : n - i = (n - (i + 1)) + 1 := by omega
      rw [e, forR_succ, R.bind_assoc] at f2
      cases hat : itAt st2 k ds i with
      | none => simp only [forTurn, hat] at f2; exact f2.elim
      | some oo =>
      cases oo with
      | none => simp only [forTurn, hat] at f2; exact f2.elim
      | some x =>
      obtain ⟨go, yl⟩ := itgo x hat
      refine ⟨go, fun σ6 H6 => ∃ ι2 st2 ρ2, i + 1 ≤ n ∧ Post ι1 H1 ι2 H6 ∧ RelSt X.K (N.h η) ι2 H6 st2 ∧ relE X.K (N.h η) ι2 H6 ρ2 σ6 ∧ Fin X.K (N.h η) ι2 H6 ((forR (n - (i + 1)) (i + 1) (forTurn k ds mg mb) ρ2 st2).bind (forEnd k ds n)) (kF X.K (N.h η) D) (EW W),
        fun σ6 H6 ⟨ι2, st2, ρ2, z⟩ => ⟨n - (i + 1), by omega, ι2, st2, ρ2, rfl, z⟩, fun v H3 hy => ?_⟩
      obtain ⟨p3, r3, q3⟩ := yl v H3 hy
      simp only [forTurn, hat] at f2
      refine ⟨η, ι2, ρ2, st2, x, r3, re2.post r2 p3, q3, (f2.mono p3).bind.bind.imp fun ι4 H4 st4 ρ4 p4 r4 _ f4 σ4 re4 _ => ?_⟩
      refine ⟨η, ι4, ρ4, st4, r4, re4, f4.bind.imp fun ι5 H5 st5 fl p5 r5 _ f5 => ?_⟩
      have p25 := ((p2.trans p3).trans p4).trans p5
      cases fl with
      | next ρ' => exact fun σ' re' => ⟨ι5, st5, ρ', hlt, p25, r5, re', f5.of_ok r5⟩
      | cnt ρ' => exact fun σ' re' => ⟨ι5, st5, ρ', hlt, p25, r5, re', f5.of_ok r5⟩
      | brk ρ' => exact (f5.of_ok r5).of_ok r5
      | ret d => exact (f5.of_ok r5).of_ok r5
    · have e : i = n := by omega
      subst e
      refine .inl ?_
      rw [Nat.sub_self] at f2
      have f3 : Fin X.K (N.h η) ι2 H2 (forEnd k ds i (.inl ρ2) st2) _ _ := f2
      unfold forEnd at f3
      dsimp only at f3
      split at f3
      · rename_i hh
        exact ⟨itstop hh.1 hh.2.symm, f3.of_ok r2 σ2 re2⟩
      · exact f3.elim
theorem s_whl {wf : Nat} (hp : PassesOwn (model X.prog X.w) X.A X.env X.xe) (hc : PT X c (tT X.K N W (asB mc))) (hb : PSs X body (tS X.K N W mb)) :
    PS X (.While c body [] pos) (tS X.K N W fun ρ st => whlR wf (asB mc) mb ρ st) :=
  PS.wk (ps_while hp hc hb) fun σ H D ⟨η, ι, ρ, st, rs, re, f⟩ => by
    refine ⟨fun m' σ2 H2 => ∃ ι2 st2 ρ2, RelSt X.K (N.h η) ι2 H2 st2 ∧ relE X.K (N.h η) ι2 H2 ρ2 σ2 ∧ Fin X.K (N.h η) ι2 H2 (whlR m' (asB mc) mb ρ2 st2) (kF X.K (N.h η) D) (EW W), ⟨wf, ι, st, ρ, rs, re, f⟩, ?_⟩
    rintro m' σ2 H2 ⟨ι2, st2, ρ2, r2, re2, f2⟩
    cases m' with
    | zero => exact f2.elim
    | succ n =>
      have f3 : Fin X.K (N.h η) ι2 H2 ((asB mc ρ2 st2).bind fun b st => if b then (mb ρ2 st).bind fun f st => match f with
        | .next ρ' => whlR n (asB mc) mb ρ' st
        | .cnt ρ' => whlR n (asB mc) mb ρ' st
        | .brk ρ' => .ok (.next ρ') st
        | .ret d => .ok (.ret d) st
        else .ok (.next ρ2) st) _ _ := f2
      refine ⟨η, ι2, ρ2, st2, r2, re2, f3.bind.imp fun ι4 H4 st4 b p4 r4 _ f4 => ?_⟩
      by_cases hb : b = true
      · rw [if_pos hb] at f4 ⊢
        refine ⟨fun σ6 H6 => ∃ ι2 st2 ρ2, RelSt X.K (N.h η) ι2 H6 st2 ∧ relE X.K (N.h η) ι2 H6 ρ2 σ6 ∧ Fin X.K (N.h η) ι2 H6 (whlR n (asB mc) mb ρ2 st2) (kF X.K (N.h η) D) (EW W), fun σ6 H6 z => ⟨n, Nat.lt_succ_self n, z⟩, ?_⟩
        refine ⟨η, ι4, ρ2, st4, r4, re2.post r2 p4, f4.bind.imp fun ι5 H5 st5 fl p5 r5 _ f5 => ?_⟩
        cases fl with
        | next ρ' => exact fun σ' re' => ⟨ι5, st5, ρ', r5, re', f5⟩
        | cnt ρ' => exact fun σ' re' => ⟨ι5, st5, ρ', r5, re', f5⟩
        | brk ρ' => exact f5.of_ok r5
        | ret d => exact f5.of_ok r5
      · rw [if_neg hb] at f4 ⊢
        exact f4.of_ok r4 σ2 (re2.post r2 p4)
end
end G

set_option Elab.async false
set_option linter.all false
set_option maxRecDepth 100000
/-! E2: what is seen of the text. -/
namespace G
open PySem L2
def isStar : Expr → Bool
  | .Starred _ _ => true
  | _ => false
def noStar : List Expr → Bool
  | [] => true
  | e :: es => !isStar e && noStar es
section
variable {env : Env} {e o b : Expr} {es : List Expr} {pos : Pos}
theorem star_cons (h : isStar e = false) : starEach (e :: es) env = (false, eval e env) :: starEach es env := by
  cases e <;> first | rfl | exact nomatch h
theorem noStar_any : ∀ {es : List Expr}, noStar es = true → (backTo pos (starEach es env)).any (·.1) = false
  | [], _ => rfl
  | e :: es, h => by
    simp only [noStar, Bool.and_eq_true, Bool.not_eq_true'] at h
    rw [star_cons h.1]
    show (false || (backTo pos (starEach es env)).any (·.1)) = false
    rw [noStar_any h.2]; rfl
theorem noStar_all : ∀ {es : List Expr}, noStar es = true → (backTo pos (starEach es env)).all (fun x => !x.1) = true
  | [], _ => rfl
  | e :: es, h => by
    simp only [noStar, Bool.and_eq_true, Bool.not_eq_true'] at h
    rw [star_cons h.1]
    show (true && (backTo pos (starEach es env)).all (fun x => !x.1)) = true
    rw [noStar_all h.2]; rfl
theorem few_ok (h : noStar es = true) (hl : es.length < 30) : ((backTo pos (starEach es env)).all (fun x => !x.1) && (backToKw pos (keywordEach [] env)).all (fun x => x.1.isSome)
      && decide (es.length + ([] : List Keyword).length + (if ([] : List Keyword).isEmpty then 0 else 1) < 30)) = true := by
  rw [noStar_all h]
  simpa [keywordEach, backToKw] using hl
def noBase : Expr → Bool
  | .Call (.Name _ _) [] [] _ => false
  | _ => true
theorem base_ok {f : Str} {whole : Sem Value} (h : noBase o = true) : attributeBase o f env whole = whole := by
  unfold attributeBase
  split
  · exact nomatch h
  · rfl
def plainIx : Expr → Bool
  | .Slice _ _ _ _ => false
  | _ => true
theorem plainIx_ok (h : plainIx b = true) : PlainIx b := fun o i => by
  unfold subscripted
  split
  · exact nomatch h
  · rename_i z; exact nomatch z
  · rfl
def plainTest : Expr → Bool
  | .UnaryOp .Not _ _ => false
  | .BoolOp _ _ _ => false
  | .IfExp _ _ _ _ => false
  | .Compare _ _ _ _ => false
  | _ => true
theorem plainTest_ok (h : plainTest e = true) (whole : Sem Value) : PySem.isTrue e env whole = (do let v ← whole; standAt e.pos; holding [v] (truthy v)) := by
  unfold PySem.isTrue
  split
  · exact nomatch h
  · exact nomatch h
  · exact nomatch h
  · exact nomatch h
  · rfl
def notSet : Expr → Bool
  | .Set _ _ _ => false
  | _ => true
theorem marks_ok {op : CmpOp} (h : notSet b = true) : behindInMarks op b = false := by
  unfold behindInMarks
  split
  · exact nomatch h
  · rfl
theorem fold_ok {x : Value} (h : notSet b = true) : foldedSetIterable b env x = pure x := by
  unfold foldedSetIterable
  split
  · exact nomatch h
  · rfl
def notComp : Expr → Bool
  | .ListComp _ _ _ _ => false
  | .SetComp _ _ _ _ => false
  | .DictComp _ _ _ _ _ => false
  | _ => true
theorem swaps_no {t : Option Expr} {l : Nat} (h : notComp e = true) : swapsWith e t l env = pure false := by
  unfold swapsWith
  cases e <;> first | rfl | exact nomatch h
theorem meth_eq {m : Str} {apos : Pos} (hb : noBase o = true) (hs : noStar es = true) (hn : es.length < 30) (hl : (apos.endLine == pos.line) = true) :
    eval (.Call (.Attribute o m apos) es [] pos) env = (do
      let ov ← eval o env
      standAt apos.atName
      let (f, first) ← holding [ov] (getMethod ov m (do return (← importBound o env).getD true))
      callWith pos f first (backTo pos (starEach es env)) (backToKw pos (keywordEach [] env))) := by
  have hform : methodCallForm (es.length + ([] : List Keyword).length) (backTo pos (starEach es env)) (backToKw pos (keywordEach [] env)) = true := few_ok hs hn
  rw [PySem.arm_eval_Call, base_ok hb]
  unfold methodCall
  rw [hform]
  unfold calleeOf methodCallPos
  rw [hl]
  rfl
theorem swaps_name {elt : Expr} {gens : List Comprehension} {scope : Scope} {lp p : Pos} {t : Str} {l : Nat} (b : Bool) (h : (env.blockKind == .function && env.kindOf t == some .local && p.line == lp.line && !(scope.names.any fun (n, k) => n == t && (k == .local || k == .cell))) = b) :
    swapsWith (.ListComp elt gens scope lp) (some (.Name t p)) l env = pure b := by
  subst h; rfl
theorem swaps_other {t : Expr} {l : Nat} (h : ∀ x p, t ≠ .Name x p) : swapsWith e (some t) l env = pure false := by
  unfold swapsWith
  cases e <;> first | rfl | (cases t <;> first | rfl | exact (h _ _ rfl).elim)
theorem assign_one (h : isStar e = false) : (assignEach [e] env).map (·.2) = [assign e env] := by
  cases e <;> first | rfl | exact nomatch h
theorem assign_cons (h : isStar e = false) : (assignEach (e :: es) env).map (·.2) = assign e env :: (assignEach es env).map (·.2) := by
  cases e <;> first | rfl | exact nomatch h
theorem assign_len : ∀ {es : List Expr}, (assignEach es env).length = es.length
  | [] => rfl
  | e :: es => by cases e <;> simp [assignEach, assign_len (es := es)]
theorem assign_find : ∀ {es : List Expr}, noStar es = true → (assignEach es env).findIdx? (·.1) = none
  | [], _ => rfl
  | e :: es, h => by
    simp only [noStar, Bool.and_eq_true, Bool.not_eq_true'] at h
    have ih := assign_find h.2
    have : assignEach (e :: es) env = (false, assign e env) :: assignEach es env := by
      cases e <;> first | rfl | exact nomatch h.1
    rw [this, List.findIdx?_cons]
    simp [ih]
/-- a target and a value that are no two tuples -/
def notTups : Expr → Expr → Bool
  | .Tuple _ _ _, .Tuple _ _ _ => false
  | .List _ _, .Tuple _ _ _ => false
  | _, _ => true
theorem stores_no {t : Expr} (h : notTups t e = true) : swappedStores [t] e env = pure none := by
  unfold swappedStores
  cases t <;> first | rfl | (cases e <;> first | rfl | exact nomatch h)
/-- two tuples stored the common way: not all targets are plain local names -/
def loc1 (names : List (Str × NameKind)) (line : Nat) : Expr → Bool
  | .Name id pos => names.lookup id == some .local && pos.line == line
  | _ => false
def plainTups (names : List (Str × NameKind)) : Expr → Expr → Bool
  | .Tuple (t :: ts) _ _, .Tuple vs _ _ => !((t :: ts).all (loc1 names t.pos.line)) || vs.all (foldedForSure 8)
  | _, _ => false
theorem filterMap_len {α β : Type} (f : α → Option β) : ∀ l : List α, (l.filterMap f).length ≤ l.length ∧ (l.all (fun a => (f a).isSome) = false → (l.filterMap f).length ≠ l.length)
  | [] => ⟨Nat.le_refl _, fun h => nomatch h⟩
  | a :: l => by
    obtain ⟨h1, h2⟩ := filterMap_len f l
    cases e : f a with
    | none =>
      rw [List.filterMap_cons_none e]
      exact ⟨by rw [List.length_cons]; omega, fun _ => by rw [List.length_cons]; omega⟩
    | some b =>
      rw [List.filterMap_cons_some e]
      refine ⟨by rw [List.length_cons, List.length_cons]; omega, fun h => ?_⟩
      rw [List.all_cons, e] at h
      have := h2 (by simpa using h)
      rw [List.length_cons, List.length_cons]; omega
def nameF (names : List (Str × NameKind)) (line : Nat) : Expr → Option Str
  | .Name id pos => if (names.lookup id == some .local && pos.line == line) = true then some id else none
  | _ => none
theorem nameF_some (names : List (Str × NameKind)) (line : Nat) (e : Expr) : (nameF names line e).isSome = loc1 names line e := by
  cases e with
  | Name id pos =>
    simp only [nameF, loc1]
    cases (names.lookup id == some .local && pos.line == line) <;> rfl
  | _ => rfl
theorem stores_plain {t : Expr} (h : plainTups env.scope.names t e = true) : swappedStores [t] e env = pure none := by
  unfold plainTups at h
  split at h
  · rename_i t ts k p vs k2 p2
    unfold swappedStores
    dsimp only
    split
    · rfl
    · split
      · rfl
      · split
        · rfl
        · rename_i hx
          rw [Bool.or_eq_true] at h
          rcases h with h | h
          · exfalso
            apply hx
            rw [Bool.or_eq_true]
            left
            have h3 := (filterMap_len (nameF env.scope.names t.pos.line) (t :: ts)).2 (by
              rw [Bool.not_eq_true'] at h
              rw [← h]
              congr 1
              funext a
              exact nameF_some _ _ a)
            refine bne_iff_ne.mpr fun z => h3 (Eq.trans (congrArg List.length ?_) z)
            refine congrArg (fun f => List.filterMap f (t :: ts)) (funext fun a => ?_)
            cases a <;> rfl
          · rw [if_pos h]
  · exact nomatch h
theorem stores_two {x y : Str} {px py pt pt2 : Pos} {kt k2 : Nat} {a b : Expr} (hk : env.blockKind = .function) (hx : env.scope.names.lookup x = some .local) (hy : env.scope.names.lookup y = some .local) (hp : px.line = py.line) (hne : x ≠ y)
    (h1 : isStar a = false) (h2 : isStar b = false) (h3 : (foldedForSure 8 a && foldedForSure 8 b) = false) (h4 : (constantsAlone 8 a && constantsAlone 8 b) = false) :
    swappedStores [.Tuple [.Name x px, .Name y py] kt pt] (.Tuple [a, b] k2 pt2) env = pure (some [x, y]) := by
  have s1 : ∀ e : Expr, isStar e = false → (match e with | .Starred .. => true | _ => false) = false := by
    intro e he
    cases e <;> first | rfl | exact he
  have h3' : [a, b].all (foldedForSure 8) = false := by simpa using h3
  have h4' : [a, b].all (constantsAlone 8) = false := by simpa using h4
  have hx' : env.kindOf x = some .local := hx
  have hy' : env.kindOf y = some .local := hy
  have ne' : (y == x) = false := beq_eq_false_iff_ne.mpr (Ne.symm hne)
  unfold swappedStores
  simp [hk, hx', hy', hp, h3', h4', ne', List.eraseDups_cons, Expr.pos, hne, Ne.symm hne]
  intro z
  rcases z with z | z
  · exact nomatch (s1 a h1).symm.trans z
  · exact nomatch (s1 b h2).symm.trans z
theorem stores_three {x y w : Str} {px py pw pt pt2 : Pos} {kt k2 : Nat} {a b c : Expr} (hk : env.blockKind = .function) (hx : env.scope.names.lookup x = some .local) (hy : env.scope.names.lookup y = some .local) (hw : env.scope.names.lookup w = some .local) (hp : px.line = py.line) (hp2 : px.line = pw.line) (hne : x ≠ y) (hne2 : x ≠ w) (hne3 : y ≠ w)
    (h1 : isStar a = false) (h2 : isStar b = false) (h2' : isStar c = false) (h3 : (foldedForSure 8 a && (foldedForSure 8 b && foldedForSure 8 c)) = false) (h4 : (constantsAlone 8 a && (constantsAlone 8 b && constantsAlone 8 c)) = false) :
    swappedStores [.Tuple [.Name x px, .Name y py, .Name w pw] kt pt] (.Tuple [a, b, c] k2 pt2) env = pure (some [x, y, w]) := by
  have s1 : ∀ e : Expr, isStar e = false → (match e with | .Starred .. => true | _ => false) = false := by
    intro e he
    cases e <;> first | rfl | exact he
  have h3' : [a, b, c].all (foldedForSure 8) = false := by simpa using h3
  have h4' : [a, b, c].all (constantsAlone 8) = false := by simpa using h4
  have hx' : env.kindOf x = some .local := hx
  have hy' : env.kindOf y = some .local := hy
  have hw' : env.kindOf w = some .local := hw
  have n1 : (y == x) = false := beq_eq_false_iff_ne.mpr (Ne.symm hne)
  have n2 : (w == x) = false := beq_eq_false_iff_ne.mpr (Ne.symm hne2)
  have n3 : (w == y) = false := beq_eq_false_iff_ne.mpr (Ne.symm hne3)
  unfold swappedStores
  simp [hk, hx', hy', hw', hp, ← hp2, h3', h4', n1, n2, n3, List.eraseDups_cons, Expr.pos]
  intro z
  rcases z with z | z | z
  · exact nomatch (s1 a h1).symm.trans z
  · exact nomatch (s1 b h2).symm.trans z
  · exact nomatch (s1 c h2').symm.trans z
end
end G

set_option Elab.async false
set_option linter.all false
set_option maxRecDepth 100000
/-! E3: some more rules; globals. -/
namespace G
open PySem L2
section
variable {X : Cx} {N : Nms} {W : WX} {T : Tab} {a b c e o : Expr} {pos apos p : Pos} {ma mb mc me mo : Env' → Store → R D}
theorem test_read {m : Env' → Store → R D} {σ : St} {H : Hp} {Q : Bool → Hp → Prop} (h : tT X.K N W (asB m) σ H Q) : tE X.K N W m σ H fun v H' => ∃ k, v = .bl k ∧ Q k H' := by
  obtain ⟨η, ι, ρ, st, rs, re, f⟩ := h
  refine ⟨η, ι, ρ, st, rs, re, f.bind.imp fun ι1 H1 st1 d p1 r1 _ f1 v q1 => ?_⟩
  obtain ⟨k, rfl, f2⟩ := asB_bl f1
  exact ⟨k, q1, f2 ι1 H1 .refl r1⟩
theorem chain_read {op op' : CmpOp} {σ : St} {H : Hp} {Q : VK} (h : tE X.K N W (fun ρ st => (ma ρ st).bind fun x st => (mb ρ st).bind fun y st => (R.of (cmpD st op x y) st).bind fun k st =>
      if k then (mc ρ st).bind fun z st => (R.of (cmpD st op' y z) st).bind fun k st => .ok (.bl k) st else .ok (.bl false) st) σ H Q) :
    tChain (r2 X.K N fun st x y => (R.of (cmpD st op x y) st).bind fun k st => .ok (.bl k) st) (r2 X.K N fun st x y => (R.of (cmpD st op' x y) st).bind fun k st => .ok (.bl k) st) (tE X.K N W ma) (tE X.K N W mb) (tE X.K N W mc) σ H Q := by
  obtain ⟨η, ι, ρ, st, rs, re, f⟩ := h
  exact ⟨η, ι, ρ, st, rs, re, f.bind.imp fun ι1 H1 st1 d p1 r1 _ f1 v q1 => ⟨η, ι1, ρ, st1, r1, re.post rs p1, f1.bind.imp fun ι2 H2 st2 d2 p2 r2 _ f2 v2 q2 => ⟨η, ι2, st2, d, d2, r2, rel.post r1 p2 q1, q2, by
      obtain ⟨k, e1, f3⟩ := f2.bind.ofE
      show Fin X.K (N.h η) ι2 H2 ((R.of (cmpD st2 op d d2) st2).bind fun k st => R.ok (D.bl k) st) _ _
      rw [e1]
      refine Fin.of_mk fun ι3 H3 p3 r3 v3 q3 => ⟨k, q3, ?_⟩
      have f4 := f3 ι3 H3 p3 r3
      have re3 := ((re.post rs p1).post r1 p2).post r2 p3
      cases k with
      | true =>
        refine iteT ⟨η, ι3, ρ, st2, r3, re3, f4.bind.imp fun ι4 H4 st4 d4 p4 r4 _ f5 v4 q4 => ⟨η, ι4, st4, d2, d4, r4, rel.post r3 p4 (rel.post r2 p3 q2), q4, by
          obtain ⟨k', e2, f6⟩ := f5.bind.ofE
          show Fin X.K (N.h η) ι4 H4 ((R.of (cmpD st4 op' d2 d4) st4).bind fun k st => R.ok (D.bl k) st) _ _
          rw [e2]
          exact (f6 ι4 H4 .refl r4)⟩⟩
      | false => exact iteF (f4.of_ok r3 _ rfl)⟩⟩⟩
theorem s_chainT {op op' : CmpOp} (hu : X.A.units + 64 < cLine) (hm : lastMarks [op, op'] [b, c] = false) (ha : PE X a (tE X.K N W ma)) (hb : PE X b (tE X.K N W mb)) (hc : PE X c (tE X.K N W mc)) :
    PT X (.Compare a [op, op'] [b, c] pos) (tT X.K N W (asB fun ρ st => (ma ρ st).bind fun x st => (mb ρ st).bind fun y st => (R.of (cmpD st op x y) st).bind fun k st =>
      if k then (mc ρ st).bind fun z st => (R.of (cmpD st op' y z) st).bind fun k st => .ok (.bl k) st else .ok (.bl false) st)) :=
  PT.wk (pt_chain (o_cmp op hu) (o_cmp op' hu) ha hb hc hm) fun σ H Q h => chain_read (test_read h)
/-- o.f op= e -/
theorem augR_of {op : Operator} (hop : op = .Add ∨ op = .Sub) : ∃ rd, InOp X op rd ∧ ∀ i j Q H, (∀ z, augD op (.int i) (.int j) = some (.int z) → Q (.int z) H) → rd (.int i) (.int j) H Q := by
  rcases hop with rfl | rfl
  · exact ⟨rAdd, in_add, fun i j Q H h => ⟨i, j, rfl, rfl, h _ rfl⟩⟩
  · exact ⟨rSub, in_sub, fun i j Q H h => ⟨i, j, rfl, rfl, h _ rfl⟩⟩
theorem s_augf {g : Nat} {op : Operator} (hj : Inj N) (hc : ∀ c, T.has c g = true → Cls X.K (N.cls c) ∧ NoAttr X.K (N.cls c) (N.attr g)) (hop : op = .Add ∨ op = .Sub) (ho : PE X o (tE X.K N W mo)) (he : PE X e (tE X.K N W me)) :
    PS X (.AugAssign (.Attribute o (N.attr g) p) op e pos) (tS X.K N W fun ρ st => (mo ρ st).bind fun x st => match x with
      | .loc n => match attrD T st (.loc n) g with
        | some v => match instOf st (.loc n) with
          | some (c0, _) => (me ρ st).bind fun y st => (R.of (augD op v y) st).bind (augEnd T n g c0 ρ)
          | none => .bad
        | none => .bad
      | _ => .bad) := by
  obtain ⟨rd, hin, hrd⟩ := augR_of (X := X) hop
  refine PS.wk (ps_fldaug ho he hin) fun σ H D ⟨η, ι, ρ, st, rs, re, f⟩ => ⟨η, ι, ρ, st, rs, re, f.bind.imp fun ι1 H1 st1 d p1 r1 _ f1 v q1 => ?_⟩
  cases d with
  | loc n =>
    dsimp only at f1
    split at f1
    · rename_i w hw
      split at f1
      · rename_i c0 ns0 hc0
        obtain ⟨ad, cc, dx, fs, u, rfl, h1, h2, h3, h4⟩ := attrD_at (N := N.h η) hj r1 q1 hw
        obtain ⟨a0, dx0, xs0, e0, h10⟩ := instOf_at r1 q1 hc0
        cases e0
        rw [h1] at h10
        have hcc : N.cls cc = N.cls c0 := by injection h10 with h10; injection h10
        obtain ⟨cl, na⟩ := hc cc h2
        refine ⟨ad, N.cls cc, dx, fs, u, rfl, h1, cl, na, h3, η, ι1, ρ, st1, r1, re.post rs p1, f1.bind.imp fun ι2 H2 st2 y p2 r2 _ f2 v2 q2 => ?_⟩
        obtain ⟨z, ez, f3⟩ := f2.bind.ofE
        obtain ⟨i, j, rfl, rfl, hz⟩ := augD_ints ez
        rw [show u = .int i from h4, show v2 = .int j from q2]
        refine hrd _ _ _ _ fun z' hz' => ?_
        rw [hz'] at ez
        cases ez
        have f4 := f3 ι2 H2 .refl r2
        obtain ⟨ad', e1, e2⟩ := q1
        cases e1
        have e3 := p2.get e2
        unfold augEnd at f4
        split at f4
        · rename_i c ns l hl
          split at f4
          · rename_i hh
            obtain ⟨hcc0, hns, hhas⟩ := hh
            subst hcc0
            obtain ⟨ho', g1, dx', xs, rfl, g2, g3⟩ := r2.get e3 hl
            obtain ⟨ys, k1, k2, k3, k4⟩ := putA_rel (N := N.h η) (f := g) (d := .int z') (v := .int z') hj rfl g3 g2
            have m1 := mem_of_get e3
            refine ⟨dx', _, by rw [hcc]; exact g1, by rw [List.length_zip, List.length_map]; omega, ?_⟩
            rw [hcc]
            refine f4 ι2 _ (.wrote m1) (r2.wrote e3 ⟨dx', ys, ?_, k2, k3.post r2 (.wrote m1)⟩) σ (((re.post rs p1).post r1 p2).post r2 (.wrote m1))
            exact congrArg (HO.ins _ dx') k1
          · exact f4.elim
        · exact f4.elim
      · exact f1.elim
    · exact f1.elim
  | _ => exact f1.elim
end
end G

set_option Elab.async false
set_option linter.all false
set_option maxRecDepth 100000
/-! E4: that a core text is what a text of the program says. -/
namespace G
open PySem L2

mutual
/-- alike, of plain things -/
def sameD : D → D → Bool
  | .non, .non => true
  | .bl a, .bl b => a == b
  | .int a, .int b => decide (a = b)
  | .str a, .str b => decide (a = b)
  | .tup a, .tup b => sameDs a b
  | _, _ => false
def sameDs : List D → List D → Bool
  | [], [] => true
  | a :: r, b :: s => sameD a b && sameDs r s
  | _, _ => false
end
mutual
theorem sameD_eq : ∀ {a b : D}, sameD a b = true → a = b
  | .non, .non, _ => rfl
  | .bl a, .bl b, h => by rw [show a = b from eq_of_beq h]
  | .int a, .int b, h => by rw [of_decide_eq_true h]
  | .str a, .str b, h => by rw [of_decide_eq_true h]
  | .tup a, .tup b, h => by rw [sameDs_eq h]
  | .non, .bl _, h | .non, .int _, h | .non, .str _, h | .non, .tup _, h | .non, .lst _, h | .non, .ro _, h | .non, .obj _ _ _, h | .non, .dct _ _, h | .non, .loc _, h | .non, .fn _, h | .non, .cls _, h | .non, .ty _, h => nomatch h
  | .bl _, .non, h | .bl _, .int _, h | .bl _, .str _, h | .bl _, .tup _, h | .bl _, .lst _, h | .bl _, .ro _, h | .bl _, .obj _ _ _, h | .bl _, .dct _ _, h | .bl _, .loc _, h | .bl _, .fn _, h | .bl _, .cls _, h | .bl _, .ty _, h => nomatch h
  | .int _, .non, h | .int _, .bl _, h | .int _, .str _, h | .int _, .tup _, h | .int _, .lst _, h | .int _, .ro _, h | .int _, .obj _ _ _, h | .int _, .dct _ _, h | .int _, .loc _, h | .int _, .fn _, h | .int _, .cls _, h | .int _, .ty _, h => nomatch h
  | .str _, .non, h | .str _, .bl _, h | .str _, .int _, h | .str _, .tup _, h | .str _, .lst _, h | .str _, .ro _, h | .str _, .obj _ _ _, h | .str _, .dct _ _, h | .str _, .loc _, h | .str _, .fn _, h | .str _, .cls _, h | .str _, .ty _, h => nomatch h
  | .tup _, .non, h | .tup _, .bl _, h | .tup _, .int _, h | .tup _, .str _, h | .tup _, .lst _, h | .tup _, .ro _, h | .tup _, .obj _ _ _, h | .tup _, .dct _ _, h | .tup _, .loc _, h | .tup _, .fn _, h | .tup _, .cls _, h | .tup _, .ty _, h => nomatch h
  | .lst _, b, h | .ro _, b, h | .obj _ _ _, b, h | .dct _ _, b, h | .loc _, b, h | .fn _, b, h | .cls _, b, h | .ty _, b, h => by simp [sameD] at h
theorem sameDs_eq : ∀ {a b : List D}, sameDs a b = true → a = b
  | [], [], _ => rfl
  | a :: r, b :: s, h => by
    simp only [sameDs, Bool.and_eq_true] at h
    rw [sameD_eq h.1, sameDs_eq h.2]
  | [], _ :: _, h => nomatch h
  | _ :: _, [], h => nomatch h
end

structure CC where
  N : List Str
  sc : Scope
  fnc : List Str
  fns : List (Nat × Str)
  clss : List (Nat × Str)
  attrs : List (Nat × Str)
  cons : List (Str × D)
  kds : List (Str × (List Str × List D))
  free : List Str
  gcd : Bool

def plainName (x : Str) : Bool := !(x == ("__debug__" : Str)) && !(x == ("__classdict__" : Str)) && !(x == ("__name__" : Str))
def glb (cc : CC) (x : Str) : Bool := cc.sc.names.lookup x == some .globalImplicit && plainName x
def visN (cc : CC) (i : Nat) (x : Str) : Bool := cc.N[i]? == some x && (match cc.sc.names.lookup x with
  | some .local => true
  | some .cell => true
  | some .free => true
  | _ => false) && plainName x
def stoN (cc : CC) (i : Nat) (x : Str) : Bool := cc.N[i]? == some x && (match cc.sc.names.lookup x with
  | some .local => true
  | some .cell => cc.fnc.contains x
  | _ => false)
/-- names of built-in classes and functions -/
def tyName : BT → Str
  | .non => "NoneType"
  | .bl => "bool"
  | .int => "int"
  | .str => "str"
  | .tup => "tuple"
  | .lst => "list"
  | .dct => "dict"
def biName : BI → Option (Str × Value)
  | .len => some ("len", .builtin "len")
  | .isinstance => some ("isinstance", .builtin "isinstance")
  | .all => some ("all", .builtin "all")
  | .any => some ("any", .builtin "any")
  | .abs => some ("abs", .builtin "abs")
  | .tuple => some ("tuple", .type "tuple")
  | .list => some ("list", .type "list")
  | .int => some ("int", .type "int")
  | .str => some ("str", .type "str")
  | _ => none
def biNameO : BI → Option (Str × Value)
  | .list => some ("list", .type "list")
  | .dict => some ("dict", .type "dict")
  | _ => none
def bltn (cc : CC) (x : Str) : Bool := glb cc x && cc.free.contains x

def litD : Const → Option D
  | .none => some .non
  | .bool b => some (.bl b)
  | .int i => some (.int i)
  | .str s => some (.str s)
  | _ => none
def chkLit (cc : CC) (e : Expr) (d : D) : Bool := match e with
  | .Constant k _ _ => match litD k with
    | some d' => sameD d' d
    | none => false
  | .Name x _ => glb cc x && (match d with
    | .cls c => match cc.clss.lookup c with
      | some y => y == x
      | none => false
    | .ty b => cc.free.contains x && x == tyName b && b != .non
    | d => match cc.cons.lookup x with
      | some d' => sameD d' d
      | none => false)
  | _ => false
def keysOk : List (Option Expr) → List Key → Bool
  | [], [] => true
  | some (.Constant (.str s) _ _) :: r, .inr t :: ks => decide (s = t) && keysOk r ks
  | some (.Constant (.int i) _ _) :: r, .inl j :: ks => decide (i = j) && keysOk r ks
  | _, _ => false
def okOp : Operator → Bool
  | .Add | .Sub | .Mult | .FloorDiv | .Mod | .Pow => true
  | _ => false
def bmName : BM → Option Str
  | .append => some "append"
  | .extend => some "extend"
  | .pop => some "pop"
  | _ => none
mutual
/-- the slots that a target stores -/
def tgSl : Tg → List Nat
  | .nm i => [i]
  | .tup l => tgsSl l
  | _ => []
def tgsSl : List Tg → List Nat
  | [] => []
  | t :: r => tgSl t ++ tgsSl r
end
def ownOf (N : List Str) : List Nat → List (Str × Nat)
  | [] => []
  | i :: r => match N[i]? with
    | some x => (x, i) :: ownOf N r
    | none => ownOf N r
def isTup : Expr → Bool
  | .Tuple _ _ _ => true
  | _ => false
def CC.blk (cc : CC) (scope : Scope) : CC := { cc with sc := relS scope cc.sc, fnc := (scope.names.filter fun p => scope.names.lookup p.1 == some .cell).map (·.1) }
mutual
def chkE : Nat → CC → Expr → C → Bool
  | 0, _, _, _ => false
  | n + 1, cc, e, c => match c with
    | .lit d => chkLit cc e d
    | .var i => match e with
      | .Name x _ => visN cc i x
      | _ => false
    | .tup cs => match e with
      | .Tuple es _ _ => chkEs n cc es cs
      | _ => false
    | .lst _ cs => match e with
      | .List es _ => chkEs n cc es cs
      | _ => false
    | .dct _ ks cs => match e with
      | .Dict keys vals _ => keysOk keys ks && chkEs n cc vals cs && keys.length == vals.length && !keys.isEmpty && decide (keys.length ≤ 15)
      | _ => false
    | .bin op a b => match e with
      | .BinOp x op' y _ => decide (op' = op) && okOp op && chkE n cc x a && chkE n cc y b
      | _ => false
    | .binM op a b => match e with
      | .BinOp x op' y _ => decide (op' = op) && chkE n cc x a && chkE n cc y b
      | _ => false
    | .neg a => match e with
      | .UnaryOp .USub x _ => chkE n cc x a
      | _ => false
    | .not a => match e with
      | .UnaryOp .Not x _ => chkE n cc x a
      | _ => false
    | .and a b => match e with
      | .BoolOp .And (x :: y :: r) p => chkE n cc x a && chkB n cc .And (y :: r) p b
      | _ => false
    | .or a b => match e with
      | .BoolOp .Or (x :: y :: r) p => chkE n cc x a && chkB n cc .Or (y :: r) p b
      | _ => false
    | .cmp op a b => match e with
      | .Compare x [op'] [y] _ => decide (op' = op) && notSet y && chkE n cc x a && chkE n cc y b
      | _ => false
    | .chain op op2 a b c => match e with
      | .Compare x [op', op2'] [y, z] _ => decide (op' = op) && decide (op2' = op2) && notSet z && chkE n cc x a && chkE n cc y b && chkE n cc z c
      | _ => false
    | .ite t a b => match e with
      | .IfExp x y z _ => chkE n cc x t && chkE n cc y a && chkE n cc z b
      | _ => false
    | .ix a i => match e with
      | .Subscript x y _ => plainIx y && chkE n cc x a && chkE n cc y i
      | _ => false
    | .slice a lo hi => match e with
      | .Subscript x (.Slice l h none _) _ => chkE n cc x a && chkO n cc l lo && chkO n cc h hi
      | _ => false
    | .attr o f => match e with
      | .Attribute x nm _ => noBase x && cc.attrs.lookup f == some nm && chkE n cc x o
      | _ => false
    | .call f cs => match e with
      | .Call (.Name x _) es [] _ => glb cc x && cc.fns.lookup f == some x && noStar es && chkEs n cc es cs
      | _ => false
    | .mk c cs => match e with
      | .Call (.Name x _) es [] _ => glb cc x && cc.clss.lookup c == some x && noStar es && chkEs n cc es cs
      | _ => false
    | .meth o m cs => match e with
      | .Call (.Attribute x nm ap) es [] p => noBase x && cc.attrs.lookup m == some nm && noStar es && decide (es.length < 30) && ap.endLine == p.line && chkE n cc x o && chkEs n cc es cs
      | _ => false
    | .bi b cs => match e with
      | .Call (.Name x _) (e1 :: es) [] _ => noStar (e1 :: es) && chkEs n cc (e1 :: es) cs && (match b with
        | .gcd => glb cc x && cc.gcd && x == ("gcd" : Str)
        | b => bltn cc x && (biName b).map (·.1) == some x)
      | _ => false
    | .biM b cs => match e with
      | .Call (.Name x _) (e1 :: es) [] _ => noStar (e1 :: es) && chkEs n cc (e1 :: es) cs && bltn cc x && (biNameO b).map (·.1) == some x
      | _ => false
    | .isiT a cs => match e with
      | .Call (.Name x _) [y, .Tuple es _ _] [] _ => bltn cc x && x == ("isinstance" : Str) && !isStar y && chkE n cc y a && chkEs n cc es cs
      | _ => false
    | .bm o m cs => match e with
      | .Call (.Attribute x nm ap) es [] p => noBase x && noStar es && decide (es.length < 30) && ap.endLine == p.line && chkE n cc x o && chkEs n cc es cs && (match m with
        | .bitLength => nm == ("bit_length" : Str) && es.isEmpty
        | m => bmName m == some nm)
      | _ => false
    | .lc _ own elt tg k cs ifs => match e with
      | .ListComp x [⟨t, it, fs, 0⟩] scope _ => chkI n cc t it k cs && notSet it && (ownOf cc.N own).map (·.2) == own && blkC cc.N cc.sc scope (ownOf cc.N own) && (tgSl tg).all own.contains
        && chkT n (cc.blk scope) t tg && chkF n (cc.blk scope) fs ifs && chkE n (cc.blk scope) x elt
      | _ => false
    | .kix ks ds i => match e with
      | .Subscript (.Name x _) y _ => plainIx y && glb cc x && (match cc.kds.lookup x with
        | some (ks', ds') => decide (ks' = ks) && sameDs ds' ds
        | none => false) && chkE n cc y i
      | _ => false
    | .fstr _ => false
def chkB : Nat → CC → BoolOp → List Expr → Pos → C → Bool
  | 0, _, _, _, _, _ => false
  | n + 1, cc, op, es, p, c => match es with
    | [x] => chkE n cc x c
    | es => chkE n cc (.BoolOp op es p) c
def chkEs : Nat → CC → List Expr → List C → Bool
  | 0, _, _, _ => false
  | n + 1, cc, es, cs => match es, cs with
    | [], [] => true
    | e :: es, c :: cs => !isStar e && chkE n cc e c && chkEs n cc es cs
    | _, _ => false
def chkO : Nat → CC → Option Expr → List C → Bool
  | 0, _, _, _ => false
  | n + 1, cc, e, c => match e, c with
    | none, [] => true
    | some e, [c] => chkE n cc e c
    | _, _ => false
def chkF : Nat → CC → List Expr → List C → Bool
  | 0, _, _, _ => false
  | n + 1, cc, e, c => match e, c with
    | [], [] => true
    | [e], [c] => chkE n cc e c
    | _, _ => false
def chkT : Nat → CC → Expr → Tg → Bool
  | 0, _, _, _ => false
  | n + 1, cc, e, t => match t with
    | .nm i => match e with
      | .Name x _ => stoN cc i x
      | _ => false
    | .tup ts => match e with
      | .Tuple es _ _ => noStar es && chkTs n cc es ts && es.length == ts.length
      | _ => false
    | .attr o f => match e with
      | .Attribute x nm _ => cc.attrs.lookup f == some nm && chkE n cc x o
      | _ => false
    | .sub o i => match e with
      | .Subscript x y _ => plainIx y && chkE n cc x o && chkE n cc y i
      | _ => false
def chkTs : Nat → CC → List Expr → List Tg → Bool
  | 0, _, _, _ => false
  | n + 1, cc, es, ts => match es, ts with
    | [], [] => true
    | e :: es, t :: ts => !isStar e && chkT n cc e t && chkTs n cc es ts
    | _, _ => false
def chkI : Nat → CC → Expr → Expr → IK → List C → Bool
  | 0, _, _, _, _, _ => false
  | n + 1, cc, t, e, k, cs => match k with
    | .one => match cs with
      | [c] => chkE n cc e c
      | _ => false
    | .enum => match e with
      | .Call (.Name x _) es [] _ => isTup t && bltn cc x && x == ("enumerate" : Str) && noStar es && es.length == 1 && chkEs n cc es cs
      | _ => false
    | .zip => match e with
      | .Call (.Name x _) es [] _ => isTup t && bltn cc x && x == ("zip" : Str) && noStar es && (es.length == 2 || es.length == 3) && chkEs n cc es cs
      | _ => false
    | .range => match e with
      | .Call (.Name x _) es [] _ => bltn cc x && x == ("range" : Str) && noStar es && (es.length == 1 || es.length == 2) && chkEs n cc es cs
      | _ => false
end
end G

set_option Elab.async false
set_option linter.all false
set_option maxRecDepth 100000
/-! E5: the core text means what the text does. -/
namespace G
open PySem L2
structure Ok (cc : CC) (X : Cx) (N : Nms) (T : Tab) (call : Call) (W : WX) : Prop where
  calm : X.calm = true
  nd : X.N.Nodup
  slots : X.N = cc.N
  scope : X.env.scope = cc.sc
  fnc : ∀ x, cc.fnc.contains x = true → X.fn x = true
  units : X.A.units + 64 < cLine
  inj : Inj N
  tk : Takes X W
  fns : ∀ f x, cc.fns.lookup f = some x → X.mg x = some (.ref (N.fn f)) ∧ ∃ np, FnAt X N call np f ∧ ∀ ds st, call f ds st ≠ .bad → ds.length = np
  clss : ∀ c x, cc.clss.lookup c = some x → X.mg x = some (.ref (N.cls c)) ∧ PySem.W.keepIn X.K (.ref (N.cls c)) = true
  cls : ClsAt X N T call
  meths : MethAt X N T
  mfn : ∀ m c k f, T.clss.lookup c = some k → lookM m k.meths = some f → ∃ np, FnAt X N call np f ∧ ∀ ds st, call f ds st ≠ .bad → ds.length = np
  attrs : ∀ f nm, cc.attrs.lookup f = some nm → N.attr f = nm
  has : ∀ f c, T.has c f = true → Cls X.K (N.cls c) ∧ NoAttr X.K (N.cls c) (N.attr f)
  isi : ∀ η, IsiAt X.K (N.h η) T
  isk : ∀ c u b, T.isi.lookup (.cls c, u) = some b → (T.clss.lookup c).isSome = true
  cons : ∀ x d, cc.cons.lookup x = some d → ∃ v u, X.mg x = some u ∧ RelV v u ∧ ∀ η ι H, rel X.K (N.h η) ι H d v
  kds : ∀ x ks ds, cc.kds.lookup x = some (ks, ds) → ∃ ad, X.mg x = some (.ref ad) ∧ ∀ z d, lookS z ks ds = some d → ∃ v, KDct X.K X.w ad z v ∧ ∀ η ι H, rel X.K (N.h η) ι H d v
  free : ∀ x, cc.free.contains x = true → X.mg x = none
  gcd : cc.gcd = true → X.mg "gcd" = some (.builtin "math.gcd")
theorem W0_takes {X : Cx} : Takes X W0 := fun u s' ⟨a, B, sI, pins, σ, H, cls, d, e, I, nb, up, sky, na, os, ag, w⟩ => w.elim
theorem Ok.blk {cc : CC} {X : Cx} {N : Nms} {T : Tab} {call : Call} {W : WX} (h : Ok cc X N T call W) (scope : Scope) (s : Shared) (H : Hp) (C : Addr) (cl : List (Str × Addr)) (fp : List Addr) :
    Ok (cc.blk scope) (X.blk s H scope (compEnvC scope cl C X.env) fp) N T call W0 where
  calm := h.calm
  nd := h.nd
  slots := h.slots
  scope := by
    show PySem.relabel scope X.env = relS scope cc.sc
    rw [← h.scope]; rfl
  fnc := fun x hx => by
    show (scope.names.lookup x == some .cell) = true
    have hx' := List.contains_iff_mem.mp hx
    simp only [CC.blk, List.mem_map, List.mem_filter] at hx'
    obtain ⟨p, ⟨_, h2⟩, rfl⟩ := hx'
    exact h2
  units := h.units
  inj := h.inj
  tk := W0_takes
  fns := fun f x e => let ⟨a, np, F, z⟩ := h.fns f x e; ⟨a, np, ⟨F.ex, F.kp⟩, z⟩
  clss := h.clss
  cls := fun c k e => by
    have := h.cls c k e
    cases hi : k.init with
    | none => rw [hi] at this; exact this
    | some i => rw [hi] at this; obtain ⟨a, np, F, z⟩ := this; exact ⟨a, np, ⟨F.ex, F.kp⟩, z⟩
  meths := h.meths
  mfn := fun m c k f e1 e2 => let ⟨np, F, z⟩ := h.mfn m c k f e1 e2; ⟨np, ⟨F.ex, F.kp⟩, z⟩
  attrs := h.attrs
  has := h.has
  isi := h.isi
  isk := h.isk
  cons := h.cons
  kds := h.kds
  free := h.free
  gcd := h.gcd
section
variable {cc : CC} {X : Cx} {N : Nms} {T : Tab} {call : Call} {W : WX}
theorem plainName_ok {x : Str} (h : plainName x = true) : (x == ("__debug__" : Str)) = false ∧ (x == ("__classdict__" : Str)) = false ∧ x ≠ "__name__" := by
  simp only [plainName, Bool.and_eq_true, Bool.not_eq_true'] at h
  exact ⟨h.1.1, h.1.2, beq_eq_false_iff_ne.mp h.2⟩
theorem glb_ok (O : Ok cc X N T call W) {x : Str} (h : glb cc x = true) : Gl X x ∧ (x == ("__debug__" : Str)) = false ∧ x ≠ "__name__" := by
  simp only [glb, Bool.and_eq_true] at h
  have := plainName_ok h.2
  refine ⟨?_, this.1, this.2.2⟩
  show X.env.scope.names.lookup x = _
  rw [O.scope]
  exact eq_of_beq h.1
theorem visN_ok (O : Ok cc X N T call W) {i : Nat} {x : Str} (h : visN cc i x = true) : X.N[i]? = some x ∧ Vis X.env.scope x ∧ (x == ("__debug__" : Str)) = false ∧ (x == ("__classdict__" : Str)) = false := by
  simp only [visN, Bool.and_eq_true] at h
  have := plainName_ok h.2
  refine ⟨by rw [O.slots]; exact eq_of_beq h.1.1, ?_, this.1, this.2.1⟩
  have h2 := h.1.2
  unfold Vis
  rw [O.scope]
  split at h2
  · exact .inl (by assumption)
  · exact .inr (.inl (by assumption))
  · exact .inr (.inr (by assumption))
  · exact nomatch h2
theorem stoN_ok (O : Ok cc X N T call W) {i : Nat} {x : Str} (h : stoN cc i x = true) : X.N[i]? = some x ∧ Loc X.env.scope x ∧ (X.fn x = true ∨ X.env.scope.names.lookup x = some .local) := by
  simp only [stoN, Bool.and_eq_true] at h
  refine ⟨by rw [O.slots]; exact eq_of_beq h.1, ?_⟩
  have h2 := h.2
  unfold L2.Loc
  rw [O.scope]
  split at h2
  · rename_i e; exact ⟨.inl e, .inr e⟩
  · rename_i e; exact ⟨.inr e, .inl (O.fnc x h2)⟩
  · exact nomatch h2
theorem bltn_ok (O : Ok cc X N T call W) {x : Str} (h : bltn cc x = true) : Gl X x ∧ X.mg x = none ∧ (x == ("__debug__" : Str)) = false ∧ x ≠ "__name__" := by
  simp only [bltn, Bool.and_eq_true] at h
  have := glb_ok O h.1
  exact ⟨this.1, O.free x h.2, this.2.1, this.2.2⟩
/-- what is to be shown of a core expression -/
def Snd (X : Cx) (N : Nms) (W : WX) (e : Expr) (m : Env' → Store → R D) : Prop :=
  PE X e (tE X.K N W m) ∧ PT X e (tT X.K N W (asB m)) ∧ (∀ op es p, e = .BoolOp op es p → PW X e (tT X.K N W (asB m)))
theorem Snd.plain {e : Expr} {m : Env' → Store → R D} (h : PE X e (tE X.K N W m)) (hp : plainTest e = true) : Snd X N W e m :=
  ⟨h, s_val h fun whole => plainTest_ok hp whole, fun op es p z => by rw [z] at hp; exact nomatch hp⟩
/-- a test that is no and, or -/
theorem Snd.test {e : Expr} {m : Env' → Store → R D} (h : PE X e (tE X.K N W m)) (h2 : PT X e (tT X.K N W (asB m))) (hp : ∀ op es p, e ≠ .BoolOp op es p) : Snd X N W e m :=
  ⟨h, h2, fun op es p z => (hp op es p z).elim⟩
theorem lit_ok (O : Ok cc X N T call W) {e : Expr} {d : D} (h : chkLit cc e d = true) : Snd X N W e (fun _ st => .ok d st) := by
  unfold chkLit at h
  split at h
  · rename_i k j p
    refine Snd.plain ?_ rfl
    split at h
    · rename_i d' hd
      have := sameD_eq h
      subst this
      cases k with
      | none => cases hd; exact s_const pe_non fun _ _ _ => rfl
      | bool b => cases hd; exact s_const pe_bl fun _ _ _ => rfl
      | int i => cases hd; exact s_const pe_int fun _ _ _ => rfl
      | str s => cases hd; exact s_const pe_str fun _ _ _ => rfl
      | _ => exact nomatch hd
    · exact nomatch h
  · rename_i x p
    refine Snd.plain ?_ rfl
    rw [Bool.and_eq_true] at h
    obtain ⟨hg, hdb, hnm⟩ := glb_ok O h.1
    have h2 := h.2
    split at h2
    · rename_i c
      split at h2
      · rename_i y hy
        have := eq_of_beq h2
        subst this
        exact s_const (pe_glob (v := .ref (N.cls c)) hg (O.clss c _ hy).1 rfl hdb) fun _ _ _ => rfl
      · exact nomatch h2
    · rename_i b
      simp only [Bool.and_eq_true] at h2
      have hx := eq_of_beq h2.1.2
      have hf := O.free x h2.1.1
      subst hx
      refine s_const (pe_bltn (v := .ty b.name) (u := .type b.name) hg hf ?_ rfl hnm hdb) fun _ _ _ => rfl
      cases b <;> first | decide +kernel | exact nomatch h2.2
    · split at h2
      · rename_i d' hd
        have := sameD_eq h2
        subst this
        obtain ⟨v, u, h3, h4, h5⟩ := O.cons x _ hd
        exact s_const (pe_glob hg h3 h4 hdb) h5
      · exact nomatch h2
  · exact nomatch h
theorem keys_ok : ∀ {keys : List (Option Expr)} {ks : List Key} {vals : List Expr} {ms : List (Env' → Store → R D)} {pos : Pos}, keysOk keys ks = true → keys.length = vals.length → Paired (fun e m => PE X e (tE X.K N W m)) vals ms →
    PKs X N W pos keys vals ks (fun ρ st => ms.foldr (fun m r st => (m ρ st).bind fun d st => (r st).bind fun ds st => .ok (d :: ds) st) (fun st => R.ok [] st) st) ∧ keys.all (·.isSome) = true
  | [], [], [], ms, pos, _, _, h => by
    cases h
    exact ⟨pk_nil, rfl⟩
  | [], _ :: _, _, _, _, h, _, _ => nomatch h
  | [], [], _ :: _, _, _, _, h, _ => nomatch h
  | none :: _, _, _, _, _, h, _, _ => by simp [keysOk] at h
  | some k :: keys, ks, vals, ms, pos, h, hl, hp => by
    unfold keysOk at h
    split at h
    · rename_i e1; exact nomatch e1
    · rename_i s j p r t ks' e1
      cases e1
      rw [Bool.and_eq_true] at h
      obtain rfl := of_decide_eq_true h.1
      cases hp with
      | nil => exact nomatch hl
      | cons h1 h2 =>
        obtain ⟨i1, i2⟩ := keys_ok h.2 (by simpa using hl) h2
        exact ⟨pk_cons (kk := .inr s) pe_str h1 i1, by simpa using i2⟩
    · rename_i i j p r t ks' e1
      cases e1
      rw [Bool.and_eq_true] at h
      obtain rfl := of_decide_eq_true h.1
      cases hp with
      | nil => exact nomatch hl
      | cons h1 h2 =>
        obtain ⟨i1, i2⟩ := keys_ok h.2 (by simpa using hl) h2
        exact ⟨pk_cons (kk := .inl i) pe_int h1 i1, by simpa using i2⟩
    · exact nomatch h
end
end G

set_option Elab.async false
set_option linter.all false
set_option maxRecDepth 100000
set_option maxHeartbeats 4000000
/-! E6: expressions, by their depth. -/
namespace G
open PySem L2
theorem evs_fold {T : Tab} {call : Call} : ∀ cs : List C, evs T call cs = fun ρ st => (cs.map (ev T call)).foldr (fun m r st => (m ρ st).bind fun d st => (r st).bind fun ds st => .ok (d :: ds) st) (fun st => R.ok [] st) st
  | [] => rfl
  | c :: cs => by
    funext ρ st
    show (ev T call c ρ st).bind _ = _
    rw [evs_fold cs]
    rfl
theorem evs_len {T : Tab} {call : Call} : ∀ {cs : List C} {ρ : Env'} {st st' : Store} {ds : List D}, evs T call cs ρ st = .ok ds st' → ds.length = cs.length
  | [], _, _, _, _, h => by cases h; rfl
  | c :: cs, ρ, st, st', ds, h => by
    have h' : (ev T call c ρ st).bind (fun d st => (evs T call cs ρ st).bind fun ds st => R.ok (d :: ds) st) = .ok ds st' := h
    cases e1 : ev T call c ρ st with
    | ok d st1 =>
      rw [e1] at h'
      simp only [R.bind_ok] at h'
      cases e2 : evs T call cs ρ st1 with
      | ok ds2 st2 =>
        rw [e2] at h'
        simp only [R.bind_ok] at h'
        cases h'
        rw [List.length_cons, List.length_cons, evs_len e2]
      | exc x st2 => rw [e2] at h'; cases h'
      | bad => rw [e2] at h'; cases h'
    | exc x st1 => rw [e1] at h'; cases h'
    | bad => rw [e1] at h'; cases h'
structure All (n : Nat) : Prop where
  e : ∀ {cc : CC} {X : Cx} {N : Nms} {T : Tab} {call : Call} {W : WX}, Ok cc X N T call W → ∀ e c, chkE n cc e c = true → Snd X N W e (ev T call c)
  b : ∀ {cc : CC} {X : Cx} {N : Nms} {T : Tab} {call : Call} {W : WX}, Ok cc X N T call W → ∀ op es p c, chkB n cc op es p c = true → PE X (.BoolOp op es p) (tE X.K N W (ev T call c)) ∧ PW X (.BoolOp op es p) (tT X.K N W (asB (ev T call c)))
  es : ∀ {cc : CC} {X : Cx} {N : Nms} {T : Tab} {call : Call} {W : WX}, Ok cc X N T call W → ∀ es cs, chkEs n cc es cs = true → noStar es = true ∧ es.length = cs.length ∧ PA X es (tA X.K N W (evs T call cs)) ∧ Paired (fun e m => PE X e (tE X.K N W m)) es (cs.map (ev T call))
  o : ∀ {cc : CC} {X : Cx} {N : Nms} {T : Tab} {call : Call} {W : WX}, Ok cc X N T call W → ∀ e cs, chkO n cc e cs = true → PO X e (tPo X.K N W (evPart T call cs))
  f : ∀ {cc : CC} {X : Cx} {N : Nms} {T : Tab} {call : Call} {W : WX}, Ok cc X N T call W → ∀ es cs, chkF n cc es cs = true → PTs X es (tT X.K N W (evIfs T call cs))
  t : ∀ {cc : CC} {X : Cx} {N : Nms} {T : Tab} {call : Call} {W : WX}, Ok cc X N T call W → ∀ e t, chkT n cc e t = true → isStar e = false ∧ PG X e (tG X.K N W (tgSl t) (asgT T call t))
  ts : ∀ {cc : CC} {X : Cx} {N : Nms} {T : Tab} {call : Call} {W : WX}, Ok cc X N T call W → ∀ es ts, chkTs n cc es ts = true → PGs X es (tGs X.K N W (tgsSl ts) (asgTs T call ts))
  i : ∀ {cc : CC} {X : Cx} {N : Nms} {T : Tab} {call : Call} {W : WX}, Ok cc X N T call W → ∀ tg e k cs, chkI n cc tg e k cs = true → PI X tg e (tIt X.K N W k (evs T call cs))
section
variable {n : Nat} {cc : CC} {X : Cx} {N : Nms} {T : Tab} {call : Call} {W : WX}
theorem bad_o {α : Type} {a : α} {P : Prop} (h : none = some a) : P := nomatch h
theorem bad_h {P : Prop} (h : false = true) : P := nomatch h
theorem all0 : All 0 := by
  constructor <;> (intros; rename_i h; exact bad_h h)
theorem a_b (A : All n) (O : Ok cc X N T call W) (op es p c) (h : chkB (n + 1) cc op es p c = true) : PE X (.BoolOp op es p) (tE X.K N W (ev T call c)) ∧ PW X (.BoolOp op es p) (tT X.K N W (asB (ev T call c))) := by
  simp only [chkB] at h
  split at h
  · obtain ⟨h1, h2, _⟩ := A.e O _ _ h
    exact ⟨s_one h1, s_oneT h2⟩
  · obtain ⟨h1, _, h3⟩ := A.e O _ _ h
    exact ⟨h1, h3 _ _ _ rfl⟩
theorem a_es (A : All n) (O : Ok cc X N T call W) (es cs) (h : chkEs (n + 1) cc es cs = true) : noStar es = true ∧ es.length = cs.length ∧ PA X es (tA X.K N W (evs T call cs)) ∧ Paired (fun e m => PE X e (tE X.K N W m)) es (cs.map (ev T call)) := by
  simp only [chkEs] at h
  split at h
  · exact ⟨rfl, rfl, s_anil, .nil⟩
  · simp only [Bool.and_eq_true, Bool.not_eq_true'] at h
    obtain ⟨⟨h1, h2⟩, h3⟩ := h
    obtain ⟨i1, i2, i3, i4⟩ := A.es O _ _ h3
    have j := (A.e O _ _ h2).1
    exact ⟨by simp [noStar, h1, i1], by simp [i2], s_acons j i3 (star_cons h1), .cons j i4⟩
  · exact nomatch h
theorem a_o (A : All n) (O : Ok cc X N T call W) (e cs) (h : chkO (n + 1) cc e cs = true) : PO X e (tPo X.K N W (evPart T call cs)) := by
  simp only [chkO] at h
  split at h
  · exact s_poN
  · exact s_poS (A.e O _ _ h).1
  · exact nomatch h
theorem a_f (A : All n) (O : Ok cc X N T call W) (es cs) (h : chkF (n + 1) cc es cs = true) : PTs X es (tT X.K N W (evIfs T call cs)) := by
  simp only [chkF] at h
  split at h
  · exact s_if0
  · rename_i c
    have := s_if1 (A.e O _ _ h).2.1
    have e : evIfs T call [c] = fun ρ st => (ev T call c ρ st).bind fun d st => match d with
        | .bl b => .ok b st
        | _ => .bad := by
      funext ρ st
      show (ev T call c ρ st).bind _ = _
      congr 1
      funext d st
      cases d <;> rfl
    rw [e]
    exact this
  · exact nomatch h
theorem a_t (A : All n) (O : Ok cc X N T call W) (e t) (h : chkT (n + 1) cc e t = true) : isStar e = false ∧ PG X e (tG X.K N W (tgSl t) (asgT T call t)) := by
  simp only [chkT] at h
  split at h
  · split at h
    · obtain ⟨h1, h2, h3⟩ := stoN_ok O h
      exact ⟨rfl, s_nm O.nd h1 h2 h3⟩
    · exact nomatch h
  · split at h
    · simp only [Bool.and_eq_true] at h
      obtain ⟨⟨h1, h2⟩, h3⟩ := h
      exact ⟨rfl, s_tgtup O.calm (A.ts O _ _ h2) (by rw [assign_len]; exact eq_of_beq h3) (assign_find h1)⟩
    · exact nomatch h
  · rename_i o g
    cases e with
    | Attribute x nm p =>
      simp only [Bool.and_eq_true] at h
      have := O.attrs g nm (eq_of_beq h.1)
      subst this
      exact ⟨rfl, s_tgattr O.inj (O.has g) (A.e O _ _ h.2).1⟩
    | _ => exact bad_h h
  · split at h
    · rename_i o i x y p
      simp only [Bool.and_eq_true] at h
      refine ⟨rfl, s_tgsub O.units (A.e O _ _ h.1.2).1 (A.e O _ _ h.2).1 fun v => ?_⟩
      have h1 := h.1.1
      cases y <;> first | rfl | exact nomatch h1
    · exact nomatch h
theorem a_ts (A : All n) (O : Ok cc X N T call W) (es ts) (h : chkTs (n + 1) cc es ts = true) : PGs X es (tGs X.K N W (tgsSl ts) (asgTs T call ts)) := by
  simp only [chkTs] at h
  split at h
  · have e : asgTs T call [] = fun ds ρ st => match ds with
        | [] => .ok ρ st
        | _ => .bad := by
      funext ds ρ st
      cases ds <;> rfl
    rw [e]
    exact s_tgnil
  · rename_i t ts
    simp only [Bool.and_eq_true, Bool.not_eq_true'] at h
    have e : asgTs T call (t :: ts) = fun ds ρ st => match ds with
        | d :: ds => (asgT T call t d ρ st).bind fun ρ st => asgTs T call ts ds ρ st
        | [] => .bad := by
      funext ds ρ st
      cases ds <;> rfl
    rw [e]
    exact s_tgcons (A.t O _ _ h.1.2).2 (A.ts O _ _ h.2) (assign_cons h.1.1)
  · exact nomatch h
theorem a_i (A : All n) (O : Ok cc X N T call W) (tg e k cs) (h : chkI (n + 1) cc tg e k cs = true) : PI X tg e (tIt X.K N W k (evs T call cs)) := by
  simp only [chkI] at h
  split at h
  · split at h
    · exact s_it1 (A.e O _ _ h).1
    · exact nomatch h
  · split at h
    · simp only [Bool.and_eq_true] at h
      obtain ⟨⟨⟨⟨⟨h1, h2⟩, h3⟩, h4⟩, h5⟩, h6⟩ := h
      obtain ⟨b1, b2, b3, b4⟩ := bltn_ok O h2
      obtain rfl := eq_of_beq h3
      obtain ⟨i1, i2, i3, i4⟩ := A.es O _ _ h6
      obtain ⟨elts, kk, tp, rfl⟩ : ∃ elts kk tp, tg = .Tuple elts kk tp := by
        cases tg with
        | Tuple a b c => exact ⟨a, b, c, rfl⟩
        | _ => exact bad_h h1
      rename_i es p2
      match es, eq_of_beq h5 with
      | [e1], _ =>
        simp only [noStar, Bool.and_eq_true, Bool.not_eq_true'] at h4
        exact s_itE b1 b2 i3 (fun ρ st ds st' z => by rw [evs_len z, ← i2]; rfl) (star_cons h4.1)
    · exact nomatch h
  · split at h
    · simp only [Bool.and_eq_true, Bool.or_eq_true] at h
      obtain ⟨⟨⟨⟨⟨h1, h2⟩, h3⟩, h4⟩, h5⟩, h6⟩ := h
      obtain ⟨b1, b2, b3, b4⟩ := bltn_ok O h2
      obtain rfl := eq_of_beq h3
      obtain ⟨i1, i2, i3, i4⟩ := A.es O _ _ h6
      obtain ⟨elts, kk, tp, rfl⟩ : ∃ elts kk tp, tg = .Tuple elts kk tp := by
        cases tg with
        | Tuple a b c => exact ⟨a, b, c, rfl⟩
        | _ => exact bad_h h1
      rename_i es p2
      rcases h5 with h5 | h5
      · match es, eq_of_beq h5 with
        | [e1, e2], _ =>
          have h4' := h4
          simp only [noStar, Bool.and_eq_true, Bool.not_eq_true'] at h4
          exact s_itZ2 b1 b2 i3 (fun ρ st ds st' z => by rw [evs_len z, ← i2]; rfl) (star_cons h4.1) (noStar_any (by simp [noStar, h4.2]))
      · match es, eq_of_beq h5 with
        | [e1, e2, e3], _ =>
          simp only [noStar, Bool.and_eq_true, Bool.not_eq_true'] at h4
          exact s_itZ3 b1 b2 i3 (fun ρ st ds st' z => by rw [evs_len z, ← i2]; rfl) (star_cons h4.1) (noStar_any (by simp [noStar, h4.2]))
    · exact nomatch h
  · split at h
    · simp only [Bool.and_eq_true, Bool.or_eq_true] at h
      obtain ⟨⟨⟨⟨h2, h3⟩, h4⟩, h5⟩, h6⟩ := h
      obtain ⟨b1, b2, b3, b4⟩ := bltn_ok O h2
      obtain rfl := eq_of_beq h3
      obtain ⟨i1, i2, i3, i4⟩ := A.es O _ _ h6
      rename_i es p2
      rcases h5 with h5 | h5
      · match es, eq_of_beq h5 with
        | [e1], _ =>
          simp only [noStar, Bool.and_eq_true, Bool.not_eq_true'] at h4
          exact s_itR1 b1 b2 i3 (fun ρ st ds st' z => by rw [evs_len z, ← i2]; rfl) (star_cons h4.1)
      · match es, eq_of_beq h5 with
        | [e1, e2], _ =>
          simp only [noStar, Bool.and_eq_true, Bool.not_eq_true'] at h4
          exact s_itR2 b1 b2 i3 (fun ρ st ds st' z => by rw [evs_len z, ← i2]; rfl) (by rw [star_cons h4.1, star_cons h4.2.1]; rfl) (star_cons h4.2.1)
    · exact nomatch h
end
end G

set_option Elab.async false
set_option linter.all false
set_option maxRecDepth 100000
set_option maxHeartbeats 4000000
/-! E7: expressions. -/
namespace G
open PySem L2
section
variable {n : Nat} {cc : CC} {X : Cx} {N : Nms} {T : Tab} {call : Call} {W : WX}
theorem bi_call (O : Ok cc X N T call W) {b : BI} {x : Str} {id : String} (h : biName b = some (x, .builtin id)) : CallR X (.builtin id) (rN X.K N fun st ds => R.of (biD T st b ds) st) := by
  cases b <;> first
    | (cases h; first | exact b_len | exact b_isi O.isi O.isk | exact b_all O.calm | exact b_any O.calm | exact b_abs)
    | (cases h; done)
theorem ty_call {b : BI} {x : Str} {id : String} (h : biName b = some (x, .type id)) : CallR X (.type id) (rN X.K N fun st ds => R.of (biD T st b ds) st) := by
  cases b <;> first
    | (cases h; first | exact b_tuple | exact b_list | exact b_int | exact b_str)
    | (cases h; done)
theorem tyO_call {b : BI} {x : Str} {v : Value} (h : biNameO b = some (x, v)) : ∃ id, v = .type id ∧ bootBuiltins x = some (.type id) ∧ CallR X (.type id) (rO X.K N fun st ds => biO st b ds) := by
  cases b <;> first
    | (cases h; first | exact ⟨_, rfl, by decide +kernel, bO_list⟩ | exact ⟨_, rfl, by decide +kernel, bO_dict⟩)
    | (cases h; done)
theorem bi_boot {b : BI} {x : Str} {v : Value} (h : biName b = some (x, v)) : bootBuiltins x = some v ∧ ((∃ id, v = .builtin id) ∨ ∃ id, v = .type id) := by
  cases b <;> first
    | (cases h; exact ⟨by decide +kernel, by first | exact .inl ⟨_, rfl⟩ | exact .inr ⟨_, rfl⟩⟩)
    | (cases h; done)
theorem lst_tv {η ι : List Addr} {H : Hp} {st : Store} {d : D} {x : V} {m : BM} (hm : m = .append ∨ m = .extend ∨ m = .pop) (r : RelSt X.K (N.h η) ι H st) (q : rel X.K (N.h η) ι H d x) (h : bmTy st m d = true) : tyV X.K "list" x H := by
  cases d with
  | loc k => rcases hm with rfl | rfl | rfl <;> exact lst_ty r q h
  | _ => rcases hm with rfl | rfl | rfl <;> exact bad_h h
theorem bm_rule (A : All n) (O : Ok cc X N T call W) {o : Expr} {nm : Str} {ap p : Pos} {es : List Expr} {co : C} {m : BM} {cs : List C} (h1 : noBase o = true) (h2 : noStar es = true) (h3 : es.length < 30) (h4 : (ap.endLine == p.line) = true) (h5 : chkE n cc o co = true) (h6 : chkEs n cc es cs = true)
    (h7 : (match m with
        | .bitLength => nm == ("bit_length" : Str) && es.isEmpty
        | m => bmName m == some nm) = true) : PE X (.Call (.Attribute o nm ap) es [] p) (tE X.K N W (ev T call (.bm co m cs))) := by
  have ho := (A.e O _ _ h5).1
  obtain ⟨i1, i2, i3, i4⟩ := A.es O _ _ h6
  have key : ∀ {t id : String}, PlainAttrs t → Slot t nm id → typeOf (.builtin id) = pure (.type "method_descriptor") → MtR X id (rM X.K N m) → t = "list" → (m = .append ∨ m = .extend ∨ m = .pop) → PE X (.Call (.Attribute o nm ap) es [] p) (tE X.K N W (ev T call (.bm co m cs))) := by
    intro t id pa sl ty hm ht hk
    subst ht
    cases es with
    | nil =>
      cases cs with
      | nil => exact s_bm0 pa sl ty hm (fun η ι H st d x r q hb => lst_tv hk r q hb) ho (base_ok h1) h4
      | cons c cs => exact nomatch i2
    | cons e es =>
      have hs := h2
      simp only [noStar, Bool.and_eq_true, Bool.not_eq_true'] at hs
      exact s_bm pa sl ty hm (fun η ι H st d x r q hb => lst_tv hk r q hb) ho i3 (base_ok h1) (few_ok h2 h3) h4 (star_cons hs.1) (noStar_any hs.2)
  cases m with
  | append =>
    have e : nm = "append" := (Option.some.inj (eq_of_beq h7)).symm
    subst e
    exact key PySem.F.plainAttrs_list PySem.F.slot_list_append PySem.F.type_list_append m_append rfl (.inl rfl)
  | extend =>
    have e : nm = "extend" := (Option.some.inj (eq_of_beq h7)).symm
    subst e
    exact key PySem.F.plainAttrs_list PySem.F.slot_list_extend PySem.F.type_list_extend m_extend rfl (.inr (.inl rfl))
  | pop =>
    have e : nm = "pop" := (Option.some.inj (eq_of_beq h7)).symm
    subst e
    exact key PySem.F.plainAttrs_list PySem.F.slot_list_pop PySem.F.type_list_pop m_pop rfl (.inr (.inr rfl))
  | bitLength =>
    simp only [Bool.and_eq_true] at h7
    obtain rfl := eq_of_beq h7.1
    cases es with
    | nil =>
      cases cs with
      | nil => exact s_bits ho (base_ok h1) h4
      | cons c cs => exact nomatch i2
    | cons e es => exact bad_h h7.2
  | _ => exact bad_o (eq_of_beq h7)
theorem own_map {N : List Str} {own : List Nat} : ∀ i, i ∈ (ownOf N own).map (·.2) → i ∈ own := by
  induction own with
  | nil => intro i h; exact h
  | cons a r ih =>
    intro i h
    unfold ownOf at h
    split at h
    · simp only [List.map_cons, List.mem_cons] at h
      rcases h with h | h
      · exact h ▸ List.mem_cons_self
      · exact List.mem_cons_of_mem _ (ih i h)
    · exact List.mem_cons_of_mem _ (ih i h)
theorem a_e (A : All n) (O : Ok cc X N T call W) (e : Expr) (c : C) (h : chkE (n + 1) cc e c = true) : Snd X N W e (ev T call c) := by
  cases c with
  | lit d => exact lit_ok O h
  | var i =>
    cases e with
    | Name x p =>
      obtain ⟨h1, h2, h3, h4⟩ := visN_ok O h
      exact Snd.plain (s_var (pe_var h1 h2 h3 h4)) rfl
    | _ => exact bad_h h
  | tup cs =>
    cases e with
    | Tuple es k p => exact Snd.plain (s_tup (A.es O _ _ h).2.2.1) rfl
    | _ => exact bad_h h
  | lst m cs =>
    cases e with
    | List es p => exact Snd.plain (s_lst m (A.es O _ _ h).2.2.1) rfl
    | _ => exact bad_h h
  | dct m ks cs =>
    cases e with
    | Dict keys vals p =>
      simp only [chkE, Bool.and_eq_true] at h
      obtain ⟨⟨⟨⟨h1, h2⟩, h3⟩, h4⟩, h5⟩ := h
      obtain ⟨i1, i2, i3, i4⟩ := A.es O _ _ h2
      obtain ⟨j1, j2⟩ := keys_ok (pos := p) h1 (eq_of_beq h3) i4
      refine Snd.plain ?_ rfl
      rw [← evs_fold] at j1
      exact s_dct (m := m) j1 j2 (eq_of_beq h3) (by intro z; subst z; exact nomatch h4) (of_decide_eq_true h5)
    | _ => exact bad_h h
  | bin op a b =>
    cases e with
    | BinOp x op' y p =>
      simp only [chkE, Bool.and_eq_true] at h
      obtain ⟨⟨⟨h1, h2⟩, h3⟩, h4⟩ := h
      obtain rfl := of_decide_eq_true h1
      refine Snd.plain (s_bin (o_bin op' ?_) (A.e O _ _ h3).1 (A.e O _ _ h4).1) rfl
      cases op' <;> first | exact bad_h h2 | simp
    | _ => exact bad_h h
  | binM op a b =>
    cases e with
    | BinOp x op' y p =>
      simp only [chkE, Bool.and_eq_true] at h
      obtain ⟨⟨h1, h3⟩, h4⟩ := h
      obtain rfl := of_decide_eq_true h1
      exact Snd.plain (s_binO (A.e O _ _ h3).1 (A.e O _ _ h4).1) rfl
    | _ => exact bad_h h
  | neg a =>
    cases e with
    | UnaryOp op x p =>
      cases op with
      | USub => exact Snd.plain (s_neg (A.e O _ _ h).1) rfl
      | _ => exact bad_h h
    | _ => exact bad_h h
  | not a =>
    cases e with
    | UnaryOp op x p =>
      cases op with
      | Not => exact Snd.test (s_not (A.e O _ _ h).1) (s_notT (A.e O _ _ h).2.1) (fun _ _ _ z => nomatch z)
      | _ => exact bad_h h
    | _ => exact bad_h h
  | and a b =>
    cases e with
    | BoolOp op es p =>
      cases op with
      | Or => cases es <;> exact bad_h h
      | And =>
        match es, h with
        | x :: y :: r, h =>
          simp only [chkE, Bool.and_eq_true] at h
          obtain ⟨h1, h2⟩ := h
          have i := A.e O _ _ h1
          obtain ⟨j1, j2⟩ := A.b O _ _ _ _ h2
          have w := s_andT i.2.1 j2
          exact ⟨s_and i.1 j1, w.pt, fun op es p' z => by cases z; exact w⟩
        | [], h => exact bad_h h
        | [_], h => exact bad_h h
    | _ => exact bad_h h
  | or a b =>
    cases e with
    | BoolOp op es p =>
      cases op with
      | And => cases es <;> exact bad_h h
      | Or =>
        match es, h with
        | x :: y :: r, h =>
          simp only [chkE, Bool.and_eq_true] at h
          obtain ⟨h1, h2⟩ := h
          have i := A.e O _ _ h1
          obtain ⟨j1, j2⟩ := A.b O _ _ _ _ h2
          have w := s_orT i.2.1 j2
          exact ⟨s_or i.1 j1, w.pt, fun op es p' z => by cases z; exact w⟩
        | [], h => exact bad_h h
        | [_], h => exact bad_h h
    | _ => exact bad_h h
  | cmp op a b =>
    simp only [chkE] at h
    split at h
    · simp only [Bool.and_eq_true] at h
      obtain ⟨⟨⟨h1, h2⟩, h3⟩, h4⟩ := h
      obtain rfl := of_decide_eq_true h1
      exact Snd.test (s_cmp O.units (marks_ok h2) (A.e O _ _ h3).1 (A.e O _ _ h4).1) (s_cmpT O.units (marks_ok h2) (A.e O _ _ h3).1 (A.e O _ _ h4).1) (fun _ _ _ z => nomatch z)
    · exact bad_h h
  | chain op op2 a b c =>
    simp only [chkE] at h
    split at h
    · simp only [Bool.and_eq_true] at h
      obtain ⟨⟨⟨⟨⟨h1, h1'⟩, h2⟩, h3⟩, h4⟩, h5⟩ := h
      obtain rfl := of_decide_eq_true h1
      obtain rfl := of_decide_eq_true h1'
      have hm : ∀ {op op' : CmpOp} {b c : Expr}, notSet c = true → lastMarks [op, op'] [b, c] = false := fun h => marks_ok h
      exact Snd.test (s_chain O.units (hm h2) (A.e O _ _ h3).1 (A.e O _ _ h4).1 (A.e O _ _ h5).1) (s_chainT O.units (hm h2) (A.e O _ _ h3).1 (A.e O _ _ h4).1 (A.e O _ _ h5).1) (fun _ _ _ z => nomatch z)
    · exact bad_h h
  | ite t a b =>
    cases e with
    | IfExp x y z p =>
      simp only [chkE, Bool.and_eq_true] at h
      obtain ⟨⟨h1, h2⟩, h3⟩ := h
      have i1 := A.e O _ _ h1
      have i2 := A.e O _ _ h2
      have i3 := A.e O _ _ h3
      exact Snd.test (s_ite i1.2.1 i2.1 i3.1) (s_iteT i1.2.1 i2.2.1 i3.2.1) (fun _ _ _ z => nomatch z)
    | _ => exact bad_h h
  | ix a i =>
    cases e with
    | Subscript x y p =>
      simp only [chkE, Bool.and_eq_true] at h
      exact Snd.plain (s_ix O.units (A.e O _ _ h.1.2).1 (A.e O _ _ h.2).1 (plainIx_ok h.1.1)) rfl
    | _ => exact bad_h h
  | slice a lo hi =>
    simp only [chkE] at h
    split at h
    · simp only [Bool.and_eq_true] at h
      exact Snd.plain (s_slice (A.e O _ _ h.1.1).1 (A.o O _ _ h.1.2) (A.o O _ _ h.2)) rfl
    · exact bad_h h
  | attr o f =>
    cases e with
    | Attribute x nm p =>
      simp only [chkE, Bool.and_eq_true] at h
      have := O.attrs f nm (eq_of_beq h.1.2)
      subst this
      exact Snd.plain (s_attr O.inj (O.has f) (A.e O _ _ h.2).1 (base_ok h.1.1)) rfl
    | _ => exact bad_h h
  | call f cs =>
    simp only [chkE] at h
    split at h
    · simp only [Bool.and_eq_true] at h
      obtain ⟨⟨⟨h1, h2⟩, h3⟩, h4⟩ := h
      obtain ⟨g1, g2, g3⟩ := glb_ok O h1
      obtain ⟨f1, np, F, f2⟩ := O.fns f _ (eq_of_beq h2)
      obtain ⟨i1, i2, i3, i4⟩ := A.es O _ _ h4
      rename_i x p1 es p
      refine Snd.plain ?_ rfl
      cases es with
      | nil =>
        cases cs with
        | nil => exact s_call0 O.tk F g1 f1 f2 g2
        | cons c cs => exact nomatch i2
      | cons e es =>
        have hs := h3
        simp only [noStar, Bool.and_eq_true, Bool.not_eq_true'] at hs
        exact s_call O.tk F g1 f1 f2 i3 g2 (star_cons hs.1) (noStar_any hs.2)
    · exact bad_h h
  | mk c cs =>
    simp only [chkE] at h
    split at h
    · simp only [Bool.and_eq_true] at h
      obtain ⟨⟨⟨h1, h2⟩, h3⟩, h4⟩ := h
      obtain ⟨g1, g2, g3⟩ := glb_ok O h1
      obtain ⟨f1, f2⟩ := O.clss c _ (eq_of_beq h2)
      obtain ⟨i1, i2, i3, i4⟩ := A.es O _ _ h4
      rename_i x p1 es p
      refine Snd.plain (s_mk O.tk O.cls f2 g1 f1 i3 (fun z => ?_) g2 fun e es' z => ?_) rfl
      · subst z
        cases cs with
        | nil => rfl
        | cons c cs => exact nomatch i2
      · subst z
        simp only [noStar, Bool.and_eq_true, Bool.not_eq_true'] at h3
        exact ⟨star_cons h3.1, noStar_any h3.2⟩
    · exact bad_h h
  | meth o m cs =>
    simp only [chkE] at h
    split at h
    · simp only [Bool.and_eq_true] at h
      obtain ⟨⟨⟨⟨⟨⟨h1, h2⟩, h3⟩, h4⟩, h5⟩, h6⟩, h7⟩ := h
      have e1 := O.attrs m _ (eq_of_beq h2)
      subst e1
      obtain ⟨i1, i2, i3, i4⟩ := A.es O _ _ h7
      rename_i x ap es p
      refine Snd.plain (s_meth O.inj O.tk O.meths (O.mfn m) (A.e O _ _ h6).1 i3 (fun z => ?_) (fun e es' z => ?_) (meth_eq h1 h3 (of_decide_eq_true h4) h5)) rfl
      · subst z
        cases cs with
        | nil => rfl
        | cons c cs => exact nomatch i2
      · subst z
        simp only [noStar, Bool.and_eq_true, Bool.not_eq_true'] at h3
        exact ⟨star_cons h3.1, noStar_any h3.2⟩
    · exact bad_h h
  | bi b cs =>
    simp only [chkE] at h
    split at h
    · rename_i x p1 e1 es p
      rw [Bool.and_eq_true, Bool.and_eq_true] at h
      obtain ⟨⟨h1, h2⟩, h3⟩ := h
      obtain ⟨i1, i2, i3, i4⟩ := A.es O _ _ h2
      have hs := h1
      simp only [noStar, Bool.and_eq_true, Bool.not_eq_true'] at hs
      refine Snd.plain ?_ rfl
      have gen : (bltn cc x && (biName b).map (·.1) == some x) = true → PE X (.Call (.Name x p1) (e1 :: es) [] p) (tE X.K N W (ev T call (.bi b cs))) := by
        intro h3
        rw [Bool.and_eq_true] at h3
        obtain ⟨b1, b2, b3, b4⟩ := bltn_ok O h3.1
        have e := eq_of_beq h3.2
        obtain ⟨⟨x', v⟩, e1, e2⟩ := Option.map_eq_some_iff.mp e
        have e2' : x' = x := e2
        subst e2'
        obtain ⟨k1, k2⟩ := bi_boot e1
        rcases k2 with ⟨id, rfl⟩ | ⟨id, rfl⟩
        · exact s_bi (bi_call O e1) b1 b2 k1 i3 b4 b3 (star_cons hs.1) (noStar_any hs.2)
        · exact s_bt (ty_call e1) b1 b2 k1 i3 b4 b3 (star_cons hs.1) (noStar_any hs.2)
      cases b with
      | gcd =>
        simp only [Bool.and_eq_true] at h3
        obtain ⟨⟨k1, k2⟩, k3⟩ := h3
        obtain ⟨g1, g2, g3⟩ := glb_ok O k1
        obtain rfl := eq_of_beq k3
        exact s_bf b_gcd g1 (O.gcd k2) i3 g2 (star_cons hs.1) (noStar_any hs.2)
      | _ => exact gen h3
    · exact bad_h h
  | biM b cs =>
    simp only [chkE] at h
    split at h
    · rename_i x p1 e1 es p
      simp only [Bool.and_eq_true] at h
      obtain ⟨⟨⟨h1, h2⟩, h3⟩, h4⟩ := h
      obtain ⟨i1, i2, i3, i4⟩ := A.es O _ _ h2
      have hs := h1
      simp only [noStar, Bool.and_eq_true, Bool.not_eq_true'] at hs
      obtain ⟨b1, b2, b3, b4⟩ := bltn_ok O h3
      have e := eq_of_beq h4
      obtain ⟨⟨x', v⟩, e1, e2⟩ := Option.map_eq_some_iff.mp e
      have e2' : x' = x := e2
      subst e2'
      obtain ⟨id, rfl, k1, k2⟩ := tyO_call (X := X) (N := N) e1
      exact Snd.plain (s_btO k2 b1 b2 k1 i3 b4 b3 (star_cons hs.1) (noStar_any hs.2)) rfl
    · exact bad_h h
  | isiT a cs =>
    simp only [chkE] at h
    split at h
    · rename_i x p1 y es k p2 p
      simp only [Bool.and_eq_true, Bool.not_eq_true'] at h
      obtain ⟨⟨⟨⟨h1, h2⟩, h3⟩, h4⟩, h5⟩ := h
      obtain ⟨i1, i2, i3, i4⟩ := A.es O _ _ h5
      obtain ⟨b1, b2, b3, b4⟩ := bltn_ok O h1
      obtain rfl := eq_of_beq h2
      exact Snd.plain (s_isiT O.isi O.isk b1 b2 (A.e O _ _ h4).1 i3 rfl (star_cons h3) rfl) rfl
    · exact bad_h h
  | bm o m cs =>
    simp only [chkE] at h
    split at h
    · rw [Bool.and_eq_true, Bool.and_eq_true, Bool.and_eq_true, Bool.and_eq_true, Bool.and_eq_true, Bool.and_eq_true] at h
      obtain ⟨⟨⟨⟨⟨⟨h1, h2⟩, h3⟩, h4⟩, h5⟩, h6⟩, h7⟩ := h
      exact Snd.plain (bm_rule A O h1 h2 (of_decide_eq_true h3) h4 h5 h6 h7) rfl
    · exact bad_h h
  | lc m own elt tg k cs ifs =>
    simp only [chkE] at h
    split at h
    · rename_i x t it fs scope p
      simp only [Bool.and_eq_true] at h
      obtain ⟨⟨⟨⟨⟨⟨⟨h1, h2⟩, h3⟩, h4⟩, h5⟩, h6⟩, h7⟩, h8⟩ := h
      have e3 : (ownOf cc.N own).map (·.2) = own := eq_of_beq h3
      have i1 := A.i O _ _ _ _ h1
      have ok : BlkOk X.N X.env.scope scope (ownOf cc.N own) := by rw [O.slots, O.scope]; exact blkOk_by h4
      have := s_lc (m := m) (W := W) (pos := p) O.calm O.nd i1 ok (fun i hi => by
          rw [e3]
          exact List.contains_iff_mem.mp (List.all_eq_true.mp h5 i hi))
        (fun s H C cl fp => (A.t (O.blk scope s H C cl fp) _ _ h6).2) (fun s H C cl fp => A.f (O.blk scope s H C cl fp) _ _ h7) (fun s H C cl fp => (A.e (O.blk scope s H C cl fp) _ _ h8).1) (fun x => fold_ok h2)
      rw [e3] at this
      exact Snd.plain this rfl
    · exact bad_h h
  | kix ks ds i =>
    simp only [chkE] at h
    split at h
    · rename_i x p1 y p
      simp only [Bool.and_eq_true] at h
      obtain ⟨⟨⟨h1, h2⟩, h3⟩, h4⟩ := h
      obtain ⟨g1, g2, g3⟩ := glb_ok O h2
      split at h3
      · rename_i ks' ds' hk
        rw [Bool.and_eq_true] at h3
        obtain rfl := of_decide_eq_true h3.1
        obtain rfl := sameDs_eq h3.2
        obtain ⟨ad, k1, k2⟩ := O.kds x _ _ hk
        exact Snd.plain (s_kix O.units g1 k1 g2 k2 (A.e O _ _ h4).1 (plainIx_ok h1)) rfl
      · exact bad_h h3
    · exact bad_h h
  | fstr es => exact bad_h h
theorem all_ok : ∀ n, All n
  | 0 => all0
  | n + 1 =>
    have A := all_ok n
    ⟨fun O => a_e A O, fun O => a_b A O, fun O => a_es A O, fun O => a_o A O, fun O => a_f A O, fun O => a_t A O, fun O => a_ts A O, fun O => a_i A O⟩
end
end G

set_option Elab.async false
set_option linter.all false
set_option maxRecDepth 100000
set_option maxHeartbeats 4000000
/-! E8: statements. -/
namespace G
open PySem L2
def isFun (cc : CC) : Bool := match cc.sc.kind with
  | .function => true
  | _ => false
/-- y = [..], exchanged -/
def swapB (cc : CC) : Expr → Expr → Bool
  | .Name t p, .ListComp _ _ scope lp => isFun cc && cc.sc.names.lookup t == some .local && p.line == lp.line && !(scope.names.any fun (n, k) => n == t && (k == .local || k == .cell))
  | _, _ => false
def isNm : Expr → Bool
  | .Name _ _ => true
  | _ => false
/-- a value that is never exchanged with the name -/
def noSwap (cc : CC) (t e : Expr) : Bool := notComp e || !isNm t || (match t, e with
  | .Name t p, .ListComp _ _ scope lp => isFun cc && !(cc.sc.names.lookup t == some .local && p.line == lp.line && !(scope.names.any fun (n, k) => n == t && (k == .local || k == .cell)))
  | _, _ => false)
def locN (cc : CC) (i : Nat) (x : Str) : Bool := cc.N[i]? == some x && cc.sc.names.lookup x == some .local
mutual
def chkS : Nat → CC → Stmt → S → Bool
  | 0, _, _, _ => false
  | n + 1, cc, st, s => match s with
    | .raise _ _ => true
    | .try_ _ _ => true
    | .pass => match st with
      | .Pass _ => true
      | .Expr (.Constant (.str _) _ _) _ => true
      | _ => false
    | .brk => match st with
      | .Break _ => true
      | _ => false
    | .cnt => match st with
      | .Continue _ => true
      | _ => false
    | .retN => match st with
      | .Return none _ => true
      | _ => false
    | .ret c => match st with
      | .Return (some e) _ => chkE n cc e c
      | _ => false
    | .expr c => match st with
      | .Expr e _ => notComp e && chkE n cc e c
      | _ => false
    | .asg tg c => match st with
      | .Assign [t] e _ => (match swapB cc t e with
        | true => chkT n cc t tg && chkE n cc e c && isLc c
        | false => noSwap cc t e && (notTups t e || plainTups cc.sc.names t e) && chkT n cc t tg && chkE n cc e c)
      | _ => false
    | .par ij cs => match st with
      | .Assign [.Tuple ts _ _] (.Tuple es _ _) _ => (match ts, es, ij with
        | [.Name x px, .Name y py], [a, b], [i, j] => isFun cc && locN cc i x && locN cc j y && decide (px.line = py.line) && !(x == y) && !(i == j) && !isStar a && !isStar b && !(foldedForSure 8 a && foldedForSure 8 b) && !(constantsAlone 8 a && constantsAlone 8 b)
          && chkEs n cc [a, b] cs
        | [.Name x px, .Name y py, .Name z pz], [a, b, c], [i, j, l] => isFun cc && locN cc i x && locN cc j y && locN cc l z && decide (px.line = py.line) && decide (px.line = pz.line) && !(x == y) && !(x == z) && !(y == z) && !(i == j) && !(i == l) && !(j == l) && !isStar a && !isStar b && !isStar c
          && !(foldedForSure 8 a && (foldedForSure 8 b && foldedForSure 8 c)) && !(constantsAlone 8 a && (constantsAlone 8 b && constantsAlone 8 c)) && chkEs n cc [a, b, c] cs
        | _, _, _ => false)
      | _ => false
    | .aug i op c => match st with
      | .AugAssign (.Name x _) op' e _ => decide (op' = op) && augOp op && stoN cc i x && chkE n cc e c
      | _ => false
    | .augf o f op c => match st with
      | .AugAssign (.Attribute x nm _) op' e _ => decide (op' = op) && augOp op && cc.attrs.lookup f == some nm && chkE n cc x o && chkE n cc e c
      | _ => false
    | .ite c a b => match st with
      | .If e x y _ => chkE n cc e c && chkSs n cc x a && chkSs n cc y b
      | _ => false
    | .for_ tg k cs body => match st with
      | .For t it b [] _ => chkI n cc t it k cs && notSet it && chkT n cc t tg && chkSs n cc b body
      | _ => false
    | .whl c body => match st with
      | .While e b [] _ => chkE n cc e c && chkSs n cc b body
      | _ => false
def chkSs : Nat → CC → List Stmt → List S → Bool
  | 0, _, _, _ => false
  | n + 1, cc, sts, ss => match sts, ss with
    | [], [] => true
    | st :: sts, s :: ss => chkS n cc st s && chkSs n cc sts ss
    | _, _ => false
def augOp : Operator → Bool
  | .Add | .Sub => true
  | _ => false
def isLc : C → Bool
  | .lc _ _ _ _ _ _ _ => true
  | _ => false
end
section
variable {n : Nat} {cc : CC} {X : Cx} {N : Nms} {T : Tab} {call : Call} {W : WX} {wf : Nat}
structure AllS (n wf : Nat) : Prop where
  s : ∀ {cc : CC} {X : Cx} {N : Nms} {T : Tab} {call : Call} {W : WX}, Ok cc X N T call W → PassesOwn (model X.prog X.w) X.A X.env X.xe → ∀ st s, chkS n cc st s = true → PS X st (tS X.K N W (ex T call wf s))
  ss : ∀ {cc : CC} {X : Cx} {N : Nms} {T : Tab} {call : Call} {W : WX}, Ok cc X N T call W → PassesOwn (model X.prog X.w) X.A X.env X.xe → ∀ sts ss, chkSs n cc sts ss = true → PSs X sts (tS X.K N W (exs T call wf ss))
theorem augOp_ok {op : Operator} (h : augOp op = true) : op = .Add ∨ op = .Sub := by
  cases op <;> first | exact .inl rfl | exact .inr rfl | exact bad_h h
theorem isFun_ok (O : Ok cc X N T call W) (h : isFun cc = true) : X.env.blockKind = .function := by
  unfold Env.blockKind
  rw [O.scope]
  unfold isFun at h
  split at h
  · rename_i e
    rw [e]
    rfl
  · exact bad_h h
theorem locN_ok (O : Ok cc X N T call W) {i : Nat} {x : Str} (h : locN cc i x = true) : X.N[i]? = some x ∧ X.env.scope.names.lookup x = some .local := by
  simp only [locN, Bool.and_eq_true] at h
  exact ⟨by rw [O.slots]; exact eq_of_beq h.1, by rw [O.scope]; exact eq_of_beq h.2⟩
theorem noSwap_ok (O : Ok cc X N T call W) {t e : Expr} {l : Nat} (h : noSwap cc t e = true) : swapsWithSole [t] e l X.env = pure false := by
  show swapsWith e (some t) l X.env = pure false
  simp only [noSwap, Bool.or_eq_true] at h
  rcases h with (h | h) | h
  · exact swaps_no h
  · exact swaps_other fun x p z => by subst z; exact bad_h h
  · split at h
    · rw [Bool.and_eq_true, Bool.not_eq_true'] at h
      refine swaps_name false ?_
      have e := h.2
      rw [← O.scope] at e
      rw [← e]
      have hf : (X.env.blockKind == .function) = true := by rw [isFun_ok O h.1]; rfl
      rw [hf, Bool.true_and]
      rfl
    · exact bad_h h
theorem as_s (A : AllS n wf) (O : Ok cc X N T call W) (hp : PassesOwn (model X.prog X.w) X.A X.env X.xe) (st s) (h : chkS (n + 1) cc st s = true) : PS X st (tS X.K N W (ex T call wf s)) := by
  have E := all_ok n
  cases s with
  | raise c es => exact PS.wk (ps_never) fun σ H D ⟨η, ι, ρ, st, rs, re, f⟩ => f.elim
  | try_ b hs => exact PS.wk (ps_never) fun σ H D ⟨η, ι, ρ, st, rs, re, f⟩ => f.elim
  | pass =>
    simp only [chkS] at h
    split at h
    · exact s_pass
    · exact s_doc
    · exact bad_h h
  | brk =>
    simp only [chkS] at h
    split at h
    · exact s_brk
    · exact bad_h h
  | cnt =>
    simp only [chkS] at h
    split at h
    · exact s_cnt
    · exact bad_h h
  | retN =>
    simp only [chkS] at h
    split at h
    · exact s_retN
    · exact bad_h h
  | ret c =>
    simp only [chkS] at h
    split at h
    · exact s_ret (E.e O _ _ h).1
    · exact bad_h h
  | expr c =>
    simp only [chkS] at h
    split at h
    · rw [Bool.and_eq_true] at h
      exact s_expr (E.e O _ _ h.2).1 (swaps_no h.1)
    · exact bad_h h
  | asg tg c =>
    simp only [chkS] at h
    split at h
    · rename_i t e p
      split at h
      · rename_i hsw
        simp only [Bool.and_eq_true] at h
        obtain ⟨⟨h1, h2⟩, h3⟩ := h
        unfold swapB at hsw
        split at hsw
        · rename_i y py x gens scope lp
          have hsw' := hsw
          simp only [Bool.and_eq_true] at hsw'
          obtain ⟨⟨⟨w1, w2⟩, w3⟩, w4⟩ := hsw'
          cases n with
          | zero => exact bad_h h1
          | succ n =>
          cases c with
          | lc m own elt tg' k cs ifs =>
            cases tg with
            | nm i =>
              obtain ⟨g1, g2, g3⟩ := stoN_ok O (show stoN cc i y = true from h1)
              simp only [chkE] at h2
              split at h2
              · rename_i x t it fs scope p e0
                injection e0 with e1 e2 e3 e4
                subst e1 e2 e3 e4
                simp only [Bool.and_eq_true] at h2
                obtain ⟨⟨⟨⟨⟨⟨⟨h1, h2⟩, h3⟩, h4⟩, h5⟩, h6⟩, h7⟩, h8⟩ := h2
                have e3 : (ownOf cc.N own).map (·.2) = own := eq_of_beq h3
                have A := all_ok n
                have i1 := A.i O _ _ _ _ h1
                have ok : BlkOk X.N X.env.scope scope (ownOf cc.N own) := by rw [O.slots, O.scope]; exact blkOk_by h4
                have hl : X.env.scope.names.lookup y = some .local := by rw [O.scope]; exact eq_of_beq w2
                have hb : swapsWith (.ListComp x [⟨t, it, fs, 0⟩] scope lp) (some (.Name y py)) p.line X.env = pure true := by
                  refine swaps_name true ?_
                  have hf : (X.env.blockKind == .function) = true := by rw [isFun_ok O w1]; rfl
                  have hk : (X.env.kindOf y == some .local) = true := by rw [show X.env.kindOf y = some .local from hl]; rfl
                  rw [hf, hk, w3, Bool.true_and, Bool.true_and, w4]; rfl
                have := s_setLc (m := m) (W := W) (pos := lp) (spos := p) (py := py) O.calm O.nd g1 hl hb i1 ok (fun i hi => by
                    rw [e3]
                    exact List.contains_iff_mem.mp (List.all_eq_true.mp h5 i hi))
                  (fun s H C cl fp => (A.t (O.blk scope s H C cl fp) _ _ h6).2) (fun s H C cl fp => A.f (O.blk scope s H C cl fp) _ _ h7) (fun s H C cl fp => (A.e (O.blk scope s H C cl fp) _ _ h8).1) (fun x => fold_ok h2)
                rw [e3] at this
                exact this
              · exact bad_h h2
            | _ => exact bad_h h1
          | _ => exact bad_h h3
        · exact bad_h hsw
      · simp only [Bool.and_eq_true, Bool.or_eq_true] at h
        obtain ⟨⟨⟨h1, h2⟩, h3⟩, h4⟩ := h
        obtain ⟨t1, t2⟩ := E.t O _ _ h3
        refine s_asg (E.e O _ _ h4).1 t2 (noSwap_ok O h1) ?_ (assign_one t1)
        rcases h2 with h2 | h2
        · exact stores_no h2
        · exact stores_plain (by rw [O.scope]; exact h2)
    · exact bad_h h
  | par ij cs =>
    simp only [chkS] at h
    split at h
    · split at h
      · simp only [Bool.and_eq_true, Bool.not_eq_true'] at h
        obtain ⟨⟨⟨⟨⟨⟨⟨⟨⟨⟨h1, h2⟩, h3⟩, h4⟩, h5⟩, h6⟩, h7⟩, h8⟩, h9⟩, h10⟩, h11⟩ := h
        obtain ⟨a1, a2⟩ := locN_ok O h2
        obtain ⟨b1, b2⟩ := locN_ok O h3
        obtain ⟨i1, i2, i3, i4⟩ := E.es O _ _ h11
        exact s_par O.calm O.nd a1 b1 (beq_eq_false_iff_ne.mp h6) a2 b2 i3 (stores_two (isFun_ok O h1) a2 b2 (of_decide_eq_true h4) (beq_eq_false_iff_ne.mp h5) h7 h8 h9 h10) rfl
      · simp only [Bool.and_eq_true, Bool.not_eq_true'] at h
        obtain ⟨⟨⟨⟨⟨⟨⟨⟨⟨⟨⟨⟨⟨⟨⟨⟨⟨h1, h2⟩, h3⟩, h3'⟩, h4⟩, h4'⟩, h5⟩, h5'⟩, h5''⟩, h6⟩, h6'⟩, h6''⟩, h7⟩, h8⟩, h8'⟩, h9⟩, h10⟩, h11⟩ := h
        obtain ⟨a1, a2⟩ := locN_ok O h2
        obtain ⟨b1, b2⟩ := locN_ok O h3
        obtain ⟨c1, c2⟩ := locN_ok O h3'
        obtain ⟨i1, i2, i3, i4⟩ := E.es O _ _ h11
        exact s_par3 O.calm O.nd a1 b1 c1 (beq_eq_false_iff_ne.mp h6) (beq_eq_false_iff_ne.mp h6') (beq_eq_false_iff_ne.mp h6'') a2 b2 c2 i3
          (stores_three (isFun_ok O h1) a2 b2 c2 (of_decide_eq_true h4) (of_decide_eq_true h4') (beq_eq_false_iff_ne.mp h5) (beq_eq_false_iff_ne.mp h5') (beq_eq_false_iff_ne.mp h5'') h7 h8 h8' h9 h10) rfl
      · exact bad_h h
    · exact bad_h h
  | aug i op c =>
    simp only [chkS] at h
    split at h
    · simp only [Bool.and_eq_true] at h
      obtain ⟨⟨⟨h1, h2⟩, h3⟩, h4⟩ := h
      obtain rfl := of_decide_eq_true h1
      obtain ⟨g1, g2, g3⟩ := stoN_ok O h3
      exact s_aug (augOp_ok h2) O.nd g1 g2 (E.e O _ _ h4).1 g3
    · exact bad_h h
  | augf o f op c =>
    simp only [chkS] at h
    split at h
    · simp only [Bool.and_eq_true] at h
      obtain ⟨⟨⟨⟨h1, h2⟩, h3⟩, h4⟩, h5⟩ := h
      obtain rfl := of_decide_eq_true h1
      have e1 := O.attrs f _ (eq_of_beq h3)
      subst e1
      exact s_augf O.inj (O.has f) (augOp_ok h2) (E.e O _ _ h4).1 (E.e O _ _ h5).1
    · exact bad_h h
  | ite c a b =>
    simp only [chkS] at h
    split at h
    · simp only [Bool.and_eq_true] at h
      exact s_if (E.e O _ _ h.1.1).2.1 (A.ss O hp _ _ h.1.2) (A.ss O hp _ _ h.2)
    · exact bad_h h
  | for_ tg k cs body =>
    simp only [chkS] at h
    split at h
    · simp only [Bool.and_eq_true] at h
      obtain ⟨⟨⟨h1, h2⟩, h3⟩, h4⟩ := h
      exact s_for hp O.calm (E.i O _ _ _ _ h1) (E.t O _ _ h3).2 (A.ss O hp _ _ h4) (fun x => fold_ok h2)
    · exact bad_h h
  | whl c body =>
    simp only [chkS] at h
    split at h
    · simp only [Bool.and_eq_true] at h
      exact s_whl hp (E.e O _ _ h.1).2.1 (A.ss O hp _ _ h.2)
    · exact bad_h h
theorem as_ss (A : AllS n wf) (O : Ok cc X N T call W) (hp : PassesOwn (model X.prog X.w) X.A X.env X.xe) (sts ss) (h : chkSs (n + 1) cc sts ss = true) : PSs X sts (tS X.K N W (exs T call wf ss)) := by
  simp only [chkSs] at h
  split at h
  · exact ss_nil
  · rw [Bool.and_eq_true] at h
    have := ss_cons (A.s O hp _ _ h.1) (A.ss O hp _ _ h.2)
    exact this
  · exact bad_h h
theorem allS_ok : ∀ n, AllS n wf
  | 0 => by constructor <;> (intros; rename_i h; exact bad_h h)
  | n + 1 => ⟨fun O hp => as_s (allS_ok n) O hp, fun O hp => as_ss (allS_ok n) O hp⟩
end
end G

set_option Elab.async false
set_option linter.all false
set_option maxRecDepth 100000
set_option maxHeartbeats 4000000
/-! E9: defs. -/
namespace G
open PySem L2
def fnCC (g : CC) (S : List Str) (sc : Scope) : CC := { g with N := S, sc := sc, fnc := (sc.names.filter fun p => p.2 == .cell).map (·.1) }
/-- a def of the table, and the text it has -/
def FnAtK (K : PySem.W.Frag) (N : Nms) (g : CC) (f : Nat) (fd : FnD) : Prop :=
  ∃ x qual st fdt S ps, L2.Fun K x qual st (N.fn f) fdt ∧ FnScope S ps (defScope st) ∧ Binds K fdt ps [] ∧ fd.np = ps.length ∧ fd.nl = S.length - ps.length ∧ chkSs 400 (fnCC g S (defScope st)) (defBody st) fd.body = true
structure Facts (w : World) (K : PySem.W.Frag) (mg : Str → Option Value) (N : Nms) (T : Tab) (g : CC) : Prop where
  inj : Inj N
  fns : ∀ f x, g.fns.lookup f = some x → mg x = some (.ref (N.fn f)) ∧ (T.fns.lookup f).isSome = true
  clss : ∀ c x, g.clss.lookup c = some x → mg x = some (.ref (N.cls c)) ∧ PySem.W.keepIn K (.ref (N.cls c)) = true
  made : ∀ c k, T.clss.lookup c = some k → match k.init with
    | none => Mk0 K (N.cls c)
    | some i => Mk K (N.cls c) (N.fn i) ∧ (T.fns.lookup i).isSome = true
  meths : ∀ c k m f, T.clss.lookup c = some k → lookM m k.meths = some f → Cls K (N.cls c) ∧ Meth K (N.cls c) (N.attr m) (N.fn f) ∧ (T.fns.lookup f).isSome = true
  attrs : ∀ f nm, g.attrs.lookup f = some nm → N.attr f = nm
  has : ∀ f c, T.has c f = true → Cls K (N.cls c) ∧ NoAttr K (N.cls c) (N.attr f)
  isi : ∀ η, IsiAt K (N.h η) T
  isk : ∀ c u b, T.isi.lookup (.cls c, u) = some b → (T.clss.lookup c).isSome = true
  cons : ∀ x d, g.cons.lookup x = some d → ∃ v u, mg x = some u ∧ RelV v u ∧ ∀ η ι H, rel K (N.h η) ι H d v
  kds : ∀ x ks ds, g.kds.lookup x = some (ks, ds) → ∃ ad, mg x = some (.ref ad) ∧ ∀ z d, lookS z ks ds = some d → ∃ v, KDct K w ad z v ∧ ∀ η ι H, rel K (N.h η) ι H d v
  free : ∀ x, g.free.contains x = true → mg x = none
  gcd : g.gcd = true → mg "gcd" = some (.builtin "math.gcd")
  defs : ∀ f fd, T.fns.lookup f = some fd → FnAtK K N g f fd
  keep : ∀ f fd, T.fns.lookup f = some fd → PySem.W.keepIn K (.ref (N.fn f)) = true
section
variable {P : Program} {w : World} {K : PySem.W.Frag} {mg : Str → Option Value} {base : Heap} {N : Nms} {T : Tab} {g : CC} {wf : Nat}
theorem callN_len {n f : Nat} {ds : List D} {st : Store} (h : callN T wf n f ds st ≠ .bad) : ∃ fd, T.fns.lookup f = some fd ∧ ds.length = fd.np := by
  cases n with
  | zero => exact (h rfl).elim
  | succ n =>
    unfold callN at h
    split at h
    · rename_i fd e
      refine ⟨fd, e, ?_⟩
      unfold runFn at h
      split at h
      · assumption
      · exact (h rfl).elim
    · exact (h rfl).elim
/-- a def at a depth -/
def FnLv (P : Program) (w : World) (K : PySem.W.Frag) (mg : Str → Option Value) (base : Heap) (N : Nms) (T : Tab) (wf n : Nat) : Prop := ∀ f fd, T.fns.lookup f = some fd → ∃ fdt ps, FnOk P w K mg base (CX P w) (2 * n + 1) (N.fn f) fdt ps (spOf K N fd.np (callN T wf n f)) ∧ Binds K fdt ps []
theorem fnAt_of {X : Cx} {n f : Nat} {fd : FnD} (h : FnLv X.prog X.w X.K X.mg X.base N T wf n) (hr : Room (2 * n + 2) X.A) (e : T.fns.lookup f = some fd) (hk : PySem.W.keepIn X.K (.ref (N.fn f)) = true) :
    ∃ np, FnAt X N (callN T wf n) np f ∧ ∀ ds st, callN T wf n f ds st ≠ .bad → ds.length = np := by
  obtain ⟨fdt, ps, h1, h2⟩ := h f fd e
  refine ⟨fd.np, ⟨⟨2 * n + 1, fdt, ps, h1, hr, h2⟩, hk⟩, fun ds st z => ?_⟩
  obtain ⟨fd', e', l⟩ := callN_len z
  rw [e] at e'
  cases e'
  exact l
theorem ok_of {X : Cx} {W : WX} {n : Nat} {cc : CC} (F : Facts X.w X.K X.mg N T g) (h : FnLv X.prog X.w X.K X.mg X.base N T wf n) (hr : Room (2 * n + 2) X.A) (hc : X.calm = true) (hN : X.N.Nodup) (tk : Takes X W) (hcc : cc = fnCC g X.N X.env.scope) (hfn : ∀ x, X.fn x = true) :
    Ok cc X N T (callN T wf n) W := by
  subst hcc
  have fa : ∀ f, (T.fns.lookup f).isSome = true → ∃ np, FnAt X N (callN T wf n) np f ∧ ∀ ds st, callN T wf n f ds st ≠ .bad → ds.length = np := fun f hf => by
    obtain ⟨fd, e⟩ := Option.isSome_iff_exists.mp hf
    exact fnAt_of h hr e (F.keep f fd e)
  exact {
    calm := hc
    nd := hN
    slots := rfl
    scope := rfl
    fnc := fun x _ => hfn x
    units := hr.units
    inj := F.inj
    tk := tk
    fns := fun f x e => ⟨(F.fns f x e).1, fa f (F.fns f x e).2⟩
    clss := F.clss
    cls := fun c k e => by
      have := F.made c k e
      cases hi : k.init with
      | none => rw [hi] at this; exact this
      | some i => rw [hi] at this; exact ⟨this.1, fa i this.2⟩
    meths := fun c k m f e1 e2 => ⟨(F.meths c k m f e1 e2).1, (F.meths c k m f e1 e2).2.1⟩
    mfn := fun m c k f e1 e2 => fa f (F.meths c k m f e1 e2).2.2
    attrs := F.attrs
    has := F.has
    isi := F.isi
    isk := F.isk
    cons := F.cons
    kds := F.kds
    free := F.free
    gcd := F.gcd }
theorem Fin.toE {α : Type} {ι : List Addr} {H : Hp} {r : R α} {k : List Addr → Hp → Store → α → Prop} {E E' : XK} (f : Fin K N ι H r k E) (h : ∀ c d H, E c d H → E' c d H) : Fin K N ι H r k E' := by
  cases r with
  | ok a st => exact f
  | exc x st => exact fun ι' H' c dx p r z => h _ _ _ (f ι' H' c dx p r z)
  | bad => exact f
theorem start_rel {η ι : List Addr} {H : Hp} {S : List Str} {ds : List D} {vs : List V} (q : rels K (N.h η) ι H ds vs) : relE K (N.h η) ι H (ds.map some ++ List.replicate (S.length - ds.length) none) (L2.start S vs) := by
  unfold L2.start
  have hl := q.length
  refine ⟨by simp [hl], fun i d e => ?_⟩
  by_cases hi : i < ds.length
  · rw [List.getElem?_append_left (by simpa using hi)] at e
    rw [List.getElem?_map] at e
    cases e1 : ds[i]? with
    | none => rw [e1] at e; cases e
    | some d' =>
      rw [e1] at e
      cases e
      obtain ⟨v, g1, g2⟩ := q.get e1
      refine ⟨v, ?_, g2⟩
      rw [List.getElem?_append_left (by rw [List.length_map, ← hl]; exact hi), List.getElem?_map, g1]
      rfl
  · rw [List.getElem?_append_right (by simpa using hi), List.getElem?_replicate] at e
    split at e <;> cases e
theorem lv_at (F : Facts w K mg N T g) (n : Nat) (ih : ∀ m, n = m + 1 → FnLv P w K mg base N T wf m) {f : Nat} {fd : FnD} (e : T.fns.lookup f = some fd) {x qual : Str} {st : Stmt} {fdt : FuncData} {S ps : List Str} (D1 : L2.Fun K x qual st (N.fn f) fdt) (D2 : FnScope S ps (defScope st))
    (D4 : fd.np = ps.length) (D5 : fd.nl = S.length - ps.length) (D6 : chkSs 400 (fnCC g S (defScope st)) (defBody st) fd.body = true) : FnOk P w K mg base (CX P w) (2 * n + 1) (N.fn f) fdt ps (spOf K N fd.np (callN T wf n f)) := by
  cases n with
  | zero => exact D1.okX (k := 0) D2 (fun vs H Q E ⟨η, ι, st, ds, r, q, l, f⟩ => f.elim) (fun cdv A outer s H vs Q E hr ⟨η, ι, st, ds, r, q, l, f⟩ => f.elim)
  | succ n =>
    have ih := ih n rfl
    refine D1.okX (k := 2 * n + 2) D2 (fun vs H Q E ⟨η, ι, st, ds, r, q, l, f⟩ => by rw [← q.length, l, D4]) (fun cdv A outer s H vs Q E hr ⟨η, ι, st0, ds, r, q, l, fn⟩ => ?_)
    let X := cxOf (CX P w) P w K mg base S qual (defScope st) (N.fn f) cdv A outer s H E
    have tk : Takes X (fun c d _ H => E c d H) := takes_of (X := X) rfl rfl rfl rfl
    have O : Ok (fnCC g S (defScope st)) X N T (callN T wf n) (fun c d _ H => E c d H) := ok_of (X := X) F ih hr rfl D2.nd tk rfl (fun _ => rfl)
    refine ⟨_, (allS_ok (wf := wf) 400).ss O (passes_of (X := X) rfl) _ _ D6, ?_⟩
    refine ⟨η, ι, ds.map some ++ List.replicate fd.nl none, st0, r, ?_, ?_⟩
    · have := start_rel (S := S) q
      rw [D5, ← D4, ← l]
      exact this
    · have f2 : Fin K (N.h η) ι H (runFn T (callN T wf n) wf fd ds st0) (fun ι' H' _ d => ∀ v, rel K (N.h η) ι' H' d v → Q v H') E := by
        have e2 : callN T wf (n + 1) f ds st0 = runFn T (callN T wf n) wf fd ds st0 := by
          show (match T.fns.lookup f with | some fd => runFn T (callN T wf n) wf fd ds st0 | none => .bad) = _
          rw [e]
        rw [← e2]
        exact fn
      unfold runFn at f2
      rw [if_pos l] at f2
      show Fin K (N.h η) ι H (exs T (callN T wf n) wf fd.body (ds.map some ++ List.replicate fd.nl none) st0) _ _
      cases hx : exs T (callN T wf n) wf fd.body (ds.map some ++ List.replicate fd.nl none) st0 with
      | bad => rw [hx] at f2; exact f2.elim
      | exc x st1 =>
        rw [hx] at f2
        exact fun ι1 H1 c dx p1 r1 z σ => f2 ι1 H1 c dx p1 r1 z
      | ok fl st1 =>
        rw [hx] at f2
        intro ι1 H1 p1 r1
        cases fl with
        | next ρ' =>
          intro σ' re'
          obtain ⟨ι2, st2, d2, h1, h2⟩ := leave_ok r p1 r1 (d := .non) (v := .non) rfl f2
          exact h1 _ h2
        | brk ρ' => exact f2.elim
        | cnt ρ' => exact f2.elim
        | ret d =>
          intro v hv
          obtain ⟨ι2, st2, d2, h1, h2⟩ := leave_ok r p1 r1 hv f2
          exact h1 _ h2
theorem lv (F : Facts w K mg N T g) : ∀ n, FnLv P w K mg base N T wf n
  | 0 => fun f fd e => by
    obtain ⟨x, qual, st, fdt, S, ps, D1, D2, D3, D4, D5, D6⟩ := F.defs f fd e
    exact ⟨fdt, ps, lv_at F 0 (fun _ z => nomatch z) e D1 D2 D4 D5 D6, D3⟩
  | n + 1 => fun f fd e => by
    obtain ⟨x, qual, st, fdt, S, ps, D1, D2, D3, D4, D5, D6⟩ := F.defs f fd e
    exact ⟨fdt, ps, lv_at F (n + 1) (fun m z => by cases z; exact lv F n) e D1 D2 D4 D5 D6, D3⟩
end
end G

set_option Elab.async false
set_option linter.all false
set_option maxRecDepth 100000
set_option maxHeartbeats 4000000
/-! E10: what is to be known of the top, as one look that the kernel takes. -/
namespace G
open PySem L2
structure DefT where
  id : Nat
  at_ : Str × Option Str
  name : Str
  qual : Str
  st : Stmt
  ps : List Str
  S : List Str
  fd : FnD
structure ClsT where
  id : Nat
  name : Str
  k : ClsD
structure LawT where
  defs : List DefT
  clss : List ClsT
  attrs : List (Nat × Str)
  cons : List (Str × D)
  free : List Str
  gcd : Bool
  isi : List ((Ty × Ty) × Bool)
  kds : List (Str × (List Str × List D)) := []
def DefT.d (d : DefT) : He.DefD := ⟨d.at_, d.name, d.qual, defArgs d.st, defBody d.st, defScope d.st, [], []⟩
def LawT.tab (L : LawT) : Tab := { fns := L.defs.map fun d => (d.id, d.fd), clss := L.clss.map fun c => (c.id, c.k), isi := L.isi }
def LawT.cc (L : LawT) : CC where
  N := []
  sc := { kind := .function, names := [], isGenerator := false, isCoroutine := false }
  fnc := []
  fns := L.defs.filterMap fun d => match d.at_.2 with
    | none => some (d.id, d.at_.1)
    | some _ => none
  clss := L.clss.map fun c => (c.id, c.name)
  attrs := L.attrs
  cons := L.cons
  kds := L.kds
  free := L.free
  gcd := L.gcd
def attrN (l : List (Nat × Str)) (i : Nat) : Str := match l.lookup i with
  | some s => s
  | none => ⟨#[0, i]⟩
def LawT.nms (L : LawT) (K : PySem.W.Frag) : Nms where
  cls := fun c => match L.clss.find? (fun k => k.id == c) with
    | some k => He.ga K k.name
    | none => 0
  fn := fun f => match L.defs.find? (fun d => d.id == f) with
    | some d => He.fAd K d.at_
    | none => 0
  attr := attrN L.attrs
  hid := []
/-! what is looked at -/
mutual
/-- a value of the module is this -/
def conB (K : PySem.W.Frag) : D → Value → Bool
  | .non, .none => true
  | .bl b, .bool c => b == c
  | .int i, .int j _ => decide (i = j)
  | .str x, .str y _ => decide (x = y)
  | .tup l, .ref a => (match K.lookup a with
    | some ⟨.type c, _, .seq its _, _⟩ => decide (c = "tuple") && decide (its.size ≤ sizeLine) && conBs K l its.toList
    | _ => false)
  | _, _ => false
def conBs (K : PySem.W.Frag) : List D → List Value → Bool
  | [], [] => true
  | d :: l, u :: us => conB K d u && conBs K l us
  | _, _ => false
end
/-- a dict of the module -/
def kdB (K : PySem.W.Frag) (a : Addr) : List Str → List D → Bool
  | [], [] => true
  | z :: ks, d :: ds => (match PySem.W.nsIn K a z with
    | some (some u) => conB K d u
    | _ => false) && kdB K a ks ds
  | _, _ => false
def clsB (K : PySem.W.Frag) (N : Nms) (L : LawT) (c : ClsT) : Bool :=
  let C := He.ga K c.name
  He.eqO (PySem.W.nsIn K mainGlobals c.name) (some (some (.ref C))) && PySem.W.keepIn K (.ref C) && (He.Fa.cls c.name).ok K
  && (c.k.flds.all fun f => He.eqO (PySem.W.findIn K (.ref C) (N.attr f)) (some none))
  && (c.k.meths.all fun p => He.eqO (PySem.W.findIn K (.ref C) (N.attr p.1)) (some (some (.ref (N.fn p.2)))) && PySem.W.isFn K (.ref (N.fn p.2)) && PySem.W.keepIn K (.ref (N.fn p.2)) && (L.tab.fns.lookup p.2).isSome)
  && PySem.W.makesIn K C
  && (match c.k.init with
    | none => He.eqO (PySem.W.findIn K (.ref C) "__init__") (some (some (.builtin "object.__init__"))) && decide (PySem.W.mroIn K C (.type "object") = some true)
    | some i => He.eqO (PySem.W.findIn K (.ref C) "__init__") (some (some (.ref (N.fn i)))) && PySem.W.isFn K (.ref (N.fn i)) && (L.tab.fns.lookup i).isSome)
  && He.eqO (PySem.W.findIn K (.ref C) "__class__") (some (some (.builtin "object.__class__"))) && decide (PySem.W.mroIn K C (.type "object") = some true)
def exB (L : LawT) (K : PySem.W.Frag) : Bool :=
  let N := L.nms K
  (L.defs.all fun d => d.at_.2.isSome || He.eqO (PySem.W.nsIn K mainGlobals d.at_.1) (some (some (.ref (He.ga K d.at_.1)))))
  && (L.clss.all fun c => clsB K N L c)
  && (L.cons.all fun c => match PySem.W.nsIn K mainGlobals c.1 with
    | some (some u) => conB K c.2 u
    | _ => false)
  && (L.free.all fun x => He.eqO (PySem.W.nsIn K mainGlobals x) (some none))
  && (!L.gcd || He.eqO (PySem.W.nsIn K mainGlobals "gcd") (some (some (.builtin "math.gcd"))))
  && (L.isi.all fun p => decide (PySem.W.kitOne K (tyV' N p.1.1) (tyV' N p.1.2) = some p.2))
  && (L.kds.all fun k => He.eqO (PySem.W.nsIn K mainGlobals k.1) (some (some (.ref (He.ga K k.1)))) && kdB K (He.ga K k.1) k.2.1 k.2.2)
  && He.eqO (PySem.W.specialIn K (.builtin "object.__class__") "__get__") (some (some (.builtin "getset_descriptor.__get__"))) && decide (PySem.W.takesIn K (.builtin "object.__class__") = some true)
/-! what is seen of the text and the tables alone -/
def plainArgs (ps : List Str) (a : Arguments) : Bool := match a with
  | ⟨[], as, none, [], [], none, []⟩ => decide (as.map (·.arg) = ps) && decide (as.length ≤ 6)
  | _ => false
def defOk (L : LawT) (d : DefT) : Bool :=
  C8.scC d.S d.ps (defScope d.st) && plainArgs d.ps (defArgs d.st) && d.fd.np == d.ps.length && d.fd.nl == d.S.length - d.ps.length && chkSs 400 (fnCC L.cc d.S (defScope d.st)) (defBody d.st) d.fd.body
def tabOk (L : LawT) : Bool :=
  decide (L.attrs.map (·.2)).Nodup && (L.attrs.all fun p => p.2.cps.toList.head? != some 0) && (L.defs.all fun d => (L.defs.find? fun e => e.id == d.id).map (·.at_) == some d.at_) && (L.clss.all fun c => (L.clss.find? fun e => e.id == c.id).map (·.name) == some c.name)
  && (L.isi.all fun p => match p.1.1 with
    | .cls c => (L.tab.clss.lookup c).isSome
    | .ty _ => true)
/-- how a def's arguments bind -/
def BindOk (d : DefT) : Prop := ∀ (kV doc pm : Value) (an : Option Addr) (cdv ct : Value) (us : List Value), us.length = d.ps.length → bindArgs (PySem.W.fnOf d.name d.qual (defArgs d.st) (defBody d.st) (defScope d.st) .none kV doc pm an cdv ct) ⟨us, []⟩ = pure (d.ps.zip us)
mutual
theorem conB_ok {K : PySem.W.Frag} : ∀ {d : D} {u : Value}, conB K d u = true → ∃ v, RelV v u ∧ ∀ N ι H, rel K N ι H d v
  | .non, .none, _ => ⟨.non, rfl, fun _ _ _ => rfl⟩
  | .bl b, .bool c, h => ⟨.bl b, by rw [show b = c from eq_of_beq h]; rfl, fun _ _ _ => rfl⟩
  | .int i, .int j t, h => ⟨.int i, ⟨t, by rw [show i = j from of_decide_eq_true h]⟩, fun _ _ _ => rfl⟩
  | .str x, .str y t, h => ⟨.str x, ⟨t, by rw [show x = y from of_decide_eq_true h]⟩, fun _ _ _ => rfl⟩
  | .tup l, .ref a, h => by
    unfold conB at h
    split at h
    · rename_i c od its n sl hl
      rw [Bool.and_eq_true, Bool.and_eq_true] at h
      obtain ⟨vs, h1, h2⟩ := conBs_ok h.2
      exact ⟨.ref a, rfl, fun N ι H => ⟨a, vs, rfl, .inr ⟨_, its, n, hl, congrArg Value.type (of_decide_eq_true h.1.1), rfl, of_decide_eq_true h.1.2, h1⟩, h2 N ι H⟩⟩
    · exact nomatch h
theorem conBs_ok {K : PySem.W.Frag} : ∀ {l : List D} {us : List Value}, conBs K l us = true → ∃ vs, Vals vs us ∧ ∀ N ι H, rels K N ι H l vs
  | [], [], _ => ⟨[], .nil, fun _ _ _ => rfl⟩
  | d :: l, u :: us, h => by
    rw [conBs, Bool.and_eq_true] at h
    obtain ⟨v, h1, h2⟩ := conB_ok h.1
    obtain ⟨vs, h3, h4⟩ := conBs_ok h.2
    exact ⟨v :: vs, .cons h1 h3, fun N ι H => ⟨v, vs, rfl, h2 N ι H, h4 N ι H⟩⟩
  | [], _ :: _, h => nomatch h
  | _ :: _, [], h => nomatch h
end
theorem lookup_mem {α β : Type} [BEq α] [LawfulBEq α] {a : α} {b : β} : ∀ {l : List (α × β)}, l.lookup a = some b → (a, b) ∈ l
  | [], h => nomatch h
  | (c, d) :: l, h => by
    rw [List.lookup_cons] at h
    by_cases e : a = c
    · subst e
      rw [beq_self_eq_true] at h
      cases h
      exact List.mem_cons_self
    · rw [beq_eq_false_iff_ne.mpr e] at h
      exact List.mem_cons_of_mem _ (lookup_mem h)
theorem attr_inj {l : List (Nat × Str)} (h1 : (l.map (·.2)).Nodup) (h2 : (l.all fun p => p.2.cps.toList.head? != some 0) = true) : ∀ i j, attrN l i = attrN l j → i = j := by
  have new : ∀ (i : Nat) (s : Str), l.lookup i = some s → ∀ j, s ≠ ⟨#[0, j]⟩ := fun i s e j z => by
    have := List.all_eq_true.mp h2 _ (lookup_mem e)
    rw [z] at this
    exact nomatch this
  have one : ∀ {l : List (Nat × Str)}, (l.map (·.2)).Nodup → ∀ {i j : Nat} {s : Str}, (i, s) ∈ l → (j, s) ∈ l → i = j := by
    intro l
    induction l with
    | nil => intro _ i j s h _; exact nomatch h
    | cons p l ih =>
      intro hn i j s hi hj
      rw [List.map_cons, List.nodup_cons] at hn
      rcases List.mem_cons.mp hi with hi | hi <;> rcases List.mem_cons.mp hj with hj | hj
      · rw [← hj] at hi; exact congrArg Prod.fst hi
      · exact (hn.1 (by rw [← hi]; exact List.mem_map_of_mem (f := (·.2)) hj)).elim
      · exact (hn.1 (by rw [← hj]; exact List.mem_map_of_mem (f := (·.2)) hi)).elim
      · exact ih hn.2 hi hj
  intro i j e
  unfold attrN at e
  split at e
  · rename_i s hs
    split at e
    · rename_i s' hs'
      subst e
      exact one h1 (lookup_mem hs) (lookup_mem hs')
    · exact (new _ _ hs _ e).elim
  · split at e
    · rename_i s' hs'
      exact (new _ _ hs' _ e.symm).elim
    · injection e with e
      have := congrArg Array.toList e
      simpa using this
section
variable {L : LawT} {w : World} {K : PySem.W.Frag} {h : Heap} {mg : Str → Option Value}
theorem find_lookup {f : Nat} {fd : FnD} (e : L.tab.fns.lookup f = some fd) : ∃ d ∈ L.defs, d.id = f ∧ d.fd = fd ∧ L.defs.find? (fun d => d.id == f) = some d := by
  have : ∀ {l : List DefT}, (l.map fun d => (d.id, d.fd)).lookup f = some fd → ∃ d ∈ l, d.id = f ∧ d.fd = fd ∧ l.find? (fun d => d.id == f) = some d := by
    intro l
    induction l with
    | nil => intro h; exact nomatch h
    | cons d l ih =>
      intro h
      rw [List.map_cons, List.lookup_cons] at h
      by_cases e : f = d.id
      · subst e
        rw [beq_self_eq_true] at h
        cases h
        exact ⟨d, List.mem_cons_self, rfl, rfl, by simp⟩
      · rw [beq_eq_false_iff_ne.mpr e] at h
        obtain ⟨d', h1, h2, h3, h4⟩ := ih h
        exact ⟨d', List.mem_cons_of_mem _ h1, h2, h3, by rw [List.find?_cons_of_neg (by simpa using fun z => e z.symm)]; exact h4⟩
  exact this e
theorem find_clss {c : Nat} {k : ClsD} (e : L.tab.clss.lookup c = some k) : ∃ d ∈ L.clss, d.id = c ∧ d.k = k ∧ L.clss.find? (fun d => d.id == c) = some d := by
  have : ∀ {l : List ClsT}, (l.map fun d => (d.id, d.k)).lookup c = some k → ∃ d ∈ l, d.id = c ∧ d.k = k ∧ l.find? (fun d => d.id == c) = some d := by
    intro l
    induction l with
    | nil => intro h; exact nomatch h
    | cons d l ih =>
      intro h
      rw [List.map_cons, List.lookup_cons] at h
      by_cases e : c = d.id
      · subst e
        rw [beq_self_eq_true] at h
        cases h
        exact ⟨d, List.mem_cons_self, rfl, rfl, by simp⟩
      · rw [beq_eq_false_iff_ne.mpr e] at h
        obtain ⟨d', h1, h2, h3, h4⟩ := ih h
        exact ⟨d', List.mem_cons_of_mem _ h1, h2, h3, by rw [List.find?_cons_of_neg (by simpa using fun z => e z.symm)]; exact h4⟩
  exact this e
theorem and8 {a b : Bool} (h : (a && b) = true) : a = true ∧ b = true := Bool.and_eq_true_iff.mp h
theorem kd_ok {a : Addr} {es : Array DictEntry} {n : Nat} (kd : KDict K w a es n) : ∀ {ks : List Str} {ds : List D}, kdB K a ks ds = true → ∀ z d, lookS z ks ds = some d → ∃ v, KDct K w a z v ∧ ∀ N ι H, rel K N ι H d v
  | [], [], _, _, _, e => nomatch e
  | [], _ :: _, h, _, _, _ => nomatch h
  | _ :: _, [], h, _, _, _ => nomatch h
  | k :: ks, d :: ds, h, z, e, hz => by
    rw [kdB, Bool.and_eq_true] at h
    unfold lookS at hz
    split at hz
    · rename_i hk
      subst hk
      cases hz
      have h1 := h.1
      split at h1
      · rename_i u hu
        obtain ⟨v, q1, q2⟩ := conB_ok h1
        exact ⟨v, ⟨es, n, u, kd.at_, kd.lit, hu, q1⟩, q2⟩
      · exact nomatch h1
    · exact kd_ok kd h.2 z e hz
theorem cls_parts {N : Nms} {c : ClsT} (X : K.In h) (G : h.Ns mainGlobals mg) (e : clsB K N L c = true) (hN : N.cls c.id = He.ga K c.name) :
    mg c.name = some (.ref (N.cls c.id)) ∧ PySem.W.keepIn K (.ref (N.cls c.id)) = true ∧ Cls K (N.cls c.id) ∧ (∀ f ∈ c.k.flds, NoAttr K (N.cls c.id) (N.attr f)) ∧ (∀ p ∈ c.k.meths, Meth K (N.cls c.id) (N.attr p.1) (N.fn p.2) ∧ (L.tab.fns.lookup p.2).isSome = true) ∧
    (match c.k.init with
      | none => Mk0 K (N.cls c.id)
      | some i => Mk K (N.cls c.id) (N.fn i) ∧ (L.tab.fns.lookup i).isSome = true) ∧
    PySem.W.findIn K (.ref (N.cls c.id)) "__class__" = some (some (.builtin "object.__class__")) ∧ PySem.W.mroIn K (N.cls c.id) (.type "object") = some true := by
  rw [hN]
  unfold clsB at e
  dsimp only at e
  obtain ⟨e, a9⟩ := and8 e
  obtain ⟨e, a8⟩ := and8 e
  obtain ⟨e, a7⟩ := and8 e
  obtain ⟨e, a6⟩ := and8 e
  obtain ⟨e, a5⟩ := and8 e
  obtain ⟨e, a4⟩ := and8 e
  obtain ⟨e, a3⟩ := and8 e
  obtain ⟨a1, a2⟩ := and8 e
  refine ⟨PySem.W.mg_of X G (He.eqO_ok a1), a2, He.cls_ok a3, fun f hf => He.eqO_ok (List.all_eq_true.mp a4 f hf), fun p hp => ?_, ?_, He.eqO_ok a8, of_decide_eq_true a9⟩
  · have z := List.all_eq_true.mp a5 p hp
    obtain ⟨z, z4⟩ := and8 z
    obtain ⟨z, z3⟩ := and8 z
    obtain ⟨z1, z2⟩ := and8 z
    exact ⟨⟨He.eqO_ok z1, z2, z3⟩, z4⟩
  · cases hi : c.k.init with
    | none =>
      rw [hi] at a7
      obtain ⟨z1, z2⟩ := and8 a7
      exact ⟨a6, He.eqO_ok z1, of_decide_eq_true z2, a2⟩
    | some i =>
      rw [hi] at a7
      obtain ⟨z, z3⟩ := and8 a7
      obtain ⟨z1, z2⟩ := and8 z
      exact ⟨⟨a6, He.eqO_ok z1, z2, a2⟩, z3⟩
theorem facts_of (X : K.In h) (G : h.Ns mainGlobals mg) (hex : exB L K = true) (hd : ∀ d ∈ L.defs, ∃ fd, FunD K d.name d.qual (defArgs d.st) (defBody d.st) (defScope d.st) [] [] (He.fAd K d.at_) fd)
    (hb : ∀ d ∈ L.defs, BindOk d) (hok : L.defs.all (defOk L) = true) (ht : tabOk L = true) (hkd : ∀ k ∈ L.kds, ∃ es n, KDict K w (He.ga K k.1) es n) : Facts w K mg (L.nms K) L.tab L.cc := by
  unfold exB at hex
  obtain ⟨hex, e8⟩ := and8 hex
  obtain ⟨hex, e7⟩ := and8 hex
  obtain ⟨hex, e9⟩ := and8 hex
  obtain ⟨hex, e6⟩ := and8 hex
  obtain ⟨hex, e5⟩ := and8 hex
  obtain ⟨hex, e4⟩ := and8 hex
  obtain ⟨hex, e3⟩ := and8 hex
  obtain ⟨e1, e2⟩ := and8 hex
  unfold tabOk at ht
  obtain ⟨ht, t5⟩ := and8 ht
  obtain ⟨ht, t4⟩ := and8 ht
  obtain ⟨ht, t3⟩ := and8 ht
  obtain ⟨t1, t2⟩ := and8 ht
  have fnEq : ∀ d ∈ L.defs, (L.nms K).fn d.id = He.fAd K d.at_ := fun d hd => by
    have := eq_of_beq (List.all_eq_true.mp t3 d hd)
    show (match L.defs.find? (fun e => e.id == d.id) with
      | some d => He.fAd K d.at_
      | none => 0) = _
    cases hf : L.defs.find? (fun e => e.id == d.id) with
    | none => rw [hf] at this; exact nomatch this
    | some e =>
      rw [hf] at this
      have : e.at_ = d.at_ := by simpa using this
      dsimp only
      rw [this]
  have clEq : ∀ c ∈ L.clss, (L.nms K).cls c.id = He.ga K c.name := fun d hd => by
    have := eq_of_beq (List.all_eq_true.mp t4 d hd)
    show (match L.clss.find? (fun e => e.id == d.id) with
      | some d => He.ga K d.name
      | none => 0) = _
    cases hf : L.clss.find? (fun e => e.id == d.id) with
    | none => rw [hf] at this; exact nomatch this
    | some e =>
      rw [hf] at this
      have : e.name = d.name := by simpa using this
      dsimp only
      rw [this]
  have clsOf : ∀ c ∈ L.clss, clsB K (L.nms K) L c = true := fun c hc => List.all_eq_true.mp e2 c hc
  have defOf : ∀ d ∈ L.defs, defOk L d = true := fun d hd => List.all_eq_true.mp hok d hd
  have someK : ∀ c ∈ L.clss, (L.tab.clss.lookup c.id).isSome = true := by
    intro c hc
    have : ∀ {l : List ClsT}, c ∈ l → ((l.map fun d => (d.id, d.k)).lookup c.id).isSome = true := by
      intro l
      induction l with
      | nil => intro h; exact nomatch h
      | cons d l ih =>
        intro h
        rw [List.map_cons, List.lookup_cons]
        by_cases e : c.id = d.id
        · rw [e, beq_self_eq_true]; rfl
        · rw [beq_eq_false_iff_ne.mpr e]
          exact ih ((List.mem_cons.mp h).resolve_left fun z => e (by rw [z]))
    exact this hc
  have someF : ∀ d ∈ L.defs, (L.tab.fns.lookup d.id).isSome = true := by
    intro c hc
    have : ∀ {l : List DefT}, c ∈ l → ((l.map fun d => (d.id, d.fd)).lookup c.id).isSome = true := by
      intro l
      induction l with
      | nil => intro h; exact nomatch h
      | cons d l ih =>
        intro h
        rw [List.map_cons, List.lookup_cons]
        by_cases e : c.id = d.id
        · rw [e, beq_self_eq_true]; rfl
        · rw [beq_eq_false_iff_ne.mpr e]
          exact ih ((List.mem_cons.mp h).resolve_left fun z => e (by rw [z]))
    exact this hc
  have keepF : ∀ d ∈ L.defs, PySem.W.keepIn K (.ref ((L.nms K).fn d.id)) = true := fun d hd' => by
    obtain ⟨fd, F⟩ := hd d hd'
    rw [fnEq d hd']
    exact F.kp
  have parts : ∀ c ∈ L.clss, _ := fun c hc => cls_parts (N := L.nms K) X G (clsOf c hc) (clEq c hc)
  exact {
    inj := attr_inj (of_decide_eq_true t1) t2
    fns := fun f x e => by
      have m := lookup_mem e
      obtain ⟨d, hd', z⟩ := List.mem_filterMap.mp m
      cases ha : d.at_.2 with
      | some y => rw [ha] at z; exact nomatch z
      | none =>
        rw [ha] at z
        cases z
        refine ⟨?_, someF d hd'⟩
        have q := List.all_eq_true.mp e1 d hd'
        rw [ha] at q
        have q' : mg d.at_.1 = some (.ref (He.ga K d.at_.1)) := PySem.W.mg_of X G (He.eqO_ok q)
        rw [fnEq d hd', q']
        unfold He.fAd
        rw [ha]
    clss := fun c x e => by
      have m := lookup_mem e
      obtain ⟨d, hd', z⟩ := List.mem_map.mp m
      cases z
      exact ⟨(parts d hd').1, (parts d hd').2.1⟩
    made := fun c k e => by
      obtain ⟨d, hd', rfl, rfl, _⟩ := find_clss e
      exact (parts d hd').2.2.2.2.2.1
    meths := fun c k m f e1 e2 => by
      obtain ⟨d, hd', rfl, rfl, _⟩ := find_clss e1
      have q := (parts d hd').2.2.2.2.1 _ (lookM_mem e2)
      exact ⟨(parts d hd').2.2.1, q.1, q.2⟩
    attrs := fun f nm e => by
      show attrN L.attrs f = nm
      unfold attrN
      rw [show L.attrs.lookup f = some nm from e]
    has := fun f c e => by
      unfold Tab.has at e
      split at e
      · rename_i k hk
        obtain ⟨d, hd', rfl, rfl, _⟩ := find_clss hk
        exact ⟨(parts d hd').2.2.1, (parts d hd').2.2.2.1 f (List.contains_iff_mem.mp e)⟩
      · exact nomatch e
    isi := fun η => ⟨fun t u b e => of_decide_eq_true (List.all_eq_true.mp e6 _ (lookup_mem e)), fun c k e => by
      obtain ⟨d, hd', rfl, rfl, _⟩ := find_clss e
      have q := (parts d hd').2.2
      exact ⟨q.1, q.2.2.2.2.1, He.eqO_ok e7, of_decide_eq_true e8, q.2.2.2.2.2⟩⟩
    isk := fun c u b e => by
      have q := List.all_eq_true.mp t5 _ (lookup_mem e)
      exact q
    cons := fun x d e => by
      have q := List.all_eq_true.mp e3 _ (lookup_mem e)
      dsimp only at q
      split at q
      · rename_i u hu
        obtain ⟨v, q1, q2⟩ := conB_ok q
        exact ⟨v, u, PySem.W.mg_of X G hu, q1, fun η ι H => q2 _ ι H⟩
      · exact nomatch q
    kds := fun x ks ds e => by
      have m := lookup_mem e
      obtain ⟨q1, q2⟩ := and8 (List.all_eq_true.mp e9 _ m)
      obtain ⟨es, n, kd⟩ := hkd _ m
      exact ⟨_, PySem.W.mg_of X G (He.eqO_ok q1), fun z d hz => by
        obtain ⟨v, h1, h2⟩ := kd_ok kd q2 z d hz
        exact ⟨v, h1, fun η ι H => h2 _ ι H⟩⟩
    free := fun x e => PySem.W.mg_none_of X G (He.eqO_ok (List.all_eq_true.mp e4 x (List.contains_iff_mem.mp e)))
    gcd := fun e => by
      have e' : L.gcd = true := e
      rw [e'] at e5
      exact PySem.W.mg_of X G (He.eqO_ok e5)
    defs := fun f fd e => by
      obtain ⟨d, hd', rfl, rfl, _⟩ := find_lookup e
      obtain ⟨fdt, F⟩ := hd d hd'
      have q := defOf d hd'
      unfold defOk at q
      obtain ⟨q, q5⟩ := and8 q
      obtain ⟨q, q4⟩ := and8 q
      obtain ⟨q, q3⟩ := and8 q
      obtain ⟨q1, q2⟩ := and8 q
      refine ⟨d.name, d.qual, d.st, fdt, d.S, d.ps, ?_, C8.fnScope_by q1, F.bindsN (hb d hd'), eq_of_beq q3, eq_of_beq q4, q5⟩
      rw [fnEq d hd']
      obtain ⟨oc, od, dV, kV, doc, pm, an, cdv, ct, osl, rfl, lk, hcd, hD, hK⟩ := F.ex
      rcases hD with ⟨_, rfl⟩ | ⟨z, _⟩
      · exact ⟨⟨oc, od, kV, doc, pm, an, cdv, ct, osl, rfl, lk, hcd⟩, F.kp⟩
      · exact absurd rfl z
    keep := fun f fd e => by
      obtain ⟨d, hd', rfl, rfl, _⟩ := find_lookup e
      exact keepF d hd' }
end
end G

set_option Elab.async false
set_option linter.all false
set_option maxRecDepth 100000
set_option maxHeartbeats 4000000
/-! E11: the law's end. -/
namespace G
open PySem L2
def lawSp (K : PySem.W.Frag) : Sp := fun vs H Q _ => ∃ (a : Addr) (ns : List Int), vs = [.ref a] ∧ SqL K H a (ns.map V.int) ∧ ns.length ≤ 63 ∧ ∀ H', Q (.bl true) H'
theorem ints_rel {K : PySem.W.Frag} {N : Nms} {ι : List Addr} {H : Hp} : ∀ ns : List Int, rels K N ι H (ns.map D.int) (ns.map V.int)
  | [] => rfl
  | n :: ns => ⟨.int n, ns.map V.int, rfl, rfl, ints_rel ns⟩
/-- the law says True of every script -/
def Says (T : Tab) (wf n f : Nat) : Prop := ∀ ns : List Int, ns.length ≤ 63 → ∃ st, callN T wf n f [.ro (ns.map D.int)] [] = .ok (.bl true) st
theorem law_imp {K : PySem.W.Frag} {N : Nms} {T : Tab} {wf n f : Nat} (hN : N.hid = []) (h : Says T wf n f) {vs : List V} {H : Hp} {Q : VK} {E : XK} (hs : lawSp K vs H Q E) : spOf K N 1 (callN T wf n f) vs H Q E := by
  obtain ⟨a, ns, ev, hS, hl, hQ⟩ := hs
  subst ev
  obtain ⟨st, hc⟩ := h ns hl
  refine ⟨[], [], [], [.ro (ns.map D.int)], ⟨rfl, List.nodup_nil, fun a h => (List.not_mem_nil h).elim, fun n a o e1 _ => by simp at e1⟩, .one ⟨a, ns.map V.int, rfl, RoL.of_sq hS (List.not_mem_nil) (List.not_mem_nil), ints_rel ns⟩, rfl, ?_⟩
  rw [hc]
  intro ι' H' p r v q
  rw [show v = .bl true from q]
  exact hQ H'
theorem end_of {lw : PySem.W.OpenLaw} {k : Nat} {q : Program} {loose : List Str} {XP : (Str → Option Value) → Heap → Prop} {YP : World → Heap → Prop} {d : DefRec}
    (hn : lw.most = some 63) (hdf : d.params.defaults = []) (hr : Room k callerA)
    (F : ∀ (w : World) (mg : Str → Option Value) (f : Addr) (h : Heap), YP w h → h.Ns mainGlobals mg → mg d.name = some (.ref f) →
      ∃ (K : PySem.W.Frag) (fd : FuncData), K.In h ∧ (∀ (s : Shared) (u : Value), BindsTo s fd ⟨[u], []⟩ [("script", u)]) ∧ ∀ base : Heap, K.In base → base.Ns mainGlobals mg → FnOk lw.prog w K mg base (CX lw.prog w) k f fd ["script"] (lawSp K)) :
    PySem.W.WalkO q loose XP YP lw.row.toRowW d [] (fun f vs => PySem.call f vs) := by
  refine Att.attach_call hn hdf fun w s0 s1 mg mb f ob pm cd doc a vs ns G Y ho hd hcd hmg hobj hints hlen hg => ?_
  obtain ⟨K, fd, KX, hb, hF⟩ := F w mg f _ Y G.T.g hmg
  refine law_call KX G.T.g G.T.b G.T.builtins G.T.nolimit hg hobj hints (Nat.le_trans hlen (by decide)) hr hF hb (fun H hO hS => ⟨a, ns, rfl, hS, hlen, fun _ => rfl⟩) fun H e s' z => ?_
  obtain ⟨_, _, _, _, _, _, _, _, _, _, _, _, z⟩ := z
  exact z
end G

set_option Elab.async false
set_option linter.all false
set_option maxRecDepth 100000
set_option maxHeartbeats 4000000
/-! E12: the look at the top, in parts. -/
namespace G
open PySem L2
def refs1 (o : Obj) : List Addr := match o.data with
  | .seq its _ => its.toList.flatMap He.refV
  | .dict es _ => es.toList.flatMap fun e => He.refV e.val
  | .func fd => He.refV fd.code
  | .cls cd => cd.ns :: cd.mro.flatMap He.refV
  | _ => []
def next1 (g : Addr → Option Obj) (as : List Addr) : List Addr := as.flatMap fun a => match g a with
  | some o => refs1 o
  | none => []
/-- what is looked at: the module's names, what they name, twice more -/
def asL (g : Addr → Option Obj) : List Addr :=
  let a1 := next1 g [mainGlobals]
  let a2 := next1 g a1
  let a3 := next1 g a2
  mainGlobals :: (a1 ++ (a2 ++ (a3 ++ next1 g a3)))
def frL (g : Addr → Option Obj) : PySem.W.Frag := He.frG g (asL g)
/-- a part of the look: some of the defs -/
def okD (L : LawT) (i n : Nat) (K : PySem.W.Frag) : Bool := ((L.defs.drop i).take n).all fun d => d.d.ok K
def fnD (L : LawT) (i n : Nat) (K : PySem.W.Frag) : List He.FnW := ((L.defs.drop i).take n).map fun d => He.fnW K d.d.at_
abbrev KeyW : Type := Option (List (Option (Str × Int)))
def kdW (L : LawT) (K : PySem.W.Frag) : List KeyW := L.kds.map fun k => He.dicW K (He.ga K k.1)
def kdV (L : LawT) (P : Params) : List KeyW := L.kds.map fun k => some (He.keysIn P k.2.1)
structure LookOk (L : LawT) (w : World) (K : PySem.W.Frag) : Prop where
  kd : kdW L K = kdV L w.params
  ok : (L.defs.all fun d => d.d.ok K) = true
  fn : (L.defs.map fun d => He.fnW K d.d.at_) = L.defs.map fun d => d.d.val
  ex : exB L K = true
abbrev AlL : Type := Bool × List He.FnW × Bool × List KeyW
def obsL (L : LawT) (K : PySem.W.Frag) : AlL := ((L.defs.all fun d => d.d.ok K), (L.defs.map fun d => He.fnW K d.d.at_), exB L K, kdW L K)
def valL (L : LawT) (w : World) : AlL := (true, (L.defs.map fun d => d.d.val), true, kdV L w.params)
def hookL (L : LawT) : PySem.W.Hook where
  α := AlL
  obs := fun s => obsL L (frL s.heap.get?)
  val := fun w => valL L w
  says := fun w h => ∃ K : PySem.W.Frag, K.In h ∧ LookOk L w K
  of := fun w h e => ⟨frL h.heap.get?, He.frG_in, by
    have e1 : obsL L (frL h.heap.get?) = valL L w := e
    exact ⟨congrArg (fun z : AlL => z.2.2.2) e1, congrArg (fun z : AlL => z.1) e1, congrArg (fun z : AlL => z.2.1) e1, congrArg (fun z : AlL => z.2.2.1) e1⟩⟩
  keeps := fun _ _ _ ⟨K, hK, c⟩ k => ⟨K, PySem.W.Frag.In.keeps hK k, c⟩
def obL (L : LawT) (s : PySem.W.SharedT) : AlL := obsL L (frL (HandSHeadRun.getT s))
theorem obL_eq (L : LawT) (s : PySem.W.SharedT) : obL L s = (hookL L).obs s.abs := by
  have e : HandSHeadRun.getT s = s.abs.heap.get? := funext (HandSHeadRun.getT_eq s)
  unfold obL
  rw [e]
  rfl
theorem LookOk.def_ {L : LawT} {w : World} {K : PySem.W.Frag} (c : LookOk L w K) : ∀ d ∈ L.defs, ∃ fd, FunD K d.name d.qual (defArgs d.st) (defBody d.st) (defScope d.st) [] [] (He.fAd K d.at_) fd := by
  intro d hd
  obtain ⟨i, hi, e⟩ := List.mem_iff_getElem.mp hd
  have h1 := congrArg (fun l => l[i]?) c.fn
  rw [List.getElem?_map, List.getElem?_map, List.getElem?_eq_getElem hi, e] at h1
  exact He.DefD.funD (d := d.d) (Option.some.inj h1) (List.all_eq_true.mp c.ok d hd)
/-! the run's equation in parts -/
open HandSHeadRun PySem.W in
/-- one look at the end of the run -/
def RunPart (r : OpenRow) (M : Nat) {α : Type} (f : Shared × SharedT → α) (v : α) (w : World) : Prop := (wholeF (fun p => stepQ (denQ tabQ) p w) fenceQ M r.prog).map f = some v
open HandSHeadRun PySem.W in
theorem run_join {r : OpenRow} {q : Program} {L : LawT} {M : Nat} {names : List PySem.Str} {w : World} (h1 : RunPart r M (fun x => looksF r.prog x.1.heap x.2.abs) true w)
    (h2 : RunPart r M (fun x => seenQ q names (importedModules r.prog.main.body) (fun s => xlAt q [] s && recOk r.toRowW.records s) x.2.abs) (openGood q names) w)
    (h3 : RunPart r M (fun x => (L.defs.all fun d => d.d.ok (frL (getT x.2)))) true w) (h4 : RunPart r M (fun x => (L.defs.map fun d => He.fnW (frL (getT x.2)) d.d.at_)) (L.defs.map fun d => d.d.val) w) (h5 : RunPart r M (fun x => exB L (frL (getT x.2))) true w)
    (h6 : RunPart r M (fun x => kdW L (frL (getT x.2))) (kdV L w.params) w) :
    RunEqI r q (hookL L) (obL L) M names w := by
  unfold RunEqI
  unfold RunPart at h1 h2 h3 h4 h5 h6
  obtain ⟨x, hx, e1⟩ := Option.map_eq_some_iff.mp h1
  rw [hx] at h2 h3 h4 h5 h6 ⊢
  have e2 := Option.some.inj h2
  have e3 := Option.some.inj h3
  have e4 := Option.some.inj h4
  have e5 := Option.some.inj h5
  have e6 := Option.some.inj h6
  have eo : obL L x.2 = valL L w := Prod.ext e3 (Prod.ext e4 (Prod.ext e5 e6))
  exact congrArg some (Prod.ext e1 (Prod.ext e2 eo))
theorem byRow {P : World → Prop} (row : String) (h : ∀ w : World, P (w.withFollow row false)) (h' : ∀ w : World, P (w.withFollow row true)) : ∀ w, P w := fun w => PySem.W.byRow2 row h h' w
theorem zip_some : ∀ {ns : List Str} {us : List Value} {n : Str}, us.length = ns.length → n ∈ ns → ((ns.zip us).lookup n).isNone = false
  | [], _, _, _, h => nomatch h
  | m :: ns, [], _, hl, _ => nomatch hl
  | m :: ns, u :: us, n, hl, h => by
    rw [List.zip_cons_cons, List.lookup_cons]
    by_cases e : n = m
    · subst e
      simp
    · have e' : (n == m) = false := beq_eq_false_iff_ne.mpr e
      rw [e']
      exact zip_some (by simpa using hl) ((List.mem_cons.mp h).resolve_left e)
theorem zip_back : ∀ {ns : List Str} {us : List Value} (z : List (Str × Value)), us.length = ns.length → ns.Nodup → (∀ n ∈ ns, z.lookup n = none) → ns.filterMap (fun n => ((z ++ ns.zip us).lookup n).map (fun x => (n, x))) = ns.zip us
  | [], [], _, _, _, _ => rfl
  | [], _ :: _, _, h, _, _ => nomatch h
  | _ :: _, [], _, h, _, _ => nomatch h
  | m :: ns, u :: us, z, hl, hn, hz => by
    have h0 : (z ++ (m :: ns).zip (u :: us)).lookup m = some u := by
      rw [List.lookup_append, hz m List.mem_cons_self, List.zip_cons_cons, List.lookup_cons, beq_self_eq_true]; rfl
    rw [List.filterMap_cons, h0]
    have ih := zip_back (ns := ns) (us := us) (z ++ [(m, u)]) (by simpa using hl) (List.nodup_cons.mp hn).2 (fun n hn' => by
      rw [List.lookup_append, hz n (List.mem_cons_of_mem _ hn')]
      have : (n == m) = false := beq_eq_false_iff_ne.mpr fun e => (List.nodup_cons.mp hn).1 (e ▸ hn')
      simp [List.lookup_cons, this])
    rw [List.zip_cons_cons]
    have e2 : z ++ (m, u) :: ns.zip us = (z ++ [(m, u)]) ++ ns.zip us := by simp
    rw [e2, ih]
    rfl
theorem bind_plain {x qual : Str} {a : Arguments} {body : List Stmt} {scope : Scope} {ps : List Str} (h : plainArgs ps a = true) (hn : ps.Nodup) (kV doc pm : Value) (an : Option Addr) (cdv ct : Value) (us : List Value) (hl : us.length = ps.length) :
    bindArgs (PySem.W.fnOf x qual a body scope .none kV doc pm an cdv ct) ⟨us, []⟩ = pure (ps.zip us) := by
  unfold plainArgs at h
  split at h
  · rename_i as
    rw [Bool.and_eq_true] at h
    obtain rfl := of_decide_eq_true h.1
    have hm : (as.map (·.arg)).filter (fun n => (((as.map (·.arg)).zip us).lookup n).isNone) = [] := by
      rw [List.filter_eq_nil_iff]
      intro n hn
      rw [zip_some hl hn]
      exact Bool.false_ne_true
    have hb := zip_back (ns := as.map (·.arg)) (us := us) [] hl hn (fun _ _ => rfl)
    have h1 : ¬ (us.length > (as.map (·.arg)).length) := by omega
    unfold bindArgs
    simp only [PySem.W.fnOf]
    have hl' : us.length = as.length := by simpa using hl
    have ht : List.take as.length (as.map (·.arg)) = as.map (·.arg) := List.take_of_length_le (by simp)
    rw [List.nil_append, List.filterMap_map] at hb
    simp [seqItems?, hm, hl', ht]
    rw [hb]
    rfl
  · exact nomatch h
theorem bind_ok {L : LawT} {d : DefT} (h : defOk L d = true) : BindOk d := by
  unfold defOk at h
  obtain ⟨h, q5⟩ := and8 h
  obtain ⟨h, q4⟩ := and8 h
  obtain ⟨h, q3⟩ := and8 h
  obtain ⟨q1, q2⟩ := and8 h
  have S := C8.fnScope_by q1
  have hn : d.ps.Nodup := by
    rw [← S.pre]
    exact S.nd.sublist (List.take_sublist _ _)
  exact fun kV doc pm an cdv ct us hl => bind_plain q2 hn kV doc pm an cdv ct us hl
/-- the law's def keeps its promise -/
theorem law_ok {P : Program} {w : World} {L : LawT} {K : PySem.W.Frag} {h : Heap} {mg : Str → Option Value} {f : Addr} {wf n lawId : Nat} {d : DefT} (X : K.In h) (G : h.Ns mainGlobals mg) (hmg : mg "law" = some (.ref f)) (c : LookOk L w K)
    (hok : L.defs.all (defOk L) = true) (ht : tabOk L = true) (hs : Says L.tab wf n lawId) (hd : L.defs.find? (fun d => d.id == lawId) = some d) (hn : L.cc.fns.lookup lawId = some "law") (hl : L.tab.fns.lookup lawId = some d.fd) (hps : d.ps = [("script" : Str)]) :
    ∃ fdt : FuncData, (∀ (s : Shared) (u : Value), BindsTo s fdt ⟨[u], []⟩ [("script", u)]) ∧ ∀ base : Heap, K.In base → base.Ns mainGlobals mg → FnOk P w K mg base (CX P w) (2 * n + 1) f fdt ["script"] (lawSp K) := by
  have hb : ∀ d ∈ L.defs, BindOk d := fun d hd => bind_ok (List.all_eq_true.mp hok d hd)
  have F : Facts w K mg (L.nms K) L.tab L.cc := facts_of X G c.ex c.def_ hb hok ht fun k hk => by
    obtain ⟨i, hi, e⟩ := List.mem_iff_getElem.mp hk
    have h1 := congrArg (fun l => l[i]?) c.kd
    unfold kdW kdV at h1
    rw [List.getElem?_map, List.getElem?_map, List.getElem?_eq_getElem hi, e] at h1
    exact He.dicW_ok (Option.some.inj h1)
  have ef : f = (L.nms K).fn lawId := by
    have := (F.fns lawId "law" hn).1
    rw [hmg] at this
    injection this with this
    injection this
  subst ef
  have hm := List.mem_of_find?_eq_some hd
  obtain ⟨fdt, FD⟩ := c.def_ d hm
  have efn : (L.nms K).fn lawId = He.fAd K d.at_ := by
    show (match L.defs.find? (fun d => d.id == lawId) with
      | some d => He.fAd K d.at_
      | none => 0) = _
    rw [hd]
  have q := List.all_eq_true.mp hok d hm
  unfold defOk at q
  obtain ⟨q, q5⟩ := and8 q
  obtain ⟨q, q4⟩ := and8 q
  obtain ⟨q, q3⟩ := and8 q
  obtain ⟨q1, q2⟩ := and8 q
  have FU : L2.Fun K d.name d.qual d.st ((L.nms K).fn lawId) fdt := by
    rw [efn]
    obtain ⟨oc, od, dV, kV, doc, pm, an, cdv, ct, osl, rfl, lk, hcd, hD, hK⟩ := FD.ex
    rcases hD with ⟨_, rfl⟩ | ⟨z, _⟩
    · exact ⟨⟨oc, od, kV, doc, pm, an, cdv, ct, osl, rfl, lk, hcd⟩, FD.kp⟩
    · exact absurd rfl z
  have hnp : d.fd.np = 1 := by rw [eq_of_beq q3, hps]; rfl
  refine ⟨fdt, fun s u => ?_, fun base _ _ => ?_⟩
  · have := FD.bindsA (ps := d.ps) (fun kV doc pm an cdv ct us hl => hb d hm kV doc pm an cdv ct us hl) s [u] (by rw [hps]; rfl)
    rw [hps] at this
    exact this
  · have Z := lv_at (P := P) (base := base) (wf := wf) F n (fun m _ => lv F m) hl FU (C8.fnScope_by q1) (eq_of_beq q3) (eq_of_beq q4) q5
    rw [hnp, hps] at Z
    exact Z.imp fun vs H Q E z => law_imp (N := L.nms K) rfl hs z
end G

set_option linter.all false
/-! Q1: sizes of rationals (no program in sight). -/
namespace G
/-- how many binary digits -/
def bl (n : Nat) : Nat := if n = 0 then 0 else n.log2 + 1
theorem bl_le {n k : Nat} : bl n ≤ k ↔ n < 2 ^ k := by
  unfold bl
  split
  · subst_vars; simp; exact Nat.two_pow_pos k
  · rename_i h
    rw [← Nat.log2_lt h]; omega
theorem bl_zero : bl 0 = 0 := rfl
theorem bl_one : bl 1 = 1 := by decide +kernel
theorem bl_lt_self (n : Nat) : n < 2 ^ bl n := bl_le.mp (Nat.le_refl _)
theorem bl_mono {m n : Nat} (h : m ≤ n) : bl m ≤ bl n := bl_le.mpr (Nat.lt_of_le_of_lt h (bl_lt_self n))
theorem bl_mul (m n : Nat) : bl (m * n) ≤ bl m + bl n := by
  rw [bl_le, Nat.pow_add]
  exact Nat.mul_lt_mul'' (bl_lt_self m) (bl_lt_self n)
theorem bl_add (m n : Nat) : bl (m + n) ≤ max (bl m) (bl n) + 1 := by
  rw [bl_le, Nat.pow_succ]
  have h1 : m < 2 ^ max (bl m) (bl n) := bl_le.mp (Nat.le_max_left _ _)
  have h2 : n < 2 ^ max (bl m) (bl n) := bl_le.mp (Nat.le_max_right _ _)
  omega
def sz (q : Rat) : Nat := max (bl q.num.natAbs) (bl q.den)
theorem sz_num (q : Rat) : bl q.num.natAbs ≤ sz q := Nat.le_max_left _ _
theorem sz_den (q : Rat) : bl q.den ≤ sz q := Nat.le_max_right _ _
theorem sz_pos (q : Rat) : 1 ≤ sz q := by
  have h := sz_den q
  have h2 : 1 ≤ bl q.den := by
    unfold bl
    rw [if_neg q.den_nz]; omega
  omega
theorem sz_mkRat (n : Int) (d : Nat) : sz (mkRat n d) ≤ max (bl n.natAbs) (max (bl d) 1) := by
  unfold sz
  rw [Rat.num_mkRat, Rat.den_mkRat]
  split
  · have e1 : bl (Int.natAbs (0 : Int)) = 0 := rfl
    simp only [bl_one, Rat.zero_num, Rat.zero_den, Int.natAbs_zero, bl_zero]
    omega
  · rename_i h
    have h1 : (n / (d.gcd n.natAbs : Nat)).natAbs ≤ n.natAbs := by
      have hd : ((d.gcd n.natAbs : Nat) : Int) ∣ n := by
        have := Nat.gcd_dvd_right d n.natAbs
        exact Int.ofNat_dvd_left.mpr this
      rw [Int.natAbs_ediv_of_dvd hd]
      exact Nat.div_le_self _ _
    have h2 : d / d.gcd n.natAbs ≤ d := Nat.div_le_self _ _
    have a := bl_mono h1
    have b := bl_mono h2
    omega
theorem sz_divInt (a b : Int) : sz (Rat.divInt a b) ≤ max (bl a.natAbs) (max (bl b.natAbs) 1) := by
  cases b with
  | ofNat d => 
    show sz (Rat.divInt a (d : Nat)) ≤ _
    rw [Rat.divInt_ofNat]; exact sz_mkRat a d
  | negSucc d =>
    have e : Rat.divInt a (Int.negSucc d) = mkRat (-a) (d + 1) := by
      rw [Int.negSucc_eq, Rat.divInt_neg']
      exact Rat.divInt_ofNat (-a) (d + 1)
    rw [e]
    have := sz_mkRat (-a) (d + 1)
    simpa using this
theorem sz_add (a b : Rat) : sz (a + b) ≤ sz a + sz b + 1 := by
  rw [Rat.add_def']
  refine Nat.le_trans (sz_mkRat _ _) ?_
  have h1 : bl (a.num * b.den + b.num * a.den).natAbs ≤ sz a + sz b + 1 := by
    have e := Int.natAbs_add_le (a.num * b.den) (b.num * a.den)
    have := bl_mono e
    have h := bl_add (a.num * b.den).natAbs (b.num * a.den).natAbs
    rw [Int.natAbs_mul, Int.natAbs_mul] at h
    have h2 := bl_mul a.num.natAbs (b.den : Int).natAbs
    have h3 := bl_mul b.num.natAbs (a.den : Int).natAbs
    rw [Int.natAbs_mul, Int.natAbs_mul] at this
    have := sz_num a; have := sz_num b; have := sz_den a; have := sz_den b
    simp only [Int.natAbs_natCast] at *
    omega
  have h2 := bl_mul a.den b.den
  have := sz_den a; have := sz_den b; have := sz_pos a
  omega
theorem sz_neg (a : Rat) : sz (-a) = sz a := by simp [sz]
theorem sz_sub (a b : Rat) : sz (a - b) ≤ sz a + sz b + 1 := by
  rw [Rat.sub_eq_add_neg]
  have := sz_add a (-b)
  rw [sz_neg] at this
  exact this
theorem sz_mul (a b : Rat) : sz (a * b) ≤ sz a + sz b := by
  rw [Rat.mul_def']
  refine Nat.le_trans (sz_mkRat _ _) ?_
  have h1 := bl_mul a.num.natAbs b.num.natAbs
  rw [← Int.natAbs_mul] at h1
  have h2 := bl_mul a.den b.den
  have := sz_num a; have := sz_num b; have := sz_den a; have := sz_den b; have := sz_pos a
  omega
theorem sz_inv (a : Rat) : sz a⁻¹ ≤ sz a := by
  unfold sz
  rw [Rat.num_inv, Rat.den_inv, Int.natAbs_mul, Int.natAbs_sign]
  have hb : 1 ≤ bl a.den := by unfold bl; rw [if_neg a.den_nz]; omega
  split
  · rename_i h
    rw [h]
    simp only [bl_one]
    simp
    rw [bl_zero]
    omega
  · rename_i h
    simp
    omega
theorem sz_div (a b : Rat) : sz (a / b) ≤ sz a + sz b := by
  rw [Rat.div_def]
  have := sz_mul a b⁻¹
  have := sz_inv b
  omega
theorem sz_int (i : Int) : sz (i : Rat) = max (bl i.natAbs) 1 := by
  show max (bl i.natAbs) (bl 1) = _
  rw [bl_one]
theorem sz_abs (a : Rat) : sz a.abs = sz a := by
  unfold Rat.abs
  split
  · rfl
  · exact sz_neg a
/-- the ratio below 1 by 2 -/
theorem sz_half : sz (1 / 2 : Rat) ≤ 2 := by decide +kernel
theorem sz_zero : sz 0 = 1 := by decide +kernel
theorem sz_one : sz 1 = 1 := by decide +kernel
theorem abs_eq (a : Rat) : a.abs = if 0 ≤ a then a else -a := rfl
example (a b c : Rat) (h : a ≤ b) (h2 : 0 ≤ c) : a + c ≤ b + 2 * c := by grind
example (a b c : Rat) (h : a ≤ b) (h2 : 0 ≤ c) : a * c ≤ b * c := Rat.mul_le_mul_of_nonneg_right h h2
example (a b c d : Rat) : sz (a * b + c * d - a) ≤ 3 * sz a + sz b + sz c + sz d + 2 := by grind [sz_add, sz_mul, sz_sub]
end G

set_option linter.all false
set_option maxRecDepth 100000
/-! W1: how core texts are run: rules for simp. -/
namespace G
open PySem L2
/-! ### results -/
structure R.sat {α : Type} (r : R α) (Q : α → Store → Prop) : Prop where
  ex : ∃ a st, r = .ok a st ∧ Q a st
@[simp] theorem R.sat_ok {α : Type} (a : α) (st : Store) (Q : α → Store → Prop) : (R.ok a st).sat Q = Q a st :=
  propext ⟨fun ⟨_, _, h, q⟩ => by cases h; exact q, fun q => ⟨a, st, rfl, q⟩⟩
theorem R.sat_exc {α : Type} {x : XD} {st : Store} {Q : α → Store → Prop} (h : (R.exc x st : R α).sat Q) : False := by
  obtain ⟨_, _, h, _⟩ := h; cases h
theorem R.sat_bad {α : Type} {Q : α → Store → Prop} (h : (R.bad : R α).sat Q) : False := by
  obtain ⟨_, _, h, _⟩ := h; cases h
@[simp] theorem R.sat_bind {α β : Type} (r : R α) (f : α → Store → R β) (Q : β → Store → Prop) : (r.bind f).sat Q = r.sat fun a st => (f a st).sat Q := by
  cases r with
  | ok a st => simp
  | exc x st => exact propext ⟨fun h => (R.sat_exc (α := β) h).elim, fun h => (R.sat_exc h).elim⟩
  | bad => exact propext ⟨fun h => (R.sat_bad (α := β) h).elim, fun h => (R.sat_bad h).elim⟩
theorem R.sat.imp {α : Type} {r : R α} {Q Q' : α → Store → Prop} (h : r.sat Q) (i : ∀ a st, Q a st → Q' a st) : r.sat Q' := by
  obtain ⟨a, st, e, q⟩ := h
  exact ⟨a, st, e, i a st q⟩
theorem R.sat_eq {α : Type} {r : R α} {a : α} {st : Store} (h : r = .ok a st) {Q : α → Store → Prop} (q : Q a st) : r.sat Q := ⟨a, st, h, q⟩
theorem R.calm_sat {α : Type} {r : R α} {Q : α → Store → Prop} : r.calm.sat Q = r.sat Q := by
  cases r with
  | ok a st => rfl
  | exc x st => exact propext ⟨fun h => (R.sat_bad h).elim, fun h => (R.sat_exc h).elim⟩
  | bad => rfl
/-! ### expressions -/
section
variable {T : Tab} {call : Call} {ρ : Env'} {st : Store}
@[simp] theorem ev_lit (d : D) : ev T call (.lit d) ρ st = .ok d st := by rw [ev]
@[simp] theorem ev_var (i : Nat) : ev T call (.var i) ρ st = .of (getVar ρ i) st := by rw [ev]
@[simp] theorem ev_tup (es : List C) : ev T call (.tup es) ρ st = (evs T call es ρ st).bind fun ds st => if ds.length ≤ LIM then .ok (.tup ds) st else .bad := by rw [ev]
@[simp] theorem ev_lst (m : Bool) (es : List C) : ev T call (.lst m es) ρ st = (evs T call es ρ st).bind fun ds st => if ds.length ≤ LIM then (if m then .ok (.loc st.length) (st ++ [.lst ds]) else .ok (.lst ds) st) else .bad := by rw [ev]
@[simp] theorem ev_dct (m : Bool) (ks : List Key) (es : List C) : ev T call (.dct m ks es) ρ st = (evs T call es ρ st).bind fun ds st => if ds.length = ks.length ∧ ks.length ≤ 15 ∧ ks ≠ [] ∧ ks.Nodup then (if m then .ok (.loc st.length) (st ++ [.dct ks ds]) else .ok (.dct ks ds) st) else .bad := by rw [ev]
@[simp] theorem ev_bin (op : Operator) (a b : C) : ev T call (.bin op a b) ρ st = (ev T call a ρ st).bind fun x st => (ev T call b ρ st).bind fun y st => .of (binD st op x y) st := by rw [ev]
@[simp] theorem ev_binM (op : Operator) (a b : C) : ev T call (.binM op a b) ρ st = (ev T call a ρ st).bind fun x st => (ev T call b ρ st).bind fun y st => (R.of (binO st op x y) st).bind fun o st => .ok (.loc st.length) (st ++ [o]) := by rw [ev]
def negR (x : D) (st : Store) : R D := match x with
    | .int i => .ok (.int (-i)) st
    | _ => .bad
@[simp] theorem negR_int (i : Int) : negR (.int i) st = .ok (.int (-i)) st := (rfl)
@[simp] theorem ev_neg (a : C) : ev T call (.neg a) ρ st = (ev T call a ρ st).bind negR := by rw [ev] <;> rfl
def notR (x : D) (st : Store) : R D := match x with
    | .bl b => .ok (.bl (!b)) st
    | _ => .bad
@[simp] theorem notR_bl (b : Bool) : notR (.bl b) st = .ok (.bl (!b)) st := (rfl)
@[simp] theorem ev_not (a : C) : ev T call (.not a) ρ st = (ev T call a ρ st).bind notR := by rw [ev] <;> rfl
def iteR {α : Type} (a b : Store → R α) (x : D) (st : Store) : R α := match x with
    | .bl true => a st
    | .bl false => b st
    | _ => .bad
@[simp] theorem iteR_tt {α : Type} (a b : Store → R α) : iteR a b (.bl true) st = a st := (rfl)
@[simp] theorem iteR_ff {α : Type} (a b : Store → R α) : iteR a b (.bl false) st = b st := (rfl)
theorem iteR_b {α : Type} (a b : Store → R α) (c : Bool) : iteR a b (.bl c) st = if c = true then a st else b st := by cases c <;> rfl
theorem iteR_dec {α : Type} (a b : Store → R α) (p : Prop) [Decidable p] : iteR a b (.bl (decide p)) st = if p then a st else b st := by
  by_cases h : p <;> simp [h]
@[simp] theorem ev_and (a b : C) : ev T call (.and a b) ρ st = (ev T call a ρ st).bind (iteR (fun st => ev T call b ρ st) fun st => .ok (.bl false) st) := by
  rw [ev]; rfl
@[simp] theorem ev_or (a b : C) : ev T call (.or a b) ρ st = (ev T call a ρ st).bind (iteR (fun st => .ok (.bl true) st) fun st => ev T call b ρ st) := by
  rw [ev]; rfl
@[simp] theorem ev_cmp (op : CmpOp) (a b : C) : ev T call (.cmp op a b) ρ st = (ev T call a ρ st).bind fun x st => (ev T call b ρ st).bind fun y st => (R.of (cmpD st op x y) st).bind fun k st => .ok (.bl k) st := by rw [ev]
@[simp] theorem ev_chain (op op' : CmpOp) (a b c : C) : ev T call (.chain op op' a b c) ρ st = (ev T call a ρ st).bind fun x st => (ev T call b ρ st).bind fun y st => (R.of (cmpD st op x y) st).bind fun k st =>
    if k then (ev T call c ρ st).bind fun z st => (R.of (cmpD st op' y z) st).bind fun k st => .ok (.bl k) st else .ok (.bl false) st := by rw [ev]
@[simp] theorem ev_ite (c a b : C) : ev T call (.ite c a b) ρ st = (ev T call c ρ st).bind (iteR (fun st => ev T call a ρ st) fun st => ev T call b ρ st) := by
  rw [ev]; rfl
@[simp] theorem ev_ix (a i : C) : ev T call (.ix a i) ρ st = (ev T call a ρ st).bind fun x st => (ev T call i ρ st).bind fun y st => .of (ixD st x y) st := by rw [ev]
@[simp] theorem ev_slice (a : C) (lo hi : List C) : ev T call (.slice a lo hi) ρ st = (ev T call a ρ st).bind fun x st => (evPart T call lo ρ st).bind fun l st => (evPart T call hi ρ st).bind fun h st => .of (sliceD st x l h) st := by rw [ev]
@[simp] theorem ev_attr (o : C) (f : Nat) : ev T call (.attr o f) ρ st = (ev T call o ρ st).bind fun x st => .of (attrD T st x f) st := by rw [ev]
@[simp] theorem ev_call (f : Nat) (es : List C) : ev T call (.call f es) ρ st = (evs T call es ρ st).bind fun ds st => call f ds st := by rw [ev]
@[simp] theorem ev_mk (c : Nat) (es : List C) : ev T call (.mk c es) ρ st = (evs T call es ρ st).bind fun ds st => mkObj T call c ds st := by rw [ev]
@[simp] theorem ev_bi (b : BI) (es : List C) : ev T call (.bi b es) ρ st = (evs T call es ρ st).bind fun ds st => .of (biD T st b ds) st := by rw [ev]
@[simp] theorem ev_isiT (a : C) (es : List C) : ev T call (.isiT a es) ρ st = (ev T call a ρ st).bind fun x st => (evs T call es ρ st).bind fun ds st => if ds.length ≤ LIM then (R.of (isiTD T st x ds) st).bind fun b st => .ok (.bl b) st else .bad := by rw [ev]
@[simp] theorem ev_biM (b : BI) (es : List C) : ev T call (.biM b es) ρ st = (evs T call es ρ st).bind fun ds st => (R.of (biO st b ds) st).bind fun o st => .ok (.loc st.length) (st ++ [o]) := by rw [ev]
@[simp] theorem ev_bm (o : C) (m : BM) (es : List C) : ev T call (.bm o m es) ρ st = (ev T call o ρ st).bind fun x st => if bmTy st m x then (evs T call es ρ st).bind fun ds st => bmD st m x ds else .bad := by rw [ev]
def kixR (ks : List Str) (ds : List D) (y : D) (st : Store) : R D := match y with
    | .str z => .of (lookS z ks ds) st
    | _ => .bad
@[simp] theorem ev_kix (ks : List Str) (ds : List D) (i : C) : ev T call (.kix ks ds i) ρ st = (ev T call i ρ st).bind (kixR ks ds) := by rw [ev] <;> rfl
@[simp] theorem evs_nil : evs T call [] ρ st = .ok [] st := by rw [evs]
@[simp] theorem evs_cons (e : C) (es : List C) : evs T call (e :: es) ρ st = (ev T call e ρ st).bind fun d st => (evs T call es ρ st).bind fun ds st => .ok (d :: ds) st := by rw [evs]
@[simp] theorem evPart_nil : evPart T call [] ρ st = .ok none st := by rw [evPart]
def partR (d : D) (st : Store) : R (Option Int) := match d with
    | .int i => .ok (some i) st
    | _ => .bad
@[simp] theorem partR_int (i : Int) : partR (.int i) st = .ok (some i) st := (rfl)
@[simp] theorem evPart_one (e : C) : evPart T call [e] ρ st = (ev T call e ρ st).bind partR := by rw [evPart] <;> rfl
/-! ### one turn of a comprehension, without a test and with one -/
def turnR (T : Tab) (call : Call) (own : List Nat) (elt : C) (tg : Tg) (ρ : Env') (x : D) (st : Store) : R D := (asgT T call tg x (wipeD ρ own) st).bind fun ρ' st => ev T call elt ρ' st
def boolR (d : D) (st : Store) : R Bool := match d with
  | .bl b => .ok b st
  | _ => .bad
@[simp] theorem boolR_bl (b : Bool) : boolR (.bl b) st = .ok b st := (rfl)
@[simp] theorem evIfs_nil : evIfs T call [] ρ st = .ok true st := by rw [evIfs]
@[simp] theorem evIfs_one (e : C) : evIfs T call [e] ρ st = (ev T call e ρ st).bind boolR := by
  rw [evIfs]; congr 1; funext d st; cases d <;> rfl
/-- with a test: none for what is left out -/
def turnI (T : Tab) (call : Call) (own : List Nat) (elt : C) (tg : Tg) (ifs : List C) (ρ : Env') (x : D) (st : Store) : R (Option D) := (asgT T call tg x (wipeD ρ own) st).bind fun ρ' st => (evIfs T call ifs ρ' st).bind fun b st =>
  if b = true then (ev T call elt ρ' st).bind fun d st => .ok (some d) st else .ok none st
end
/-- turns one behind the other -/
def mapR {β : Type} (f : D → Store → R β) : List D → Store → R (List β)
  | [], st => .ok [] st
  | x :: l, st => (f x st).bind fun y st => (mapR f l st).bind fun ys st => .ok (y :: ys) st
/-! ### what is walked, in full -/
def rangeL (a : Int) (n : Nat) : List Int := (List.range n).map fun (i : Nat) => a + (i : Int)
def enumL (l : List D) : List D := (l.zipIdx).map fun p => .tup [.int (p.2 : Nat), p.1]
def itList (st : Store) : IK → List D → Option (List D)
  | .one, [a] => items? st a
  | .enum, [a] => (items? st a).map enumL
  | .zip, [a, b] => match items? st a, items? st b with
    | some x, some y => some ((x.zip y).map fun p => .tup [p.1, p.2])
    | _, _ => none
  | .zip, [a, b, c] => match items? st a, items? st b, items? st c with
    | some x, some y, some z => some ((x.zip (y.zip z)).map fun p => .tup [p.1, p.2.1, p.2.2])
    | _, _, _ => none
  | .range, [.int n] => if -(2 ^ 62) ≤ n ∧ n < 2 ^ 62 then some ((rangeL 0 n.toNat).map .int) else none
  | .range, [.int a, .int b] => if -(2 ^ 62) ≤ a ∧ a < 2 ^ 62 ∧ -(2 ^ 62) ≤ b ∧ b < 2 ^ 62 then some ((rangeL a (b - a).toNat).map .int) else none
  | _, _ => none
theorem srcAt_is {st : Store} {a : D} {x : List D} (h : items? st a = some x) (i : Nat) : srcAt st a i = some x[i]? := by simp [srcAt, h]
theorem itList_ok {st : Store} {k : IK} {ds l : List D} (h : itList st k ds = some l) : itOk st k ds = true ∧ itLen st k ds = l.length ∧ ∀ j (_ : j < l.length), itAt st k ds j = some (some l[j]) := by
  unfold itList at h
  split at h
  · rename_i a
    refine ⟨by simp [itOk, h], by simp [itLen, srcLen, h], fun j hj => by simp [itAt, srcAt_is h, hj]⟩
  · rename_i a
    obtain ⟨x, hx, rfl⟩ := Option.map_eq_some_iff.mp h
    refine ⟨by simp [itOk, hx], by simp [itLen, srcLen, hx, enumL], fun j hj => ?_⟩
    have hj' : j < x.length := by simpa [enumL] using hj
    simp [itAt, srcAt_is hx, hj', enumL]
  · rename_i a b
    split at h
    · rename_i x y hx hy
      cases h
      refine ⟨by simp [itOk, hx, hy], by simp [itLen, srcLen, hx, hy], fun j hj => ?_⟩
      rw [List.length_map, List.length_zip] at hj
      have h1 : j < x.length := by omega
      have h2 : j < y.length := by omega
      simp [itAt, zipAt, srcAt_is hx, srcAt_is hy, h1, h2]
    · cases h
  · rename_i a b c
    split at h
    · rename_i x y z hx hy hz
      cases h
      refine ⟨by simp [itOk, hx, hy, hz], by simp [itLen, srcLen, hx, hy, hz, Nat.min_assoc], fun j hj => ?_⟩
      rw [List.length_map, List.length_zip, List.length_zip] at hj
      have h1 : j < x.length := by omega
      have h2 : j < y.length := by omega
      have h3 : j < z.length := by omega
      simp [itAt, zipAt, srcAt_is hx, srcAt_is hy, srcAt_is hz, h1, h2, h3]
    · cases h
  · rename_i n
    split at h
    · rename_i hn
      cases h
      refine ⟨by simp [itOk]; exact hn, by simp [itLen, rangeL], fun j hj => ?_⟩
      simp [rangeL] at hj
      simp [itAt, rangeL]; omega
    · cases h
  · rename_i a b
    split at h
    · rename_i hn
      cases h
      refine ⟨by simp [itOk]; exact hn, by simp [itLen, rangeL], fun j hj => ?_⟩
      simp [rangeL] at hj
      simp [itAt, rangeL]; omega
    · cases h
  · cases h
/-- a loop over a list, told by what holds ahead of each turn -/
theorem forR_inv {α : Type} {n : Nat} {turn : Nat → α → Store → R (Sum α Fl)} {Q : Sum α Fl → Store → Prop} (I : Nat → α → Store → Prop)
    (hs : ∀ j a st, j < n → I j a st → (turn j a st).sat fun r st' => match r with
      | .inl a' => I (j + 1) a' st'
      | .inr f => Q (.inr f) st')
    (he : ∀ a st, I n a st → Q (.inl a) st) : ∀ (i : Nat) (a : α) (st : Store), i ≤ n → I i a st → (forR (n - i) i turn a st).sat Q := by
  intro i
  generalize hk : n - i = k
  induction k generalizing i with
  | zero =>
    intro a st hi h
    have : i = n := by omega
    subst this
    unfold forR
    rw [R.sat_ok]
    exact he a st h
  | succ k ih =>
    intro a st hi h
    unfold forR
    rw [R.sat_bind]
    refine (hs i a st (by omega) h).imp fun r st' q => ?_
    cases r with
    | inl a' => exact ih (i + 1) (by omega) a' st' (by omega) q
    | inr f => exact R.sat_eq rfl q
section
variable {T : Tab} {call : Call} {ρ : Env'} {st : Store} {wf : Nat}
/-- a comprehension without tests -/
theorem lc_sat {m : Bool} {own : List Nat} {elt : C} {tg : Tg} {k : IK} {es : List C} {ds l : List D} {st1 : Store} {Q : D → Store → Prop} (I : Nat → List D → Store → Prop)
    (h1 : evs T call es ρ st = .ok ds st1) (hl : ∀ j acc st', I j acc st' → itList st' k ds = some l) (h5 : l.length ≤ LIM) (h0 : I 0 [] st1)
    (hs : ∀ j acc st', (h : j < l.length) → I j acc st' → (turnR T call own elt tg ρ l[j] st').sat fun y st' => I (j + 1) (acc ++ [y]) st')
    (he : ∀ acc st', I l.length acc st' → if m = true then Q (.loc st'.length) (st' ++ [.lst acc]) else Q (.lst acc) st') :
    (ev T call (.lc m own elt tg k es []) ρ st).sat Q := by
  rw [ev, h1]
  simp only [R.bind_ok]
  obtain ⟨g1, g2, _⟩ := itList_ok (hl 0 [] st1 h0)
  rw [if_pos ⟨g1, by omega⟩, g2, R.sat_bind]
  refine forR_inv (n := l.length) (fun j acc st' => I j acc st') (fun j acc st' hj hI => ?_) (fun acc st' hI => ?_) 0 [] st1 (Nat.zero_le _) h0
  · obtain ⟨_, _, g3⟩ := itList_ok (hl j acc st' hI)
    rw [g3 j hj]
    dsimp only
    rw [R.calm_sat]
    have := hs j acc st' hj hI
    simp only [turnR, R.sat_bind] at this
    simp only [R.sat_bind, evIfs_nil, R.sat_ok, if_true]
    exact this.imp fun ρ' st2 h => h.imp fun y st3 h => h
  · obtain ⟨e1, e2, _⟩ := itList_ok (hl _ acc st' hI)
    dsimp only
    rw [if_pos ⟨e1, e2⟩]
    have := he acc st' hI
    cases m <;> exact R.sat_eq rfl this
/-- .. with tests -/
theorem lci_sat {m : Bool} {own : List Nat} {elt : C} {tg : Tg} {k : IK} {es ifs : List C} {ds l : List D} {st1 : Store} {Q : D → Store → Prop} (I : Nat → List D → Store → Prop)
    (h1 : evs T call es ρ st = .ok ds st1) (hl : ∀ j acc st', I j acc st' → itList st' k ds = some l) (h5 : l.length ≤ LIM) (h0 : I 0 [] st1)
    (hs : ∀ j acc st', (h : j < l.length) → I j acc st' → (turnI T call own elt tg ifs ρ l[j] st').sat fun o st' => match o with
      | some y => I (j + 1) (acc ++ [y]) st'
      | none => I (j + 1) acc st')
    (he : ∀ acc st', I l.length acc st' → if m = true then Q (.loc st'.length) (st' ++ [.lst acc]) else Q (.lst acc) st') :
    (ev T call (.lc m own elt tg k es ifs) ρ st).sat Q := by
  rw [ev, h1]
  simp only [R.bind_ok]
  obtain ⟨g1, g2, _⟩ := itList_ok (hl 0 [] st1 h0)
  rw [if_pos ⟨g1, by omega⟩, g2, R.sat_bind]
  refine forR_inv (n := l.length) (fun j acc st' => I j acc st') (fun j acc st' hj hI => ?_) (fun acc st' hI => ?_) 0 [] st1 (Nat.zero_le _) h0
  · obtain ⟨_, _, g3⟩ := itList_ok (hl j acc st' hI)
    rw [g3 j hj]
    dsimp only
    rw [R.calm_sat]
    have := hs j acc st' hj hI
    simp only [turnI, R.sat_bind] at this
    simp only [R.sat_bind]
    refine this.imp fun ρ' st2 h => h.imp fun b st3 h => ?_
    cases b
    · simp only [Bool.false_eq_true, if_false, R.sat_ok] at h ⊢
      exact h
    · simp only [if_true, R.sat_bind, R.sat_ok] at h ⊢
      exact h
  · obtain ⟨e1, e2, _⟩ := itList_ok (hl _ acc st' hI)
    dsimp only
    rw [if_pos ⟨e1, e2⟩]
    have := he acc st' hI
    cases m <;> exact R.sat_eq rfl this
/-- what changes nothing -/
theorem R.eq_of_sat {α : Type} {r : R α} {a : α} {st : Store} (h : r.sat fun b st' => b = a ∧ st' = st) : r = .ok a st := by
  obtain ⟨⟨_, _, h, rfl, rfl⟩⟩ := h
  exact h
theorem R.eq_of_sat2 {α : Type} {r : R α} {a : α} {st : Store} (h : r.sat fun b st' => b = a ∧ st' = st) : r = .ok a st := R.eq_of_sat h
theorem lc_pureG {α : Type} {st0 : Store} {own : List Nat} {elt : C} {tg : Tg} {k : IK} {es : List C} {ds : List D} {xs : List α} {enc : α → D} (g : α → D)
    (h1 : evs T call es ρ st0 = .ok ds st) (hl : itList st k ds = some (xs.map enc)) (h5 : xs.length ≤ LIM)
    (hb : ∀ x ∈ xs, turnR T call own elt tg ρ (enc x) st = .ok (g x) st) : ev T call (.lc false own elt tg k es []) ρ st0 = .ok (.lst (xs.map g)) st := by
  refine R.eq_of_sat2 (lc_sat (l := xs.map enc) (fun j acc st' => st' = st ∧ acc = (xs.take j).map g) h1 (fun j acc st' h => by rw [h.1]; exact hl) (by simpa using h5) ⟨rfl, by simp⟩ (fun j acc st' hj h => ?_) (fun acc st' h => ?_))
  · obtain ⟨rfl, rfl⟩ := h
    have hj' : j < xs.length := by simpa using hj
    rw [List.getElem_map, hb _ (List.getElem_mem hj')]
    refine R.sat_eq rfl ⟨rfl, ?_⟩
    rw [List.take_succ_eq_append_getElem hj', List.map_append]
    rfl
  · obtain ⟨rfl, rfl⟩ := h
    simp
theorem lci_pureG {α : Type} {st0 : Store} {own : List Nat} {elt : C} {tg : Tg} {k : IK} {es ifs : List C} {ds : List D} {xs : List α} {enc : α → D} (g : α → Option D)
    (h1 : evs T call es ρ st0 = .ok ds st) (hl : itList st k ds = some (xs.map enc)) (h5 : xs.length ≤ LIM)
    (hb : ∀ x ∈ xs, turnI T call own elt tg ifs ρ (enc x) st = .ok (g x) st) : ev T call (.lc false own elt tg k es ifs) ρ st0 = .ok (.lst (xs.filterMap g)) st := by
  refine R.eq_of_sat2 (lci_sat (l := xs.map enc) (fun j acc st' => st' = st ∧ acc = (xs.take j).filterMap g) h1 (fun j acc st' h => by rw [h.1]; exact hl) (by simpa using h5) ⟨rfl, by simp⟩ (fun j acc st' hj h => ?_) (fun acc st' h => ?_))
  · obtain ⟨rfl, rfl⟩ := h
    have hj' : j < xs.length := by simpa using hj
    rw [List.getElem_map, hb _ (List.getElem_mem hj')]
    simp only [R.sat_ok]
    rw [List.take_succ_eq_append_getElem hj', List.filterMap_append]
    cases hg : g xs[j] with
    | none => simp [List.filterMap_cons_none hg]
    | some y => simp [List.filterMap_cons_some hg]
  · obtain ⟨rfl, rfl⟩ := h
    simp
theorem lc_pure {α : Type} {own : List Nat} {elt : C} {tg : Tg} {k : IK} {es : List C} {ds : List D} {xs : List α} {enc : α → D} (g : α → D)
    (h1 : evs T call es ρ st = .ok ds st) (hl : itList st k ds = some (xs.map enc)) (h5 : xs.length ≤ LIM)
    (hb : ∀ x ∈ xs, turnR T call own elt tg ρ (enc x) st = .ok (g x) st) : ev T call (.lc false own elt tg k es []) ρ st = .ok (.lst (xs.map g)) st := lc_pureG g h1 hl h5 hb
theorem lci_pure {α : Type} {own : List Nat} {elt : C} {tg : Tg} {k : IK} {es ifs : List C} {ds : List D} {xs : List α} {enc : α → D} (g : α → Option D)
    (h1 : evs T call es ρ st = .ok ds st) (hl : itList st k ds = some (xs.map enc)) (h5 : xs.length ≤ LIM)
    (hb : ∀ x ∈ xs, turnI T call own elt tg ifs ρ (enc x) st = .ok (g x) st) : ev T call (.lc false own elt tg k es ifs) ρ st = .ok (.lst (xs.filterMap g)) st := lci_pureG g h1 hl h5 hb
/-! ### statements -/
@[simp] theorem ex_expr (e : C) : ex T call wf (.expr e) ρ st = (ev T call e ρ st).bind fun _ st => .ok (.next ρ) st := by rw [ex]
@[simp] theorem ex_asg (tg : Tg) (e : C) : ex T call wf (.asg tg e) ρ st = (ev T call e ρ st).bind fun d st => (asgT T call tg d ρ st).bind fun ρ st => .ok (.next ρ) st := by rw [ex]
theorem ex_par (ij : List Nat) (es : List C) : ex T call wf (.par ij es) ρ st = (evs T call es ρ st).bind fun ds st => if ds.length = ij.length ∧ ij.all (· < ρ.length) then .ok (.next (setAll ρ ij ds)) st else .bad := by rw [ex]
@[simp] theorem ex_par2 (i j : Nat) (a b : C) : ex T call wf (.par [i, j] [a, b]) ρ st = (ev T call a ρ st).bind fun x st => (ev T call b ρ st).bind fun y st => if i < ρ.length ∧ j < ρ.length then .ok (.next ((ρ.set i (some x)).set j (some y))) st else .bad := by
  rw [ex_par, evs_cons]
  cases ev T call a ρ st with
  | ok x s =>
    simp only [R.bind_ok, evs_cons]
    cases ev T call b ρ s with
    | ok y s2 =>
      simp only [R.bind_ok, evs_nil]
      by_cases h1 : i < ρ.length <;> by_cases h2 : j < ρ.length <;> simp [h1, h2, setAll]
    | exc x s => rfl
    | bad => rfl
  | exc x s => rfl
  | bad => rfl
@[simp] theorem ex_par3 (i j l : Nat) (a b c : C) : ex T call wf (.par [i, j, l] [a, b, c]) ρ st = (ev T call a ρ st).bind fun x st => (ev T call b ρ st).bind fun y st => (ev T call c ρ st).bind fun z st => if i < ρ.length ∧ j < ρ.length ∧ l < ρ.length then .ok (.next (((ρ.set i (some x)).set j (some y)).set l (some z))) st else .bad := by
  rw [ex_par, evs_cons]
  cases ev T call a ρ st with
  | ok x s =>
    simp only [R.bind_ok, evs_cons]
    cases ev T call b ρ s with
    | ok y s2 =>
      simp only [R.bind_ok, evs_cons]
      cases ev T call c ρ s2 with
      | ok z s3 =>
        simp only [R.bind_ok, evs_nil]
        by_cases h1 : i < ρ.length <;> by_cases h2 : j < ρ.length <;> by_cases h3 : l < ρ.length <;> simp [h1, h2, h3, setAll]
      | exc x s => rfl
      | bad => rfl
    | exc x s => rfl
    | bad => rfl
  | exc x s => rfl
  | bad => rfl
def augR (i : Nat) (op : Operator) (ρ : Env') (m : R D) : Option D → R Fl
  | none => .bad
  | some x => m.bind fun y st => (R.of (augD op x y) st).bind fun z st => .ok (.next (ρ.set i (some z))) st
@[simp] theorem augR_some (i : Nat) (op : Operator) (ρ : Env') (m : R D) (x : D) : augR i op ρ m (some x) = m.bind fun y st => (R.of (augD op x y) st).bind fun z st => .ok (.next (ρ.set i (some z))) st := (rfl)
@[simp] theorem ex_aug (i : Nat) (op : Operator) (e : C) : ex T call wf (.aug i op e) ρ st = augR i op ρ (ev T call e ρ st) (getVar ρ i) := by
  rw [ex] <;> cases getVar ρ i <;> rfl
@[simp] theorem ex_ite (c : C) (a b : List S) : ex T call wf (.ite c a b) ρ st = (ev T call c ρ st).bind (iteR (fun st => exs T call wf a ρ st) fun st => exs T call wf b ρ st) := by
  rw [ex]; rfl
@[simp] theorem ex_ret (e : C) : ex T call wf (.ret e) ρ st = (ev T call e ρ st).bind fun d st => .ok (.ret d) st := by rw [ex]
@[simp] theorem ex_retN : ex T call wf .retN ρ st = .ok (.ret .non) st := by rw [ex]
@[simp] theorem ex_brk : ex T call wf .brk ρ st = .ok (.brk ρ) st := by rw [ex]
@[simp] theorem ex_cnt : ex T call wf .cnt ρ st = .ok (.cnt ρ) st := by rw [ex]
@[simp] theorem ex_pass : ex T call wf .pass ρ st = .ok (.next ρ) st := by rw [ex]
@[simp] theorem ex_raise (c : Nat) (es : List C) : ex T call wf (.raise c es) ρ st = .bad := by rw [ex]
def thn (T : Tab) (call : Call) (wf : Nat) (r : List S) (f : Fl) (st : Store) : R Fl := match f with
    | .next ρ => exs T call wf r ρ st
    | f => .ok f st
@[simp] theorem thn_next (r : List S) (ρ : Env') : thn T call wf r (.next ρ) st = exs T call wf r ρ st := (rfl)
@[simp] theorem thn_ret (r : List S) (d : D) : thn T call wf r (.ret d) st = .ok (.ret d) st := (rfl)
@[simp] theorem thn_brk (r : List S) (ρ : Env') : thn T call wf r (.brk ρ) st = .ok (.brk ρ) st := (rfl)
@[simp] theorem thn_cnt (r : List S) (ρ : Env') : thn T call wf r (.cnt ρ) st = .ok (.cnt ρ) st := (rfl)
@[simp] theorem exs_nil : exs T call wf [] ρ st = .ok (.next ρ) st := by rw [exs]
@[simp] theorem exs_cons (s : S) (r : List S) : exs T call wf (s :: r) ρ st = (ex T call wf s ρ st).bind (thn T call wf r) := by
  rw [exs]; rfl
@[simp] theorem asgT_nm (i : Nat) (d : D) : asgT T call (.nm i) d ρ st = if i < ρ.length then .ok (ρ.set i (some d)) st else .bad := by rw [asgT]
@[simp] theorem asgT_tup (l : List Tg) (ds : List D) : asgT T call (.tup l) (.tup ds) ρ st = if ds.length = l.length then asgTs T call l ds ρ st else .bad := by rw [asgT]
@[simp] theorem asgT_lst (l : List Tg) (ds : List D) : asgT T call (.tup l) (.lst ds) ρ st = if ds.length = l.length then asgTs T call l ds ρ st else .bad := by rw [asgT]
@[simp] theorem asgTs_nil : asgTs T call [] [] ρ st = .ok ρ st := by rw [asgTs]
@[simp] theorem asgTs_cons (t : Tg) (ts : List Tg) (d : D) (ds : List D) : asgTs T call (t :: ts) (d :: ds) ρ st = (asgT T call t d ρ st).bind fun ρ st => asgTs T call ts ds ρ st := by rw [asgTs]
def attrPut (T : Tab) (f : Nat) (d : D) (ρ : Env') (x : D) (st : Store) : R Env' := match x with
    | .loc n => match st[n]? with
      | some (.ins c ns l) => if ns.length < 900 ∧ T.has c f = true then .ok ρ (st.set n (.ins c (putA f d ns l).1 (putA f d ns l).2)) else .bad
      | _ => .bad
    | _ => .bad
@[simp] theorem asgT_attr (o : C) (f : Nat) (d : D) : asgT T call (.attr o f) d ρ st = (ev T call o ρ st).bind (attrPut T f d ρ) := by rw [asgT] <;> rfl
def subPut (d : D) (ρ : Env') (x y : D) (st : Store) : R Env' := match x with
    | .loc n => match st[n]?, y with
      | some (.lst l), .int j => match ixN l.length j with
        | some k => .ok ρ (st.set n (.lst (l.set k d)))
        | none => .bad
      | some (.dct ks l), y => match keyOf y with
        | some k => if ks.length < LIM then .ok ρ (st.set n (.dct (putK' k d ks l).1 (putK' k d ks l).2)) else .bad
        | none => .bad
      | _, _ => .bad
    | _ => .bad
@[simp] theorem asgT_sub (o i : C) (d : D) : asgT T call (.sub o i) d ρ st = (ev T call o ρ st).bind fun x st => (ev T call i ρ st).bind fun y st => subPut d ρ x y st := by rw [asgT] <;> rfl
/-- a loop, told by what holds ahead of each turn -/
theorem for_sat {tg : Tg} {k : IK} {es : List C} {body : List S} {ds l : List D} {st1 : Store} {Q : Fl → Store → Prop} (I : Nat → Env' → Store → Prop)
    (h1 : evs T call es ρ st = .ok ds st1) (hl : ∀ j ρ st', I j ρ st' → itList st' k ds = some l) (h0 : I 0 ρ st1)
    (hs : ∀ j ρ st', (h : j < l.length) → I j ρ st' → ((asgT T call tg l[j] ρ st').bind fun ρ st => exs T call wf body ρ st).sat fun f st' => match f with
      | .next ρ' => I (j + 1) ρ' st'
      | .cnt ρ' => I (j + 1) ρ' st'
      | .brk ρ' => Q (.next ρ') st'
      | .ret d => Q (.ret d) st')
    (he : ∀ ρ st', I l.length ρ st' → Q (.next ρ) st') :
    (ex T call wf (.for_ tg k es body) ρ st).sat Q := by
  rw [ex, h1]
  simp only [R.bind_ok]
  obtain ⟨g1, g2, _⟩ := itList_ok (hl 0 ρ st1 h0)
  rw [if_pos g1, g2, R.sat_bind]
  refine forR_inv (n := l.length) I (fun j ρ st' hj hI => ?_) (fun ρ st' hI => ?_) 0 ρ st1 (Nat.zero_le _) h0
  · obtain ⟨_, _, g3⟩ := itList_ok (hl j ρ st' hI)
    rw [g3 j hj]
    dsimp only
    have := hs j ρ st' hj hI
    simp only [R.sat_bind] at this ⊢
    refine this.imp fun ρ' st2 h => h.imp fun f st3 h => ?_
    cases f with
    | next ρ' => exact R.sat_eq rfl h
    | cnt ρ' => exact R.sat_eq rfl h
    | brk ρ' => exact R.sat_eq rfl (R.sat_eq rfl h)
    | ret d => exact R.sat_eq rfl (R.sat_eq rfl h)
  · obtain ⟨e1, e2, _⟩ := itList_ok (hl _ ρ st' hI)
    unfold forEnd
    dsimp only
    rw [if_pos ⟨e1, e2⟩, R.sat_ok]
    exact he ρ st' hI
/-- a loop that carries a value and changes nothing else -/
theorem for_fold {α β γ : Type} {tg : Tg} {k : IK} {es : List C} {body : List S} {ds : List D} {xs : List α} {enc : α → D} (F : β → γ → Env') (f : β → α → β) {b0 : β} {c0 : γ}
    (h1 : evs T call es ρ st = .ok ds st) (hl : itList st k ds = some (xs.map enc)) (h0 : ρ = F b0 c0)
    (hs : ∀ j (h : j < xs.length) c, ∃ c', ((asgT T call tg (enc xs[j]) (F ((xs.take j).foldl f b0) c) st).bind fun ρ st => exs T call wf body ρ st) = .ok (.next (F (f ((xs.take j).foldl f b0) xs[j]) c')) st) :
    ∃ c, ex T call wf (.for_ tg k es body) ρ st = .ok (.next (F (xs.foldl f b0) c)) st := by
  have := for_sat (T := T) (call := call) (wf := wf) (tg := tg) (body := body) (Q := fun r st' => ∃ c, r = .next (F (xs.foldl f b0) c) ∧ st' = st) (fun j ρ st' => st' = st ∧ ∃ c, ρ = F ((xs.take j).foldl f b0) c) h1 (fun j ρ st' h => by rw [h.1]; exact hl) ⟨rfl, c0, by simpa using h0⟩
    (fun j ρ st' hj h => by
      obtain ⟨rfl, c, rfl⟩ := h
      have hj' : j < xs.length := by simpa using hj
      obtain ⟨c', e⟩ := hs j hj' c
      rw [List.getElem_map, e]
      refine R.sat_eq rfl ⟨rfl, c', ?_⟩
      rw [List.take_succ_eq_append_getElem hj', List.foldl_append]
      rfl) (fun ρ st' h => by
      obtain ⟨rfl, c, rfl⟩ := h
      exact ⟨c, by simp, rfl⟩)
  obtain ⟨⟨_, _, he, c, rfl, rfl⟩⟩ := this
  exact ⟨c, he⟩
end
/-! ### calls -/
def endR (frz : Bool) (n : Nat) (f : Fl) (st : Store) : R D := match f with
  | .ret d => leave frz n d st
  | .next _ => leave frz n .non st
  | _ => .bad
@[simp] theorem endR_ret (frz : Bool) (n : Nat) (d : D) (st : Store) : endR frz n (.ret d) st = leave frz n d st := (rfl)
@[simp] theorem endR_next (frz : Bool) (n : Nat) (ρ : Env') (st : Store) : endR frz n (.next ρ) st = leave frz n .non st := (rfl)
theorem callN_at {T : Tab} {wf m n f : Nat} {fd : FnD} {ds : List D} {st : Store} (hm : n + 1 ≤ m) (hl : T.fns.lookup f = some fd) (hn : ds.length = fd.np) : ∃ k, n ≤ k ∧ callN T wf m f ds st = (exs T (callN T wf k) wf fd.body (ds.map some ++ List.replicate fd.nl none) st).bind (endR fd.frz st.length) := by
  obtain ⟨k, rfl⟩ : ∃ k, m = k + 1 := ⟨m - 1, by omega⟩
  refine ⟨k, by omega, ?_⟩
  show (match T.fns.lookup f with
    | some fd => runFn T (callN T wf k) wf fd ds st
    | none => .bad) = _
  rw [hl]
  simp only [runFn, hn, if_true]
  rfl
theorem callN_do {T : Tab} {wf m n f : Nat} {fd : FnD} {ds : List D} {st : Store} {r : R D} (hm : n + 1 ≤ m) (hl : T.fns.lookup f = some fd) (hn : ds.length = fd.np) (H : ∀ k, n ≤ k → (exs T (callN T wf k) wf fd.body (ds.map some ++ List.replicate fd.nl none) st).bind (endR fd.frz st.length) = r) : callN T wf m f ds st = r := by
  obtain ⟨k, hk, e⟩ := callN_at (st := st) (wf := wf) hm hl hn
  rw [e]; exact H k hk
theorem callN_sat {T : Tab} {wf m n f : Nat} {fd : FnD} {ds : List D} {st : Store} {Q : D → Store → Prop} (hm : n + 1 ≤ m) (hl : T.fns.lookup f = some fd) (hn : ds.length = fd.np) (H : ∀ k, n ≤ k → (exs T (callN T wf k) wf fd.body (ds.map some ++ List.replicate fd.nl none) st).sat fun f st' => (endR fd.frz st.length f st').sat Q) : (callN T wf m f ds st).sat Q := by
  obtain ⟨k, hk, e⟩ := callN_at (st := st) (wf := wf) hm hl hn
  rw [e, R.sat_bind]; exact H k hk
@[simp] theorem leave_same {frz : Bool} {d : D} {st : Store} : leave frz st.length d st = .ok d st := by simp [leave]
end G

set_option linter.all false
set_option maxRecDepth 100000
/-! W2: built-ins by value, for simp; ratios, what is alike. -/
namespace G
open PySem L2
section
variable {st : Store} {T : Tab}
@[simp] theorem binD_add (i j : Int) : binD st .Add (.int i) (.int j) = some (.int (i + j)) := (rfl)
@[simp] theorem binD_sub (i j : Int) : binD st .Sub (.int i) (.int j) = some (.int (i - j)) := (rfl)
theorem mulOk_of {i j : Int} (h : bl i.natAbs ≤ 100000) (k : bl j.natAbs ≤ 100000) : mulOk i j = true := by
  have e : ∀ i : Int, bl i.natAbs ≤ 100000 → Builtin.Int.intBits i ≤ 100000 := by
    intro i h
    have : Builtin.Int.intBits i = bl i.natAbs := by
      unfold Builtin.Int.intBits bl
      by_cases hi : i = 0
      · subst hi; rfl
      · have : i.natAbs ≠ 0 := by omega
        simp [hi, this]
    omega
  have h1 := e i h
  have h2 := e j k
  unfold mulOk
  rw [show decide (Builtin.Int.intBits i + Builtin.Int.intBits j ≤ 134217728) = true from decide_eq_true (by omega)]
  simp
theorem binD_mul {i j : Int} (h : bl i.natAbs ≤ 100000) (k : bl j.natAbs ≤ 100000) : binD st .Mult (.int i) (.int j) = some (.int (i * j)) := by
  have e : binD st .Mult (.int i) (.int j) = if mulOk i j then some (.int (i * j)) else none := rfl
  rw [e, if_pos (mulOk_of h k)]
theorem mulOk_small {i j : Int} (h : j.natAbs < 2 ^ 64) : mulOk i j = true := by unfold mulOk; simp [h]
theorem mulOk_small' {i j : Int} (h : i.natAbs < 2 ^ 64) : mulOk i j = true := by unfold mulOk; simp [h]
theorem binD_muls {i j : Int} (h : j.natAbs < 2 ^ 64) : binD st .Mult (.int i) (.int j) = some (.int (i * j)) := by
  have e : binD st .Mult (.int i) (.int j) = if mulOk i j then some (.int (i * j)) else none := rfl
  rw [e, if_pos (mulOk_small h)]
theorem binD_muls' {i j : Int} (h : i.natAbs < 2 ^ 64) : binD st .Mult (.int i) (.int j) = some (.int (i * j)) := by
  have e : binD st .Mult (.int i) (.int j) = if mulOk i j then some (.int (i * j)) else none := rfl
  rw [e, if_pos (mulOk_small' h)]
theorem log2_lt {j : Int} (hj : j ≠ 0) (hs : bl j.natAbs ≤ 9000) : j.natAbs.log2 < 9000 := by
  unfold bl at hs
  rw [if_neg (by omega)] at hs
  omega
theorem binD_fdivN {i j : Int} (hj : j ≠ 0) (hs : bl j.natAbs ≤ 9000) : binD st .FloorDiv (.int i) (.int j) = some (.int (i.fdiv j)) := by
  have e : binD st .FloorDiv (.int i) (.int j) = if j ≠ 0 ∧ j.natAbs.log2 < 9000 then some (.int (i.fdiv j)) else none := rfl
  rw [e, if_pos ⟨hj, log2_lt hj hs⟩]
theorem binD_fdiv {i j : Int} (hj : 0 < j) (hs : bl j.natAbs ≤ 9000) : binD st .FloorDiv (.int i) (.int j) = some (.int (i / j)) := by
  rw [binD_fdivN (by omega) hs, Int.fdiv_eq_ediv_of_nonneg _ (by omega)]
theorem binD_mod {i j : Int} (hj : 0 < j) : binD st .Mod (.int i) (.int j) = some (.int (i % j)) := by
  have e : binD st .Mod (.int i) (.int j) = if j ≠ 0 then some (.int (i.fmod j)) else none := rfl
  rw [e, if_pos (by omega), Int.fmod_eq_emod_of_nonneg _ (by omega)]
theorem binD_pow {i j : Int} (h0 : 0 ≤ j) (h1 : j ≤ 1000000) (h2 : i.natAbs < 2 ^ 64) : binD st .Pow (.int i) (.int j) = some (.int (i ^ j.toNat)) := by
  have e : binD st .Pow (.int i) (.int j) = if 0 ≤ j ∧ j ≤ 1000000 ∧ i.natAbs < 2 ^ 64 then some (.int (i ^ j.toNat)) else none := rfl
  rw [e, if_pos ⟨h0, h1, h2⟩]
@[simp] theorem cmpD_lt (i j : Int) : cmpD st .Lt (.int i) (.int j) = some (decide (i < j)) := (rfl)
@[simp] theorem cmpD_le (i j : Int) : cmpD st .LtE (.int i) (.int j) = some (decide (i ≤ j)) := (rfl)
@[simp] theorem cmpD_gt (i j : Int) : cmpD st .Gt (.int i) (.int j) = some (decide (j < i)) := (rfl)
@[simp] theorem cmpD_ge (i j : Int) : cmpD st .GtE (.int i) (.int j) = some (decide (j ≤ i)) := (rfl)
@[simp] theorem cmpD_eq (a b : D) : cmpD st .Eq a b = eqD st a b := by cases a <;> rfl
@[simp] theorem cmpD_ne (a b : D) : cmpD st .NotEq a b = (eqD st a b).map (!·) := by cases a <;> rfl
@[simp] theorem cmpD_is (a b : D) : cmpD st .Is a b = isB a b := by cases a <;> rfl
@[simp] theorem cmpD_isnot (a b : D) : cmpD st .IsNot a b = (isB a b).map (!·) := by cases a <;> rfl
@[simp] theorem cmpD_in (a b : D) : cmpD st .In a b = inD st a b := by cases a <;> rfl
@[simp] theorem cmpD_notin (a b : D) : cmpD st .NotIn a b = (inD st a b).map (!·) := by cases a <;> rfl
@[simp] theorem isB_non (a : D) : isB a .non = some (isNon a) := (rfl)
@[simp] theorem isB_bl (c k : Bool) : isB (.bl c) (.bl k) = some (decide (c = k)) := (rfl)
/-! ### what stands in rows -/
@[simp] theorem items_tup (l : List D) : items? st (.tup l) = some l := (rfl)
@[simp] theorem items_lst (l : List D) : items? st (.lst l) = some l := (rfl)
@[simp] theorem items_ro (l : List D) : items? st (.ro l) = some l := (rfl)
@[simp] theorem list_lst (l : List D) : list? st (.lst l) = some l := (rfl)
@[simp] theorem itList_one (a : D) : itList st .one [a] = items? st a := (rfl)
@[simp] theorem itList_enum (a : D) : itList st .enum [a] = (items? st a).map enumL := (rfl)
theorem itList_zip {a b : D} {x y : List D} (h : items? st a = some x) (k : items? st b = some y) : itList st .zip [a, b] = some ((x.zip y).map fun p => .tup [p.1, p.2]) := by simp [itList, h, k]
theorem itList_zip3 {a b c : D} {x y z : List D} (h : items? st a = some x) (k : items? st b = some y) (l : items? st c = some z) : itList st .zip [a, b, c] = some ((x.zip (y.zip z)).map fun p => .tup [p.1, p.2.1, p.2.2]) := by simp [itList, h, k, l]
theorem itList_range {n : Int} (h : 0 ≤ n) (k : n < 2 ^ 62) : itList st .range [.int n] = some ((rangeL 0 n.toNat).map .int) := by
  simp only [itList]; rw [if_pos ⟨by omega, k⟩]
theorem itList_range2 {a b : Int} (h : 0 ≤ a) (k : a < 2 ^ 62) (h' : 0 ≤ b) (k' : b < 2 ^ 62) : itList st .range [.int a, .int b] = some ((rangeL a (b - a).toNat).map .int) := by
  simp only [itList]; rw [if_pos ⟨by omega, k, by omega, k'⟩]
theorem atI_nat {α : Type} {l : List α} {n : Nat} (h : n < l.length) : atI l (n : Int) = some l[n] := by
  unfold atI ixN
  rw [if_pos (by omega), if_pos (by omega)]
  simp [h]
theorem atI_int {α : Type} {l : List α} {i : Int} (h0 : 0 ≤ i) (h : i.toNat < l.length) : atI l i = some l[i.toNat] := by
  have := atI_nat h
  rw [Int.toNat_of_nonneg h0] at this
  exact this
theorem atI_last {α : Type} {l : List α} (h : l ≠ []) : atI l (-1) = some (l.getLast h) := by
  unfold atI ixN
  have : 0 < l.length := List.length_pos_iff.mpr h
  rw [if_neg (by omega), if_pos (by omega)]
  simp only [Option.bind_some]
  rw [List.getLast_eq_getElem, show (-1 + (l.length : Int)).toNat = l.length - 1 by omega, List.getElem?_eq_getElem]
theorem ixD_tup (l : List D) (i : Int) : ixD st (.tup l) (.int i) = atI l i := rfl
theorem ixD_lst (l : List D) (i : Int) : ixD st (.lst l) (.int i) = atI l i := rfl
theorem ixD_ro (l : List D) (i : Int) : ixD st (.ro l) (.int i) = atI l i := rfl
@[simp] theorem atI_0 {α : Type} (x : α) (l : List α) : atI (x :: l) 0 = some x := atI_nat (n := 0) (by simp)
@[simp] theorem atI_1 {α : Type} (x y : α) (l : List α) : atI (x :: y :: l) 1 = some y := atI_nat (n := 1) (by simp)
@[simp] theorem atI_2 {α : Type} (x y z : α) (l : List α) : atI (x :: y :: z :: l) 2 = some z := atI_nat (n := 2) (by simp)
@[simp] theorem atI_3 {α : Type} (x y z u : α) (l : List α) : atI (x :: y :: z :: u :: l) 3 = some u := atI_nat (n := 3) (by simp)
@[simp] theorem ixD_tup_cons (x : D) (l : List D) (i : Int) : ixD st (.tup (x :: l)) (.int i) = atI (x :: l) i := (rfl)
@[simp] theorem ixD_lst_cons (x : D) (l : List D) (i : Int) : ixD st (.lst (x :: l)) (.int i) = atI (x :: l) i := (rfl)
@[simp] theorem ixD_dct (ks : List Key) (l : List D) (s : Str) : ixD st (.dct ks l) (.str s) = lookK (.inr s) ks l := (rfl)
@[simp] theorem lenD_tup (l : List D) : lenD st (.tup l) = some l.length := (rfl)
@[simp] theorem lenD_lst (l : List D) : lenD st (.lst l) = some l.length := (rfl)
@[simp] theorem lenD_ro (l : List D) : lenD st (.ro l) = some l.length := (rfl)
@[simp] theorem biD_len (a : D) : biD T st .len [a] = (lenD st a).map fun (n : Nat) => D.int (n : Int) := (rfl)
@[simp] theorem biD_isi (a c : D) : biD T st .isinstance [a, c] = (isiD T st a c).map .bl := (rfl)
@[simp] theorem biD_tuple (a : D) : biD T st .tuple [a] = (items? st a).map .tup := (rfl)
@[simp] theorem biD_list (a : D) : biD T st .list [a] = (items? st a).map .lst := (rfl)
@[simp] theorem biD_abs (i : Int) : biD T st .abs [.int i] = some (.int (if i < 0 then -i else i)) := (rfl)
@[simp] theorem biD_int (i : Int) : biD T st .int [.int i] = some (.int i) := (rfl)
@[simp] theorem biD_gcd (a b : Int) : biD T st .gcd [.int a, .int b] = some (.int (Nat.gcd a.natAbs b.natAbs : Nat)) := (rfl)
def allR (st : Store) (a : D) : Option D := match list? st a with
    | some l => (bools? l).map fun bs => .bl (bs.all id)
    | none => none
def anyR (st : Store) (a : D) : Option D := match list? st a with
    | some l => (bools? l).map fun bs => .bl (bs.any id)
    | none => none
@[simp] theorem biD_all (a : D) : biD T st .all [a] = allR st a := (rfl)
@[simp] theorem biD_any (a : D) : biD T st .any [a] = anyR st a := (rfl)
theorem bools_map {α : Type} (f : α → Bool) : ∀ l : List α, bools? (l.map fun x => D.bl (f x)) = some (l.map f)
  | [] => rfl
  | x :: l => by simp [bools?, bools_map f l]
@[simp] theorem allR_map {α : Type} (f : α → Bool) (l : List α) : allR st (.lst (l.map fun x => D.bl (f x))) = some (.bl (l.all f)) := by
  simp [allR, bools_map]
@[simp] theorem anyR_map {α : Type} (f : α → Bool) (l : List α) : anyR st (.lst (l.map fun x => D.bl (f x))) = some (.bl (l.any f)) := by
  simp [anyR, bools_map]
@[simp] theorem all_tt {α : Type} (l : List α) : (l.all fun _ => true) = true := by simp
theorem has_of {c f : Nat} {k : ClsD} (h : T.clss.lookup c = some k) (hf : k.flds.contains f = true) : T.has c f = true := by
  unfold Tab.has
  rw [h]
  exact hf
theorem attrD_obj {c f : Nat} {k : ClsD} {ns : List Nat} {l : List D} (h : T.clss.lookup c = some k) (hf : k.flds.contains f = true) : attrD T st (.obj c ns l) f = lookA f ns l := by
  show (if T.has c f then lookA f ns l else none) = _
  rw [if_pos (has_of h hf)]
/-! ### classes -/
@[simp] theorem isiD_int_int (i : Int) : isiD T st (.int i) (.ty .int) = some true := (rfl)
@[simp] theorem isiD_int_bl (i : Int) : isiD T st (.int i) (.ty .bl) = some false := (rfl)
@[simp] theorem isiD_tup_tup (l : List D) : isiD T st (.tup l) (.ty .tup) = some true := (rfl)
@[simp] theorem isiD_tup_lst (l : List D) : isiD T st (.tup l) (.ty .lst) = some false := (rfl)
@[simp] theorem isiD_lst_lst (l : List D) : isiD T st (.lst l) (.ty .lst) = some true := (rfl)
@[simp] theorem isiD_lst_tup (l : List D) : isiD T st (.lst l) (.ty .tup) = some false := (rfl)
@[simp] theorem isiD_int_tup (i : Int) : isiD T st (.int i) (.ty .tup) = some false := (rfl)
@[simp] theorem isiD_int_lst (i : Int) : isiD T st (.int i) (.ty .lst) = some false := (rfl)
@[simp] theorem isiD_tup_int (l : List D) : isiD T st (.tup l) (.ty .int) = some false := (rfl)
@[simp] theorem isiD_tup_bl (l : List D) : isiD T st (.tup l) (.ty .bl) = some false := (rfl)
@[simp] theorem isiD_lst_int (l : List D) : isiD T st (.lst l) (.ty .int) = some false := (rfl)
@[simp] theorem isiD_str_str (s : Str) : isiD T st (.str s) (.ty .str) = some true := (rfl)
@[simp] theorem isiD_str_int (s : Str) : isiD T st (.str s) (.ty .int) = some false := (rfl)
@[simp] theorem isiD_str_lst (s : Str) : isiD T st (.str s) (.ty .lst) = some false := (rfl)
@[simp] theorem isiD_str_tup (s : Str) : isiD T st (.str s) (.ty .tup) = some false := (rfl)
@[simp] theorem isiD_non_int : isiD T st .non (.ty .int) = some false := (rfl)
@[simp] theorem isiD_non_lst : isiD T st .non (.ty .lst) = some false := (rfl)
@[simp] theorem isiD_non_tup : isiD T st .non (.ty .tup) = some false := (rfl)
@[simp] theorem isiTD_tup (l : List D) : isiTD T st (.tup l) [.ty .tup, .ty .lst] = some true := (rfl)
@[simp] theorem isiTD_lst (l : List D) : isiTD T st (.lst l) [.ty .tup, .ty .lst] = some true := (rfl)
@[simp] theorem isiTD_int (i : Int) : isiTD T st (.int i) [.ty .tup, .ty .lst] = some false := (rfl)
@[simp] theorem isiTD_str (s : Str) : isiTD T st (.str s) [.ty .tup, .ty .lst] = some false := (rfl)
@[simp] theorem isiTD_non : isiTD T st .non [.ty .tup, .ty .lst] = some false := (rfl)
@[simp] theorem isNon_tup (l : List D) : isNon (.tup l) = false := (rfl)
@[simp] theorem isNon_non : isNon .non = true := (rfl)
@[simp] theorem isNon_int (i : Int) : isNon (.int i) = false := (rfl)
@[simp] theorem getVar_zero (d : D) (ρ : Env') : getVar (some d :: ρ) 0 = some d := (rfl)
@[simp] theorem getVar_succ (x : Option D) (ρ : Env') (n : Nat) : getVar (x :: ρ) (n + 1) = getVar ρ n := (rfl)
@[simp] theorem lim_pos (n : Nat) (h : n ≤ 1000000 := by decide) : n ≤ LIM := h
end
/-! ### what is alike -/
structure EncOk {α : Type} [DecidableEq α] (enc : α → D) (k : Nat) : Prop where
  py : ∃ f : α → PyData, (∀ (st : Store) (n : Nat) (a : α), k ≤ n → toPy st n (enc a) = some (f a)) ∧ (∀ a, (f a).canLay0 = true ∧ (f a).depth ≤ k) ∧ ∀ a b, PyData.eqv (f a) (f b) = decide (a = b)
theorem EncOk.eq {α : Type} [DecidableEq α] {enc : α → D} {k : Nat} (h : EncOk enc k) (hk : k ≤ 12) (st : Store) (a b : α) : eqD st (enc a) (enc b) = some (decide (a = b)) := by
  obtain ⟨f, h1, h2, h3⟩ := h.py
  unfold eqD
  rw [h1 st 12 a hk, h1 st 12 b hk]
  have s : ∀ a, SeqAt.shaped (f a) = true := fun a => by
    simp only [SeqAt.shaped, Bool.and_eq_true, decide_eq_true_eq]
    exact ⟨(h2 a).1, by have := (h2 a).2; omega⟩
  simp [s a, s b, h3]
theorem eqD_str {st : Store} {a b : Str} (ha : PyData.strOk a = true) (hb : PyData.strOk b = true) : eqD st (.str a) (.str b) = some (decide (a = b)) := by
  have e1 : ∀ s : Str, toPy st 12 (.str s) = some (.str s) := fun s => rfl
  unfold eqD
  rw [e1, e1]
  by_cases h : a = b <;> simp [SeqAt.shaped, PyData.canLay0, PyData.depth, ha, hb, PyData.eqv, h]
theorem EncOk.int : EncOk D.int 0 := ⟨PyData.int, fun st n a h => by cases n <;> rfl, fun a => ⟨rfl, by simp [PyData.depth]⟩, fun a b => by simp only [PyData.eqv]; by_cases h : a = b <;> simp [h]⟩
theorem mapM_some {α β : Type} {f : α → Option β} {g : α → β} : ∀ {l : List α}, (∀ a ∈ l, f a = some (g a)) → l.mapM f = some (l.map g)
  | [], _ => rfl
  | a :: l, h => by
    rw [List.mapM_cons, h a List.mem_cons_self, mapM_some fun a ha => h a (List.mem_cons_of_mem _ ha)]
    rfl
theorem layAll {l : List PyData} (h : ∀ x ∈ l, x.canLay0 = true) : PyData.canLayAll0 l = true := by
  induction l with
  | nil => rfl
  | cons x l ih => simp [PyData.canLayAll0, h x List.mem_cons_self, ih fun y hy => h y (List.mem_cons_of_mem _ hy)]
theorem depthAll_le {l : List PyData} {k : Nat} (h : ∀ x ∈ l, x.depth ≤ k) : PyData.depthAll l ≤ k := by
  induction l with
  | nil => simp [PyData.depthAll]
  | cons x l ih =>
    have h1 := h x List.mem_cons_self
    have h2 := ih fun y hy => h y (List.mem_cons_of_mem _ hy)
    simp only [PyData.depthAll]; omega
theorem eqvAll_map {α : Type} [DecidableEq α] {f : α → PyData} (h : ∀ a b, PyData.eqv (f a) (f b) = decide (a = b)) : ∀ l m : List α, PyData.eqvAll (l.map f) (m.map f) = decide (l = m)
  | [], [] => rfl
  | [], _ :: _ => rfl
  | _ :: _, [] => rfl
  | a :: l, b :: m => by
    simp only [List.map_cons, PyData.eqvAll, h, eqvAll_map h l m]
    by_cases h1 : a = b <;> by_cases h2 : l = m <;> simp [h1, h2]
theorem EncOk.tup {α : Type} [DecidableEq α] {enc : α → D} {k : Nat} (h : EncOk enc k) : EncOk (fun l : List α => D.tup (l.map enc)) (k + 1) := by
  obtain ⟨f, h1, h2, h3⟩ := h.py
  refine ⟨fun l => .tuple (l.map f), fun st n l hn => ?_, fun l => ⟨?_, ?_⟩, fun l m => ?_⟩
  · obtain ⟨n, rfl⟩ : ∃ j, n = j + 1 := ⟨n - 1, by omega⟩
    simp only [toPy]
    rw [mapM_some (g := fun d => (toPy st n d).getD .none) (fun a ha => by
      obtain ⟨x, _, rfl⟩ := List.mem_map.mp ha
      rw [h1 st n x (by omega)]; rfl), List.map_map]
    simp only [Option.map_some]
    congr 2
    exact List.map_congr_left fun x _ => by simp [h1 st n x (by omega)]
  · simp only [PyData.canLay0]
    exact layAll fun x hx => by obtain ⟨y, _, rfl⟩ := List.mem_map.mp hx; exact (h2 y).1
  · simp only [PyData.depth]
    exact Nat.succ_le_succ (depthAll_le fun x hx => by obtain ⟨y, _, rfl⟩ := List.mem_map.mp hx; exact (h2 y).2)
  · simp only [PyData.eqv]; exact eqvAll_map h3 l m
theorem EncOk.lst {α : Type} [DecidableEq α] {enc : α → D} {k : Nat} (h : EncOk enc k) : EncOk (fun l : List α => D.lst (l.map enc)) (k + 1) := by
  obtain ⟨f, h1, h2, h3⟩ := h.py
  refine ⟨fun l => .list (l.map f), fun st n l hn => ?_, fun l => ⟨?_, ?_⟩, fun l m => ?_⟩
  · obtain ⟨n, rfl⟩ : ∃ j, n = j + 1 := ⟨n - 1, by omega⟩
    simp only [toPy]
    rw [mapM_some (g := fun d => (toPy st n d).getD .none) (fun a ha => by
      obtain ⟨x, _, rfl⟩ := List.mem_map.mp ha
      rw [h1 st n x (by omega)]; rfl), List.map_map]
    simp only [Option.map_some]
    congr 2
    exact List.map_congr_left fun x _ => by simp [h1 st n x (by omega)]
  · simp only [PyData.canLay0]
    exact layAll fun x hx => by obtain ⟨y, _, rfl⟩ := List.mem_map.mp hx; exact (h2 y).1
  · simp only [PyData.depth]
    exact Nat.succ_le_succ (depthAll_le fun x hx => by obtain ⟨y, _, rfl⟩ := List.mem_map.mp hx; exact (h2 y).2)
  · simp only [PyData.eqv]; exact eqvAll_map h3 l m
theorem EncOk.two {α β : Type} [DecidableEq α] [DecidableEq β] {e1 : α → D} {e2 : β → D} {k : Nat} (h : EncOk e1 k) (h' : EncOk e2 k) : EncOk (fun p : α × β => D.tup [e1 p.1, e2 p.2]) (k + 1) := by
  obtain ⟨f, h1, h2, h3⟩ := h.py
  obtain ⟨g, g1, g2, g3⟩ := h'.py
  refine ⟨fun p => .tuple [f p.1, g p.2], fun st n p hn => ?_, fun p => ⟨?_, ?_⟩, fun p q => ?_⟩
  · obtain ⟨n, rfl⟩ : ∃ j, n = j + 1 := ⟨n - 1, by omega⟩
    simp [toPy, h1 st n p.1 (by omega), g1 st n p.2 (by omega)]
  · simp [PyData.canLay0, PyData.canLayAll0, (h2 p.1).1, (g2 p.2).1]
  · have := (h2 p.1).2; have := (g2 p.2).2
    simp only [PyData.depth, PyData.depthAll]; omega
  · simp only [PyData.eqv, PyData.eqvAll, h3, g3, Bool.and_true]
    obtain ⟨a, b⟩ := p
    obtain ⟨c, d⟩ := q
    by_cases x1 : a = c <;> by_cases x2 : b = d <;> simp [x1, x2]
theorem EncOk.mono {α : Type} [DecidableEq α] {enc : α → D} {k k' : Nat} (h : EncOk enc k) (hk : k ≤ k') : EncOk enc k' := by
  obtain ⟨f, h1, h2, h3⟩ := h.py
  exact ⟨f, fun st n a hn => h1 st n a (by omega), fun a => ⟨(h2 a).1, Nat.le_trans (h2 a).2 hk⟩, h3⟩
/-- by another's eyes -/
theorem EncOk.comap {α β : Type} [DecidableEq α] [DecidableEq β] {enc : α → D} {k : Nat} (h : EncOk enc k) (i : β → α) (hi : ∀ a b, i a = i b → a = b) : EncOk (fun b => enc (i b)) k := by
  obtain ⟨f, h1, h2, h3⟩ := h.py
  refine ⟨fun b => f (i b), fun st n a hn => h1 st n _ hn, fun a => h2 _, fun a b => ?_⟩
  rw [h3]
  by_cases x : a = b
  · simp [x]
  · simp [x]; exact fun z => x (hi _ _ z)
theorem eqV_str (a b : Str) : eqV (.str a) (.str b) = decide (a = b) := by
  show (a == b) = _
  by_cases h : a = b <;> simp [h]
theorem inD_strs {st : Store} (a : Str) (l : List Str) : inD st (.str a) (.tup (l.map .str)) = some (l.any fun b => decide (b = a)) := by
  have e : (l.map D.str).mapM flatD = some (l.map V.str) := by
    rw [mapM_some (g := fun d => (flatD d).getD .non) (fun d hd => by obtain ⟨x, _, rfl⟩ := List.mem_map.mp hd; rfl), List.map_map]
    rfl
  have e1 : inD st (.str a) (.tup (l.map .str)) = match flatD (.str a), (l.map D.str).mapM flatD with
      | some x, some ys => some (inV x ys)
      | _, _ => inDeep (toPy st 12 (.str a)) ((l.map D.str).mapM (toPy st 12)) := rfl
  rw [e1, e]
  show some (inV (V.str a) (l.map V.str)) = _
  unfold inV
  rw [List.any_map]
  exact congrArg some (congrArg (fun f => l.any f) (funext fun b => eqV_str b a))
/-! ### ratios -/
def rt (q : Rat) : D := .tup [.int q.num, .int q.den]
theorem rt_ok : EncOk rt 1 := by
  refine (EncOk.two EncOk.int EncOk.int).comap (fun q : Rat => (q.num, (q.den : Int))) fun a b h => ?_
  simp only [Prod.mk.injEq] at h
  exact Rat.ext h.1 (by omega)
theorem rt_inj {a b : Rat} (h : rt a = rt b) : a = b := by
  simp only [rt, D.tup.injEq, List.cons.injEq, D.int.injEq] at h
  exact Rat.ext h.1 (by omega)
section
variable {st : Store} {T : Tab}
@[simp] theorem rt_eq (a b : Rat) : eqD st (rt a) (rt b) = some (decide (a = b)) := rt_ok.eq (by decide) st a b
@[simp] theorem int_eq (a b : Int) : eqD st (.int a) (.int b) = some (decide (a = b)) := EncOk.int.eq (by decide) st a b
@[simp] theorem rt_0 (a : Rat) : ixD st (rt a) (.int 0) = some (.int a.num) := by simp [rt]
@[simp] theorem rt_1 (a : Rat) : ixD st (rt a) (.int 1) = some (.int a.den) := by simp [rt]
@[simp] theorem rt_non (a : Rat) : isNon (rt a) = false := (rfl)
@[simp] theorem rt_isi_tup (a : Rat) : isiD T st (rt a) (.ty .tup) = some true := (rfl)
@[simp] theorem rt_isi_lst (a : Rat) : isiD T st (rt a) (.ty .lst) = some false := (rfl)
@[simp] theorem rt_isi_int (a : Rat) : isiD T st (rt a) (.ty .int) = some false := (rfl)
@[simp] theorem rt_isi_bl (a : Rat) : isiD T st (rt a) (.ty .bl) = some false := (rfl)
@[simp] theorem rt_isiT (a : Rat) : isiTD T st (rt a) [.ty .tup, .ty .lst] = some true := (rfl)
@[simp] theorem rt_len (a : Rat) : lenD st (rt a) = some 2 := (rfl)
@[simp] theorem rt_items (a : Rat) : items? st (rt a) = some [.int a.num, .int a.den] := (rfl)
end
theorem rt_lit (a b : Int) (q : Rat) (h : q.num = a ∧ (q.den : Int) = b) : D.tup [.int a, .int b] = rt q := by rw [← h.1, ← h.2]; rfl
theorem rt01 : D.tup [.int 0, .int 1] = rt 0 := rfl
theorem rt11 : D.tup [.int 1, .int 1] = rt 1 := rfl
theorem rt12 : D.tup [.int 1, .int 2] = rt (1 / 2) := rt_lit _ _ _ (by decide +kernel)
theorem rtInt (i : Int) : D.tup [.int i, .int 1] = rt (i : Rat) := rfl
theorem gcd_pos' {a b : Int} (hb : b ≠ 0) : (0 : Int) < (Nat.gcd a.natAbs b.natAbs : Nat) := by
  have := Nat.gcd_pos_of_pos_right a.natAbs (show 0 < b.natAbs by omega)
  omega
theorem rt_low {a b : Int} (hb : 0 < b) : D.tup [.int (a / (Nat.gcd a.natAbs b.natAbs : Nat)), .int (b / (Nat.gcd a.natAbs b.natAbs : Nat))] = rt (Rat.divInt a b) := by
  unfold rt
  rw [Rat.num_divInt, Rat.den_divInt, if_neg (by omega), Int.sign_eq_one_of_pos hb, Int.one_mul]
  have e : b.gcd a = Nat.gcd a.natAbs b.natAbs := by rw [Int.gcd_comm]; rfl
  rw [e]
  congr 3
  rw [Int.natCast_ediv, Int.natAbs_of_nonneg (by omega)]
theorem bl_gcd {a b : Int} (hb : b ≠ 0) : bl ((Nat.gcd a.natAbs b.natAbs : Nat) : Int).natAbs ≤ bl b.natAbs := by
  rw [Int.natAbs_natCast]
  exact bl_mono (Nat.gcd_le_right _ (by omega))
end G

set_option linter.all false
set_option maxRecDepth 100000
namespace G
open PySem L2
abbrev a_rows : Nat := 69
abbrev a_unknowns : Nat := 87
abbrev a_rules : Nat := 70
abbrev a_costs : Nat := 12
abbrev a_asks : Nat := 4
abbrev a_coefs : Nat := 9
abbrev k_Model : Nat := 14
abbrev kc_Model : ClsD := ⟨(some 22), [], [4, 12, 70, 87], true⟩
abbrev k_Oblong : Nat := 19
abbrev kc_Oblong : ClsD := ⟨none, [], [], true⟩
abbrev k_Regular : Nat := 25
abbrev kc_Regular : ClsD := ⟨none, [], [], true⟩
abbrev k_Singular : Nat := 27
abbrev kc_Singular : ClsD := ⟨(some 97), [], [9], true⟩
abbrev k_Inverse : Nat := 9
abbrev kc_Inverse : ClsD := ⟨(some 13), [], [69], true⟩
abbrev i_copied : Nat := 602
/-- copied(value) depth 1 -/
def c_copied : List S :=
  [.ret (.ite (.bi .isinstance [.var 0, .lit (.ty .lst)]) (.bi .tuple [.var 0]) (.var 0))]
def d_copied : FnD := ⟨1, 0, c_copied, true⟩
structure H_copied (T : Tab) : Prop where
  look : T.fns.lookup i_copied = some d_copied
abbrev i_Inverse___init__ : Nat := 13
/-- Inverse___init__(self, rows) depth 2 -/
def c_Inverse___init__ : List S :=
  [.asg (.attr (.var 0) a_rows) (.call i_copied [.var 1])]
def d_Inverse___init__ : FnD := ⟨2, 0, c_Inverse___init__, true⟩
structure H_Inverse___init__ (T : Tab) : Prop where
  look : T.fns.lookup i_Inverse___init__ = some d_Inverse___init__
  c_copied : H_copied T
abbrev i_Model___init__ : Nat := 22
/-- Model___init__(self, unknowns, rules, costs, asks) depth 2 -/
def c_Model___init__ : List S :=
  [.asg (.attr (.var 0) a_unknowns) (.call i_copied [.var 1]), .asg (.attr (.var 0) a_rules) (.call i_copied [.var 2]), .asg (.attr (.var 0) a_costs) (.call i_copied [.var 3]), .asg (.attr (.var 0) a_asks) (.call i_copied [.var 4])]
def d_Model___init__ : FnD := ⟨5, 0, c_Model___init__, true⟩
structure H_Model___init__ (T : Tab) : Prop where
  look : T.fns.lookup i_Model___init__ = some d_Model___init__
  c_copied : H_copied T
abbrev i_Singular___init__ : Nat := 97
/-- Singular___init__(self, coefs) depth 2 -/
def c_Singular___init__ : List S :=
  [.asg (.attr (.var 0) a_coefs) (.call i_copied [.var 1])]
def d_Singular___init__ : FnD := ⟨2, 0, c_Singular___init__, true⟩
structure H_Singular___init__ (T : Tab) : Prop where
  look : T.fns.lookup i_Singular___init__ = some d_Singular___init__
  c_copied : H_copied T
abbrev i__law_gcd : Nat := 308
/-- _law_gcd(one, two, lap) depth 1 -/
def c__law_gcd : List S :=
  [.par [0, 1] [.bi .abs [.var 0], .bi .abs [.var 1]], .for_ (.nm 2) .range [.bin .Add (.lit (.int 4)) (.bin .Mult (.lit (.int 2)) (.bm (.bi .int [.var 1]) .bitLength []))] [.ite (.cmp .Eq (.var 1) (.lit (.int 0))) [.brk] [], .par [0, 1] [.var 1, .bin .Mod (.bi .int [.var 0]) (.var 1)]], .ret (.var 0)]
def d__law_gcd : FnD := ⟨2, 1, c__law_gcd, true⟩
structure H__law_gcd (T : Tab) : Prop where
  look : T.fns.lookup i__law_gcd = some d__law_gcd
abbrev i__law_is_int : Nat := 325
/-- _law_is_int(thing) depth 1 -/
def c__law_is_int : List S :=
  [.ret (.and (.bi .isinstance [.var 0, .lit (.ty .int)]) (.not (.bi .isinstance [.var 0, .lit (.ty .bl)])))]
def d__law_is_int : FnD := ⟨1, 0, c__law_is_int, true⟩
structure H__law_is_int (T : Tab) : Prop where
  look : T.fns.lookup i__law_is_int = some d__law_is_int
abbrev i__law_is_told : Nat := 340
/-- _law_is_told(thing) depth 2 -/
def c__law_is_told : List S :=
  [.ite (.or (.not (.bi .isinstance [.var 0, .lit (.ty .tup)])) (.or (.cmp .NotEq (.bi .len [.var 0]) (.lit (.int 2))) (.or (.not (.call i__law_is_int [.ix (.var 0) (.lit (.int 0))])) (.not (.call i__law_is_int [.ix (.var 0) (.lit (.int 1))]))))) [.ret (.lit (.bl false))] [], .ret (.and (.cmp .Gt (.ix (.var 0) (.lit (.int 1))) (.lit (.int 0))) (.cmp .Eq (.call i__law_gcd [.ix (.var 0) (.lit (.int 0)), .ix (.var 0) (.lit (.int 1))]) (.lit (.int 1))))]
def d__law_is_told : FnD := ⟨1, 0, c__law_is_told, true⟩
structure H__law_is_told (T : Tab) : Prop where
  look : T.fns.lookup i__law_is_told = some d__law_is_told
  c__law_gcd : H__law_gcd T
  c__law_is_int : H__law_is_int T
abbrev i__law_is_row : Nat := 336
/-- _law_is_row(thing, long, item) depth 3 -/
def c__law_is_row : List S :=
  [.ret (.and (.bi .isinstance [.var 0, .lit (.ty .tup)]) (.and (.cmp .Eq (.bi .len [.var 0]) (.var 1)) (.bi .all [.lc false [2] (.call i__law_is_told [.var 2]) (.nm 2) .one [.var 0] []])))]
def d__law_is_row : FnD := ⟨2, 1, c__law_is_row, true⟩
structure H__law_is_row (T : Tab) : Prop where
  look : T.fns.lookup i__law_is_row = some d__law_is_row
  c__law_is_told : H__law_is_told T
abbrev i__law_less : Nat := 359
/-- _law_less(one, two) depth 1 -/
def c__law_less : List S :=
  [.ret (.cmp .Lt (.bin .Mult (.ix (.var 0) (.lit (.int 0))) (.ix (.var 1) (.lit (.int 1)))) (.bin .Mult (.ix (.var 1) (.lit (.int 0))) (.ix (.var 0) (.lit (.int 1)))))]
def d__law_less : FnD := ⟨2, 0, c__law_less, true⟩
structure H__law_less (T : Tab) : Prop where
  look : T.fns.lookup i__law_less = some d__law_less
abbrev i__law_within : Nat := 533
/-- _law_within(item, span) depth 3 -/
def c__law_within : List S :=
  [.ret (.and (.call i__law_is_told [.var 0]) (.and (.not (.call i__law_less [.var 0, .ix (.var 1) (.lit (.int 0))])) (.not (.call i__law_less [.ix (.var 1) (.lit (.int 1)), .var 0]))))]
def d__law_within : FnD := ⟨2, 0, c__law_within, true⟩
structure H__law_within (T : Tab) : Prop where
  look : T.fns.lookup i__law_within = some d__law_within
  c__law_is_told : H__law_is_told T
  c__law_less : H__law_less T
abbrev i__law_are_within : Nat := 126
/-- _law_are_within(rows, spans, row, some, item, span) depth 4 -/
def c__law_are_within : List S :=
  [.ite (.or (.not (.bi .isinstance [.var 0, .lit (.ty .tup)])) (.cmp .NotEq (.bi .len [.var 0]) (.bi .len [.var 1]))) [.ret (.lit (.bl false))] [], .ret (.bi .all [.lc false [2, 3] (.and (.call i__law_is_row [.var 2, .bi .len [.var 3]]) (.bi .all [.lc false [4, 5] (.call i__law_within [.var 4, .var 5]) (.tup [.nm 4, .nm 5]) .zip [.var 2, .var 3] []])) (.tup [.nm 2, .nm 3]) .zip [.var 0, .var 1] []])]
def d__law_are_within : FnD := ⟨2, 4, c__law_are_within, true⟩
structure H__law_are_within (T : Tab) : Prop where
  look : T.fns.lookup i__law_are_within = some d__law_are_within
  c__law_is_row : H__law_is_row T
  c__law_within : H__law_within T
abbrev i__law_draw : Nat := 287
/-- _law_draw(pen, many, cell, digit, blend) depth 1 -/
def c__law_draw : List S :=
  [.asg (.sub (.var 0) (.lit (.str "count"))) (.bin .Add (.ix (.var 0) (.lit (.str "count"))) (.lit (.int 1))), .ite (.and (.cmp .Eq (.ix (.var 0) (.lit (.str "digits"))) (.lit (.int 0))) (.cmp .Lt (.ix (.var 0) (.lit (.str "at"))) (.bi .len [.ix (.var 0) (.lit (.str "cells"))]))) [.asg (.nm 2) (.ix (.ix (.var 0) (.lit (.str "cells"))) (.ix (.var 0) (.lit (.str "at")))), .asg (.sub (.var 0) (.lit (.str "at"))) (.bin .Add (.ix (.var 0) (.lit (.str "at"))) (.lit (.int 1))), .ite (.cmp .GtE (.var 2) (.bin .Pow (.lit (.int 10)) (.lit (.int 18)))) [.asg (.sub (.var 0) (.lit (.str "digits"))) (.bin .Sub (.var 2) (.bin .Pow (.lit (.int 10)) (.lit (.int 18))))] [.asg (.sub (.var 0) (.lit (.str "fold"))) (.bin .Mod (.bi .int [.bin .Add (.bin .Mult (.ix (.var 0) (.lit (.str "fold"))) (.lit (.int 31013))) (.var 2)]) (.lit (.int 2147482909)))]] [], .ite (.cmp .Gt (.ix (.var 0) (.lit (.str "digits"))) (.lit (.int 0))) [.asg (.nm 3) (.bin .Mod (.bi .int [.ix (.var 0) (.lit (.str "digits"))]) (.var 1)), .asg (.sub (.var 0) (.lit (.str "digits"))) (.bin .FloorDiv (.ix (.var 0) (.lit (.str "digits"))) (.var 1)), .ret (.var 3)] [], .asg (.nm 4) (.bin .Add (.bin .Add (.ix (.var 0) (.lit (.str "fold"))) (.bin .Mult (.ix (.var 0) (.lit (.str "count"))) (.lit (.int 6317)))) (.lit (.int 191))), .ret (.bin .Mod (.bin .FloorDiv (.bi .int [.bin .Mod (.bin .Pow (.var 4) (.lit (.int 53))) (.lit (.int 2305843009213693951))]) (.lit (.int 2048))) (.var 1))]
def d__law_draw : FnD := ⟨2, 3, c__law_draw, true⟩
structure H__law_draw (T : Tab) : Prop where
  look : T.fns.lookup i__law_draw = some d__law_draw
abbrev i__law_pick : Nat := 402
/-- _law_pick(pen, some) depth 2 -/
def c__law_pick : List S :=
  [.ret (.ix (.var 1) (.call i__law_draw [.var 0, .bi .len [.var 1]]))]
def d__law_pick : FnD := ⟨2, 0, c__law_pick, true⟩
structure H__law_pick (T : Tab) : Prop where
  look : T.fns.lookup i__law_pick = some d__law_pick
  c__law_draw : H__law_draw T
abbrev i__law_q : Nat := 419
/-- _law_q(top, bottom, by) depth 2 -/
def c__law_q : List S :=
  [.asg (.nm 2) (.call i__law_gcd [.var 0, .var 1]), .asg (.nm 2) (.ite (.cmp .Lt (.var 1) (.lit (.int 0))) (.neg (.var 2)) (.var 2)), .ret (.tup [.bin .FloorDiv (.var 0) (.var 2), .bin .FloorDiv (.var 1) (.var 2)])]
def d__law_q : FnD := ⟨2, 1, c__law_q, true⟩
structure H__law_q (T : Tab) : Prop where
  look : T.fns.lookup i__law_q = some d__law_q
  c__law_gcd : H__law_gcd T
abbrev i__law_plus : Nat := 408
/-- _law_plus(one, two) depth 3 -/
def c__law_plus : List S :=
  [.ret (.call i__law_q [.bin .Add (.bin .Mult (.ix (.var 0) (.lit (.int 0))) (.ix (.var 1) (.lit (.int 1)))) (.bin .Mult (.ix (.var 1) (.lit (.int 0))) (.ix (.var 0) (.lit (.int 1)))), .bin .Mult (.ix (.var 0) (.lit (.int 1))) (.ix (.var 1) (.lit (.int 1)))])]
def d__law_plus : FnD := ⟨2, 0, c__law_plus, true⟩
structure H__law_plus (T : Tab) : Prop where
  look : T.fns.lookup i__law_plus = some d__law_plus
  c__law_q : H__law_q T
abbrev i__law_span : Nat := 477
/-- _law_span(pen, wide, low) depth 4 -/
def c__law_span : List S :=
  [.asg (.nm 2) (.call i__law_q [.bin .Sub (.call i__law_draw [.var 0, .lit (.int 7)]) (.lit (.int 3)), .call i__law_pick [.var 0, .lst false [.lit (.int 1), .lit (.int 1), .lit (.int 2)]]]), .ret (.tup [.var 2, .call i__law_plus [.var 2, .ite (.var 1) (.call i__law_pick [.var 0, .lst false [.tup [.lit (.int 0), .lit (.int 1)], .tup [.lit (.int 0), .lit (.int 1)], .tup [.lit (.int 1), .lit (.int 2)], .tup [.lit (.int 1), .lit (.int 1)], .tup [.lit (.int 2), .lit (.int 1)]]]) (.tup [.lit (.int 0), .lit (.int 1)])]])]
def d__law_span : FnD := ⟨2, 1, c__law_span, true⟩
structure H__law_span (T : Tab) : Prop where
  look : T.fns.lookup i__law_span = some d__law_span
  c__law_draw : H__law_draw T
  c__law_pick : H__law_pick T
  c__law_plus : H__law_plus T
  c__law_q : H__law_q T
abbrev i__law_rule : Nat := 441
/-- _law_rule(pen, name, size, equal, kind, k) depth 5 -/
def c__law_rule : List S :=
  [.asg (.nm 4) (.ite (.cmp .Is (.var 3) (.lit (.non))) (.call i__law_pick [.var 0, .lst false [.lit (.str "is"), .lit (.str "is"), .lit (.str "most")]]) (.var 3)), .ret (.tup [.var 1, .bi .tuple [.lc false [5] (.call i__law_span [.var 0, .lit (.bl true)]) (.nm 5) .range [.var 2] []], .var 4, .call i__law_span [.var 0, .lit (.bl true)]])]
def d__law_rule : FnD := ⟨4, 2, c__law_rule, true⟩
structure H__law_rule (T : Tab) : Prop where
  look : T.fns.lookup i__law_rule = some d__law_rule
  c__law_pick : H__law_pick T
  c__law_span : H__law_span T
abbrev i__law_some_ask : Nat := 472
/-- _law_some_ask(pen, book, word, kind) depth 3 -/
def c__law_some_ask : List S :=
  [.asg (.nm 2) (.call i__law_pick [.var 0, .lst false [.lit (.str "some"), .lit (.str "held"), .lit (.str "bears"), .lit (.str "steers"), .lit (.str "each"), .lit (.str "regular"), .lit (.str "inverse"), .lit (.str "range"), .lit (.str "range"), .lit (.str "least"), .lit (.str "worst")]]), .asg (.nm 3) (.call i__law_pick [.var 0, .lst false [.lit (.str "some"), .lit (.str "some"), .lit (.str "held"), .lit (.str "bears"), .lit (.str "steers")]]), .ite (.cmp .Eq (.var 2) (.lit (.str "range"))) [.ret (.tup [.var 2, .call i__law_draw [.var 0, .bi .len [.ix (.var 1) (.lit (.str "unknowns"))]], .var 3])] [], .ite (.and (.cmp .Eq (.var 2) (.lit (.str "least"))) (.cmp .NotEq (.ix (.var 1) (.lit (.str "costs"))) (.lst false []))) [.ret (.tup [.var 2, .call i__law_draw [.var 0, .bi .len [.ix (.var 1) (.lit (.str "costs"))]], .var 3])] [], .ite (.and (.cmp .Eq (.var 2) (.lit (.str "worst"))) (.cmp .NotEq (.ix (.var 1) (.lit (.str "costs"))) (.lst false []))) [.ret (.tup [.var 2, .call i__law_draw [.var 0, .bi .len [.ix (.var 1) (.lit (.str "costs"))]]])] [], .ret (.ite (.cmp .NotIn (.var 2) (.tup [.lit (.str "least"), .lit (.str "worst")])) (.tup [.var 2]) (.tup [.lit (.str "some")]))]
def d__law_some_ask : FnD := ⟨2, 2, c__law_some_ask, true⟩
structure H__law_some_ask (T : Tab) : Prop where
  look : T.fns.lookup i__law_some_ask = some d__law_some_ask
  c__law_draw : H__law_draw T
  c__law_pick : H__law_pick T
abbrev i__law_book : Nat := 142
/-- _law_book(pen, size, many, most, names, rules, costs, book, k, name) depth 6 -/
def c__law_book : List S :=
  [.asg (.nm 4) (.bi .tuple [.lc false [8] (.bin .Add (.lit (.str "x")) (.bi .str [.var 8])) (.nm 8) .range [.bin .Add (.lit (.int 1)) (.call i__law_draw [.var 0, .var 1])] []]), .asg (.nm 5) (.lc false [8] (.call i__law_rule [.var 0, .bin .Add (.lit (.str "r")) (.bi .str [.var 8]), .bi .len [.var 4], .lit (.non)]) (.nm 8) .range [.bin .Add (.lit (.int 1)) (.call i__law_draw [.var 0, .var 2])] []), .asg (.nm 6) (.lc false [8] (.tup [.bin .Add (.lit (.str "c")) (.bi .str [.var 8]), .bi .tuple [.lc false [9] (.call i__law_span [.var 0, .lit (.bl true)]) (.nm 9) .one [.var 4] []]]) (.nm 8) .range [.call i__law_draw [.var 0, .lit (.int 2)]] []), .asg (.nm 7) (.dct true [.inr "unknowns", .inr "rules", .inr "costs", .inr "asks"] [.var 4, .var 5, .var 6, .lst false []]), .asg (.sub (.var 7) (.lit (.str "asks"))) (.lc false [8] (.call i__law_some_ask [.var 0, .var 7]) (.nm 8) .range [.bin .Add (.lit (.int 1)) (.call i__law_draw [.var 0, .var 3])] []), .ret (.var 7)]
def d__law_book : FnD := ⟨4, 6, c__law_book, true⟩
structure H__law_book (T : Tab) : Prop where
  look : T.fns.lookup i__law_book = some d__law_book
  c__law_draw : H__law_draw T
  c__law_rule : H__law_rule T
  c__law_some_ask : H__law_some_ask T
  c__law_span : H__law_span T
abbrev i__law_built : Nat := 148
/-- _law_built(book) depth 3 -/
def c__law_built : List S :=
  [.ret (.mk k_Model [.bi .tuple [.ix (.var 0) (.lit (.str "unknowns"))], .bi .tuple [.ix (.var 0) (.lit (.str "rules"))], .bi .tuple [.ix (.var 0) (.lit (.str "costs"))], .bi .tuple [.ix (.var 0) (.lit (.str "asks"))]])]
def d__law_built : FnD := ⟨1, 0, c__law_built, true⟩
structure H__law_built (T : Tab) : Prop where
  look : T.fns.lookup i__law_built = some d__law_built
  c_Model___init__ : H_Model___init__ T
  k_Model : T.clss.lookup k_Model = some kc_Model
abbrev i__law_sum : Nat := 493
/-- _law_sum(items, found, item) depth 4 -/
def c__law_sum : List S :=
  [.asg (.nm 1) (.tup [.lit (.int 0), .lit (.int 1)]), .for_ (.nm 2) .one [.var 0] [.asg (.nm 1) (.call i__law_plus [.var 1, .var 2])], .ret (.var 1)]
def d__law_sum : FnD := ⟨1, 2, c__law_sum, true⟩
structure H__law_sum (T : Tab) : Prop where
  look : T.fns.lookup i__law_sum = some d__law_sum
  c__law_plus : H__law_plus T
abbrev i__law_times : Nat := 497
/-- _law_times(one, two) depth 3 -/
def c__law_times : List S :=
  [.ret (.call i__law_q [.bin .Mult (.ix (.var 0) (.lit (.int 0))) (.ix (.var 1) (.lit (.int 0))), .bin .Mult (.ix (.var 0) (.lit (.int 1))) (.ix (.var 1) (.lit (.int 1)))])]
def d__law_times : FnD := ⟨2, 0, c__law_times, true⟩
structure H__law_times (T : Tab) : Prop where
  look : T.fns.lookup i__law_times = some d__law_times
  c__law_q : H__law_q T
abbrev i__law_dot : Nat := 286
/-- _law_dot(one, other, a, b) depth 5 -/
def c__law_dot : List S :=
  [.ret (.call i__law_sum [.lc false [2, 3] (.call i__law_times [.var 2, .var 3]) (.tup [.nm 2, .nm 3]) .zip [.var 0, .var 1] []])]
def d__law_dot : FnD := ⟨2, 2, c__law_dot, true⟩
structure H__law_dot (T : Tab) : Prop where
  look : T.fns.lookup i__law_dot = some d__law_dot
  c__law_sum : H__law_sum T
  c__law_times : H__law_times T
abbrev i__law_ratio : Nat := 426
/-- _law_ratio(pen, most) depth 3 -/
def c__law_ratio : List S :=
  [.ret (.call i__law_q [.bin .Sub (.call i__law_draw [.var 0, .bin .Add (.bin .Mult (.lit (.int 2)) (.var 1)) (.lit (.int 1))]) (.var 1), .call i__law_pick [.var 0, .lst false [.lit (.int 1), .lit (.int 1), .lit (.int 1), .lit (.int 2), .lit (.int 3)]]])]
def d__law_ratio : FnD := ⟨2, 0, c__law_ratio, true⟩
structure H__law_ratio (T : Tab) : Prop where
  look : T.fns.lookup i__law_ratio = some d__law_ratio
  c__law_draw : H__law_draw T
  c__law_pick : H__law_pick T
  c__law_q : H__law_q T
abbrev i__law_free_span : Nat := 306
/-- _law_free_span(pen, low) depth 4 -/
def c__law_free_span : List S :=
  [.asg (.nm 1) (.call i__law_ratio [.var 0, .lit (.int 4)]), .ret (.tup [.var 1, .call i__law_plus [.var 1, .call i__law_pick [.var 0, .lst false [.tup [.lit (.int 0), .lit (.int 1)], .tup [.lit (.int 1), .lit (.int 2)], .tup [.lit (.int 1), .lit (.int 1)], .tup [.lit (.int 5), .lit (.int 3)], .tup [.lit (.int 4), .lit (.int 1)]]]]])]
def d__law_free_span : FnD := ⟨1, 1, c__law_free_span, true⟩
structure H__law_free_span (T : Tab) : Prop where
  look : T.fns.lookup i__law_free_span = some d__law_free_span
  c__law_pick : H__law_pick T
  c__law_plus : H__law_plus T
  c__law_ratio : H__law_ratio T
abbrev i__law_minus : Nat := 373
/-- _law_minus(one, two) depth 3 -/
def c__law_minus : List S :=
  [.ret (.call i__law_q [.bin .Sub (.bin .Mult (.ix (.var 0) (.lit (.int 0))) (.ix (.var 1) (.lit (.int 1)))) (.bin .Mult (.ix (.var 1) (.lit (.int 0))) (.ix (.var 0) (.lit (.int 1)))), .bin .Mult (.ix (.var 0) (.lit (.int 1))) (.ix (.var 1) (.lit (.int 1)))])]
def d__law_minus : FnD := ⟨2, 0, c__law_minus, true⟩
structure H__law_minus (T : Tab) : Prop where
  look : T.fns.lookup i__law_minus = some d__law_minus
  c__law_q : H__law_q T
abbrev i__law_in_span : Nat := 318
/-- _law_in_span(pen, span, share) depth 4 -/
def c__law_in_span : List S :=
  [.asg (.nm 2) (.call i__law_pick [.var 0, .lst false [.tup [.lit (.int 0), .lit (.int 1)], .tup [.lit (.int 1), .lit (.int 1)], .tup [.lit (.int 1), .lit (.int 2)], .tup [.lit (.int 1), .lit (.int 3)], .tup [.lit (.int 3), .lit (.int 4)]]]), .ret (.call i__law_plus [.ix (.var 1) (.lit (.int 0)), .call i__law_times [.var 2, .call i__law_minus [.ix (.var 1) (.lit (.int 1)), .ix (.var 1) (.lit (.int 0))]]])]
def d__law_in_span : FnD := ⟨2, 1, c__law_in_span, true⟩
structure H__law_in_span (T : Tab) : Prop where
  look : T.fns.lookup i__law_in_span = some d__law_in_span
  c__law_minus : H__law_minus T
  c__law_pick : H__law_pick T
  c__law_plus : H__law_plus T
  c__law_times : H__law_times T
abbrev i__law_table : Nat := 495
/-- _law_table(book, name, row, kind, right) depth 1 -/
def c__law_table : List S :=
  [.ret (.lc false [1, 2, 3, 4] (.var 2) (.tup [.nm 1, .nm 2, .nm 3, .nm 4]) .one [.ix (.var 0) (.lit (.str "rules"))] [.cmp .Eq (.var 3) (.lit (.str "is"))])]
def d__law_table : FnD := ⟨1, 4, c__law_table, true⟩
structure H__law_table (T : Tab) : Prop where
  look : T.fns.lookup i__law_table = some d__law_table
abbrev i__law_is_oblong : Nat := 329
/-- _law_is_oblong(book) depth 2 -/
def c__law_is_oblong : List S :=
  [.ret (.cmp .NotEq (.bi .len [.call i__law_table [.var 0]]) (.bi .len [.ix (.var 0) (.lit (.str "unknowns"))]))]
def d__law_is_oblong : FnD := ⟨1, 0, c__law_is_oblong, true⟩
structure H__law_is_oblong (T : Tab) : Prop where
  look : T.fns.lookup i__law_is_oblong = some d__law_is_oblong
  c__law_table : H__law_table T
abbrev i__law_sends_to_zero : Nat := 454
/-- _law_sends_to_zero(coefs, row, own) depth 6 -/
def c__law_sends_to_zero : List S :=
  [.ret (.not (.bi .any [.lc false [2] (.cmp .NotEq (.call i__law_dot [.var 2, .var 1]) (.tup [.lit (.int 0), .lit (.int 1)])) (.nm 2) .one [.var 0] []]))]
def d__law_sends_to_zero : FnD := ⟨2, 1, c__law_sends_to_zero, true⟩
structure H__law_sends_to_zero (T : Tab) : Prop where
  look : T.fns.lookup i__law_sends_to_zero = some d__law_sends_to_zero
  c__law_dot : H__law_dot T
abbrev i__law_is_regular_told : Nat := 335
/-- _law_is_regular_told(book, value, table, many, item) depth 7 -/
def c__law_is_regular_told : List S :=
  [.ite (.or (.not (.bi .isinstance [.var 1, .lit (.ty .tup)])) (.cmp .NotEq (.bi .len [.var 1]) (.lit (.int 2)))) [.ret (.lit (.bl false))] [], .par [2, 3] [.call i__law_table [.var 0], .bi .len [.ix (.var 0) (.lit (.str "unknowns"))]], .ite (.bi .isinstance [.ix (.var 1) (.lit (.int 0)), .lit (.cls k_Oblong)]) [.ret (.and (.cmp .Is (.ix (.var 1) (.lit (.int 1))) (.lit (.non))) (.call i__law_is_oblong [.var 0]))] [], .ite (.call i__law_is_oblong [.var 0]) [.ret (.lit (.bl false))] [], .ite (.bi .isinstance [.ix (.var 1) (.lit (.int 0)), .lit (.cls k_Regular)]) [.ret (.and (.cmp .Is (.ix (.var 1) (.lit (.int 1))) (.lit (.non))) (.call 334 [.var 2]))] [], .ite (.or (.not (.bi .isinstance [.ix (.var 1) (.lit (.int 0)), .lit (.cls k_Singular)])) (.or (.not (.call i__law_are_within [.attr (.ix (.var 1) (.lit (.int 0))) a_coefs, .var 2])) (.not (.call i__law_is_row [.ix (.var 1) (.lit (.int 1)), .var 3])))) [.ret (.lit (.bl false))] [], .ret (.and (.bi .any [.lc false [4] (.cmp .NotEq (.ix (.var 4) (.lit (.int 0))) (.lit (.int 0))) (.nm 4) .one [.ix (.var 1) (.lit (.int 1))] []]) (.call i__law_sends_to_zero [.attr (.ix (.var 1) (.lit (.int 0))) a_coefs, .ix (.var 1) (.lit (.int 1))]))]
def d__law_is_regular_told : FnD := ⟨2, 3, c__law_is_regular_told, true⟩
structure H__law_is_regular_told (T : Tab) : Prop where
  look : T.fns.lookup i__law_is_regular_told = some d__law_is_regular_told
  c__law_are_within : H__law_are_within T
  c__law_is_oblong : H__law_is_oblong T
  c__law_is_row : H__law_is_row T
  c__law_sends_to_zero : H__law_sends_to_zero T
  c__law_table : H__law_table T
abbrev i__law_less_times : Nat := 361
/-- _law_less_times(row, lead, k, by, a, b) depth 4 -/
def c__law_less_times : List S :=
  [.asg (.nm 3) (.ix (.var 0) (.var 2)), .ite (.cmp .Eq (.ix (.var 3) (.lit (.int 0))) (.lit (.int 0))) [.ret (.var 0)] [], .ret (.lc false [4, 5] (.ite (.cmp .NotEq (.ix (.var 5) (.lit (.int 0))) (.lit (.int 0))) (.call i__law_minus [.var 4, .call i__law_times [.var 3, .var 5]]) (.var 4)) (.tup [.nm 4, .nm 5]) .zip [.var 0, .var 1] [])]
def d__law_less_times : FnD := ⟨3, 3, c__law_less_times, true⟩
structure H__law_less_times (T : Tab) : Prop where
  look : T.fns.lookup i__law_less_times = some d__law_less_times
  c__law_minus : H__law_minus T
  c__law_times : H__law_times T
abbrev i__law_middle : Nat := 372
/-- _law_middle(span) depth 4 -/
def c__law_middle : List S :=
  [.ret (.call i__law_times [.call i__law_plus [.ix (.var 0) (.lit (.int 0)), .ix (.var 0) (.lit (.int 1))], .tup [.lit (.int 1), .lit (.int 2)]])]
def d__law_middle : FnD := ⟨1, 0, c__law_middle, true⟩
structure H__law_middle (T : Tab) : Prop where
  look : T.fns.lookup i__law_middle = some d__law_middle
  c__law_plus : H__law_plus T
  c__law_times : H__law_times T
abbrev i__law_with : Nat := 528
/-- _law_with(book, word, thing, found) depth 1 -/
def c__law_with : List S :=
  [.asg (.nm 3) (.biM .dict [.var 0]), .asg (.sub (.var 3) (.var 1)) (.var 2), .ret (.var 3)]
def d__law_with : FnD := ⟨3, 1, c__law_with, true⟩
structure H__law_with (T : Tab) : Prop where
  look : T.fns.lookup i__law_with = some d__law_with
abbrev i_below : Nat := 573
/-- below(one, other) depth 1 -/
def c_below : List S :=
  [.ret (.cmp .Lt (.bin .Mult (.ix (.var 0) (.lit (.int 0))) (.ix (.var 1) (.lit (.int 1)))) (.bin .Mult (.ix (.var 1) (.lit (.int 0))) (.ix (.var 0) (.lit (.int 1)))))]
def d_below : FnD := ⟨2, 0, c_below, true⟩
structure H_below (T : Tab) : Prop where
  look : T.fns.lookup i_below = some d_below
abbrev i_in_tuples : Nat := 661
/-- in_tuples(value, item) depth 1 -/
def c_in_tuples : List S :=
  [.ite (.not (.isiT (.var 0) [.lit (.ty .tup), .lit (.ty .lst)])) [.ret (.var 0)] [], .ret (.bi .tuple [.lc false [1] (.call i_in_tuples [.var 1]) (.nm 1) .one [.var 0] []])]
def d_in_tuples : FnD := ⟨1, 1, c_in_tuples, true⟩
structure H_in_tuples (T : Tab) : Prop where
  look : T.fns.lookup i_in_tuples = some d_in_tuples
abbrev i_is_whole : Nat := 783
/-- is_whole(value) depth 1 -/
def c_is_whole : List S :=
  [.ret (.and (.bi .isinstance [.var 0, .lit (.ty .int)]) (.not (.bi .isinstance [.var 0, .lit (.ty .bl)])))]
def d_is_whole : FnD := ⟨1, 0, c_is_whole, true⟩
structure H_is_whole (T : Tab) : Prop where
  look : T.fns.lookup i_is_whole = some d_is_whole
abbrev i_is_pair : Nat := 727
/-- is_pair(value) depth 2 -/
def c_is_pair : List S :=
  [.ite (.or (.not (.isiT (.var 0) [.lit (.ty .tup), .lit (.ty .lst)])) (.cmp .NotEq (.bi .len [.var 0]) (.lit (.int 2)))) [.ret (.lit (.bl false))] [], .ret (.and (.call i_is_whole [.ix (.var 0) (.lit (.int 0))]) (.and (.call i_is_whole [.ix (.var 0) (.lit (.int 1))]) (.cmp .Gt (.ix (.var 0) (.lit (.int 1))) (.lit (.int 0)))))]
def d_is_pair : FnD := ⟨1, 0, c_is_pair, true⟩
structure H_is_pair (T : Tab) : Prop where
  look : T.fns.lookup i_is_pair = some d_is_pair
  c_is_whole : H_is_whole T
abbrev i_is_ratio : Nat := 742
/-- is_ratio(value) depth 3 -/
def c_is_ratio : List S :=
  [.ret (.or (.call i_is_whole [.var 0]) (.and (.bi .isinstance [.var 0, .lit (.ty .tup)]) (.call i_is_pair [.var 0])))]
def d_is_ratio : FnD := ⟨1, 0, c_is_ratio, true⟩
structure H_is_ratio (T : Tab) : Prop where
  look : T.fns.lookup i_is_ratio = some d_is_ratio
  c_is_pair : H_is_pair T
  c_is_whole : H_is_whole T
abbrev i_is_tuple_of : Nat := 779
/-- is_tuple_of(value, many) depth 1 -/
def c_is_tuple_of : List S :=
  [.ret (.and (.bi .isinstance [.var 0, .lit (.ty .tup)]) (.cmp .Eq (.bi .len [.var 0]) (.var 1)))]
def d_is_tuple_of : FnD := ⟨2, 0, c_is_tuple_of, true⟩
structure H_is_tuple_of (T : Tab) : Prop where
  look : T.fns.lookup i_is_tuple_of = some d_is_tuple_of
abbrev i_lowest : Nat := 915
/-- lowest(top, bottom, by) depth 1 -/
def c_lowest : List S :=
  [.asg (.nm 2) (.ite (.cmp .Gt (.var 1) (.lit (.int 0))) (.bi .gcd [.var 0, .var 1]) (.neg (.bi .gcd [.var 0, .var 1]))), .ret (.tup [.bin .FloorDiv (.var 0) (.var 2), .bin .FloorDiv (.var 1) (.var 2)])]
def d_lowest : FnD := ⟨2, 1, c_lowest, true⟩
structure H_lowest (T : Tab) : Prop where
  look : T.fns.lookup i_lowest = some d_lowest
abbrev i_told : Nat := 1107
/-- told(ratio) depth 3 -/
def c_told : List S :=
  [.ite (.call i_is_whole [.var 0]) [.ret (.tup [.var 0, .lit (.int 1)])] [], .ite (.not (.call i_is_pair [.var 0])) [.raise 0 []] [], .ret (.call i_lowest [.ix (.var 0) (.lit (.int 0)), .ix (.var 0) (.lit (.int 1))])]
def d_told : FnD := ⟨1, 0, c_told, true⟩
structure H_told (T : Tab) : Prop where
  look : T.fns.lookup i_told = some d_told
  c_is_pair : H_is_pair T
  c_is_whole : H_is_whole T
  c_lowest : H_lowest T
abbrev i_span_from : Nat := 1080
/-- span_from(value, made, out, item) depth 4 -/
def c_span_from : List S :=
  [.asg (.nm 1) (.call i_in_tuples [.var 0]), .ite (.or (.not (.call i_is_tuple_of [.var 1, .lit (.int 2)])) (.not (.bi .all [.lc false [3] (.call i_is_ratio [.var 3]) (.nm 3) .one [.var 1] []]))) [.raise 0 []] [], .asg (.nm 2) (.bi .tuple [.lc false [3] (.call i_told [.var 3]) (.nm 3) .one [.var 1] []]), .ite (.call i_below [.ix (.var 2) (.lit (.int 1)), .ix (.var 2) (.lit (.int 0))]) [.raise 0 []] [], .ret (.var 2)]
def d_span_from : FnD := ⟨1, 3, c_span_from, true⟩
structure H_span_from (T : Tab) : Prop where
  look : T.fns.lookup i_span_from = some d_span_from
  c_below : H_below T
  c_in_tuples : H_in_tuples T
  c_is_ratio : H_is_ratio T
  c_is_tuple_of : H_is_tuple_of T
  c_told : H_told T
abbrev i_both_from : Nat := 580
/-- both_from(one, other, first) depth 5 -/
def c_both_from : List S :=
  [.asg (.nm 2) (.call i_span_from [.var 0]), .ret (.tup [.var 2, .call i_span_from [.var 1]])]
def d_both_from : FnD := ⟨2, 1, c_both_from, true⟩
structure H_both_from (T : Tab) : Prop where
  look : T.fns.lookup i_both_from = some d_both_from
  c_span_from : H_span_from T
abbrev i_summed : Nat := 1094
/-- summed(one, other) depth 2 -/
def c_summed : List S :=
  [.ret (.call i_lowest [.bin .Add (.bin .Mult (.ix (.var 0) (.lit (.int 0))) (.ix (.var 1) (.lit (.int 1)))) (.bin .Mult (.ix (.var 1) (.lit (.int 0))) (.ix (.var 0) (.lit (.int 1)))), .bin .Mult (.ix (.var 0) (.lit (.int 1))) (.ix (.var 1) (.lit (.int 1)))])]
def d_summed : FnD := ⟨2, 0, c_summed, true⟩
structure H_summed (T : Tab) : Prop where
  look : T.fns.lookup i_summed = some d_summed
  c_lowest : H_lowest T
abbrev i_sum_by : Nat := 1089
/-- sum_by(first, second) depth 3 -/
def c_sum_by : List S :=
  [.ret (.tup [.call i_summed [.ix (.var 0) (.lit (.int 0)), .ix (.var 1) (.lit (.int 0))], .call i_summed [.ix (.var 0) (.lit (.int 1)), .ix (.var 1) (.lit (.int 1))]])]
def d_sum_by : FnD := ⟨2, 0, c_sum_by, true⟩
structure H_sum_by (T : Tab) : Prop where
  look : T.fns.lookup i_sum_by = some d_sum_by
  c_summed : H_summed T
abbrev i_plus_spans : Nat := 971
/-- plus_spans(one, other, first, second) depth 6 -/
def c_plus_spans : List S :=
  [.asg (.tup [.nm 2, .nm 3]) (.call i_both_from [.var 0, .var 1]), .ret (.call i_sum_by [.var 2, .var 3])]
def d_plus_spans : FnD := ⟨2, 2, c_plus_spans, true⟩
structure H_plus_spans (T : Tab) : Prop where
  look : T.fns.lookup i_plus_spans = some d_plus_spans
  c_both_from : H_both_from T
  c_sum_by : H_sum_by T
abbrev i__law_moved : Nat := 376
/-- _law_moved(book, coefs_by, rights_by, rules, name, row, kind, right, span) depth 7 -/
def c__law_moved : List S :=
  [.asg (.nm 3) (.lst true []), .for_ (.tup [.nm 4, .nm 5, .nm 6, .nm 7]) .one [.ix (.var 0) (.lit (.str "rules"))] [.expr (.bm (.var 3) .append [.tup [.var 4, .bi .tuple [.lc false [8] (.call i_plus_spans [.var 8, .var 1]) (.nm 8) .one [.var 5] []], .var 6, .call i_plus_spans [.var 7, .var 2]]])], .ret (.call i__law_with [.var 0, .lit (.str "rules"), .var 3])]
def d__law_moved : FnD := ⟨3, 6, c__law_moved, true⟩
structure H__law_moved (T : Tab) : Prop where
  look : T.fns.lookup i__law_moved = some d__law_moved
  c__law_with : H__law_with T
  c_plus_spans : H_plus_spans T
abbrev i__law_of_rows : Nat := 385
/-- _law_of_rows(book, rows, rules, rule, row) depth 2 -/
def c__law_of_rows : List S :=
  [.asg (.nm 2) (.lc false [3, 4] (.tup [.ix (.var 3) (.lit (.int 0)), .bi .tuple [.var 4], .lit (.str "is"), .ix (.var 3) (.lit (.int 3))]) (.tup [.nm 3, .nm 4]) .zip [.lc false [3] (.var 3) (.nm 3) .one [.ix (.var 0) (.lit (.str "rules"))] [.cmp .Eq (.ix (.var 3) (.lit (.int 2))) (.lit (.str "is"))], .var 1] []), .ret (.call i__law_with [.var 0, .lit (.str "rules"), .var 2])]
def d__law_of_rows : FnD := ⟨2, 3, c__law_of_rows, true⟩
structure H__law_of_rows (T : Tab) : Prop where
  look : T.fns.lookup i__law_of_rows = some d__law_of_rows
  c__law_with : H__law_with T
abbrev i__law_one : Nat := 386
/-- _law_one(span, kind, right) depth 1 -/
def c__law_one : List S :=
  [.ret (.dct false [.inr "unknowns", .inr "rules", .inr "costs", .inr "asks"] [.tup [.lit (.str "x")], .lst false [.tup [.lit (.str "r"), .tup [.var 0], .var 1, .var 2]], .lst false [], .lst false []])]
def d__law_one : FnD := ⟨3, 0, c__law_one, true⟩
structure H__law_one (T : Tab) : Prop where
  look : T.fns.lookup i__law_one = some d__law_one
abbrev i__law_pen : Nat := 401
/-- _law_pen(script, fold, cell) depth 1 -/
def c__law_pen : List S :=
  [.asg (.nm 1) (.lit (.int 0)), .for_ (.nm 2) .one [.var 0] [.asg (.nm 1) (.bin .Mod (.bi .int [.bin .Add (.bin .Mult (.var 1) (.lit (.int 193))) (.var 2)]) (.lit (.int 999999131)))], .ret (.dct true [.inr "cells", .inr "at", .inr "digits", .inr "count", .inr "fold"] [.bi .list [.var 0], .lit (.int 0), .lit (.int 0), .lit (.int 0), .var 1])]
def d__law_pen : FnD := ⟨1, 2, c__law_pen, false⟩
structure H__law_pen (T : Tab) : Prop where
  look : T.fns.lookup i__law_pen = some d__law_pen
abbrev i__law_share : Nat := 457
/-- _law_share(one, two) depth 3 -/
def c__law_share : List S :=
  [.ret (.call i__law_q [.bin .Mult (.ix (.var 0) (.lit (.int 0))) (.ix (.var 1) (.lit (.int 1))), .bin .Mult (.ix (.var 0) (.lit (.int 1))) (.ix (.var 1) (.lit (.int 0)))])]
def d__law_share : FnD := ⟨2, 0, c__law_share, true⟩
structure H__law_share (T : Tab) : Prop where
  look : T.fns.lookup i__law_share = some d__law_share
  c__law_q : H__law_q T
abbrev i__law_reduce : Nat := 431
/-- _law_reduce(rows, size, left, found, k, some, lead, row, n, item, place) depth 5 -/
def c__law_reduce : List S :=
  [.par [2, 3] [.lc true [7] (.bi .list [.var 7]) (.nm 7) .one [.var 0] [], .lst false []], .for_ (.nm 4) .range [.var 1] [.asg (.nm 5) (.lc false [8, 7] (.var 8) (.tup [.nm 8, .nm 7]) .enum [.var 2] [.cmp .NotEq (.ix (.ix (.var 7) (.var 4)) (.lit (.int 0))) (.lit (.int 0))]), .ite (.cmp .NotEq (.var 5) (.lst false [])) [.asg (.nm 6) (.bm (.var 2) .pop [.ix (.var 5) (.lit (.int 0))]), .asg (.nm 6) (.lc false [9] (.ite (.cmp .NotEq (.ix (.var 9) (.lit (.int 0))) (.lit (.int 0))) (.call i__law_share [.var 9, .ix (.var 6) (.var 4)]) (.var 9)) (.nm 9) .one [.var 6] []), .asg (.nm 2) (.lc true [7] (.call i__law_less_times [.var 7, .var 6, .var 4]) (.nm 7) .one [.var 2] []), .asg (.nm 3) (.bin .Add (.lc false [10, 7] (.tup [.var 10, .call i__law_less_times [.var 7, .var 6, .var 4]]) (.tup [.nm 10, .nm 7]) .one [.var 3] []) (.lst false [.tup [.var 4, .var 6]]))] []], .ret (.tup [.var 3, .var 2])]
def d__law_reduce : FnD := ⟨2, 9, c__law_reduce, true⟩
structure H__law_reduce (T : Tab) : Prop where
  look : T.fns.lookup i__law_reduce = some d__law_reduce
  c__law_less_times : H__law_less_times T
  c__law_share : H__law_share T
abbrev i__law_rules : Nat := 444
/-- _law_rules(pen, size, many) depth 7 -/
def c__law_rules : List S :=
  [.ret (.call i__law_with [.call i__law_with [.call i__law_book [.var 0, .var 1, .var 2, .lit (.int 1)], .lit (.str "asks"), .lst false []], .lit (.str "costs"), .lst false []])]
def d__law_rules : FnD := ⟨3, 0, c__law_rules, true⟩
structure H__law_rules (T : Tab) : Prop where
  look : T.fns.lookup i__law_rules = some d__law_rules
  c__law_book : H__law_book T
  c__law_with : H__law_with T
abbrev i__law_scaled : Nat := 452
/-- _law_scaled(row, by, item) depth 4 -/
def c__law_scaled : List S :=
  [.ret (.bi .tuple [.lc false [2] (.call i__law_times [.var 2, .var 1]) (.nm 2) .one [.var 0] []])]
def d__law_scaled : FnD := ⟨2, 1, c__law_scaled, true⟩
structure H__law_scaled (T : Tab) : Prop where
  look : T.fns.lookup i__law_scaled = some d__law_scaled
  c__law_times : H__law_times T
abbrev i__law_signs : Nat := 462
/-- _law_signs(many, found, k, row) depth 1 -/
def c__law_signs : List S :=
  [.asg (.nm 1) (.lst false [.tup []]), .for_ (.nm 2) .range [.var 0] [.asg (.nm 1) (.bin .Add (.lc false [3] (.bin .Add (.tup [.lit (.int 1)]) (.var 3)) (.nm 3) .one [.var 1] []) (.lc false [3] (.bin .Add (.tup [.neg (.lit (.int 1))]) (.var 3)) (.nm 3) .one [.var 1] []))], .ret (.var 1)]
def d__law_signs : FnD := ⟨1, 3, c__law_signs, true⟩
structure H__law_signs (T : Tab) : Prop where
  look : T.fns.lookup i__law_signs = some d__law_signs
abbrev i__law_size : Nat := 466
/-- _law_size(ratio) depth 1 -/
def c__law_size : List S :=
  [.ret (.tup [.bi .abs [.ix (.var 0) (.lit (.int 0))], .ix (.var 0) (.lit (.int 1))])]
def d__law_size : FnD := ⟨1, 0, c__law_size, true⟩
structure H__law_size (T : Tab) : Prop where
  look : T.fns.lookup i__law_size = some d__law_size
abbrev i__law_solved : Nat := 468
/-- _law_solved(rows, many, found, left, out, place, row) depth 6 -/
def c__law_solved : List S :=
  [.asg (.tup [.nm 2, .nm 3]) (.call i__law_reduce [.var 0, .var 1]), .ite (.or (.cmp .Lt (.bi .len [.var 2]) (.var 1)) (.bi .any [.lc false [6] (.cmp .NotEq (.ix (.ix (.var 6) (.var 1)) (.lit (.int 0))) (.lit (.int 0))) (.nm 6) .one [.var 3] []])) [.ret (.lit (.non))] [], .asg (.nm 4) (.binM .Mult (.lst false [.tup [.lit (.int 0), .lit (.int 1)]]) (.var 1)), .for_ (.tup [.nm 5, .nm 6]) .one [.var 2] [.asg (.sub (.var 4) (.var 5)) (.ix (.var 6) (.var 1))], .ret (.var 4)]
def d__law_solved : FnD := ⟨2, 5, c__law_solved, true⟩
structure H__law_solved (T : Tab) : Prop where
  look : T.fns.lookup i__law_solved = some d__law_solved
  c__law_reduce : H__law_reduce T
abbrev i__law_solves : Nat := 470
/-- _law_solves(book, coefs, rights, point, rule, row, right, total) depth 6 -/
def c__law_solves : List S :=
  [.for_ (.tup [.nm 4, .nm 5, .nm 6]) .zip [.ix (.var 0) (.lit (.str "rules")), .var 1, .var 2] [.asg (.nm 7) (.call i__law_dot [.var 5, .var 3]), .ite (.or (.call i__law_less [.var 6, .var 7]) (.and (.cmp .Eq (.ix (.var 4) (.lit (.int 2))) (.lit (.str "is"))) (.cmp .NotEq (.var 7) (.var 6)))) [.ret (.lit (.bl false))] []], .ret (.lit (.bl true))]
def d__law_solves : FnD := ⟨4, 4, c__law_solves, true⟩
structure H__law_solves (T : Tab) : Prop where
  look : T.fns.lookup i__law_solves = some d__law_solves
  c__law_dot : H__law_dot T
  c__law_less : H__law_less T
abbrev i__law_some_choice : Nat := 473
/-- _law_some_choice(pen, book, coefs, rule, span) depth 5 -/
def c__law_some_choice : List S :=
  [.asg (.nm 2) (.bi .tuple [.lc false [3] (.bi .tuple [.lc false [4] (.call i__law_in_span [.var 0, .var 4]) (.nm 4) .one [.ix (.var 3) (.lit (.int 1))] []]) (.nm 3) .one [.ix (.var 1) (.lit (.str "rules"))] []]), .ret (.tup [.var 2, .bi .tuple [.lc false [3] (.call i__law_in_span [.var 0, .ix (.var 3) (.lit (.int 3))]) (.nm 3) .one [.ix (.var 1) (.lit (.str "rules"))] []]])]
def d__law_some_choice : FnD := ⟨2, 3, c__law_some_choice, true⟩
structure H__law_some_choice (T : Tab) : Prop where
  look : T.fns.lookup i__law_some_choice = some d__law_some_choice
  c__law_in_span : H__law_in_span T
abbrev i__law_some_point : Nat := 475
/-- _law_some_point(pen, book, name) depth 4 -/
def c__law_some_point : List S :=
  [.ret (.bi .tuple [.lc false [2] (.call i__law_ratio [.var 0, .lit (.int 4)]) (.nm 2) .one [.ix (.var 1) (.lit (.str "unknowns"))] []])]
def d__law_some_point : FnD := ⟨2, 1, c__law_some_point, true⟩
structure H__law_some_point (T : Tab) : Prop where
  look : T.fns.lookup i__law_some_point = some d__law_some_point
  c__law_ratio : H__law_ratio T
abbrev i__law_some_square : Nat := 476
/-- _law_some_square(pen, size, n, k) depth 4 -/
def c__law_some_square : List S :=
  [.ret (.bi .tuple [.lc false [2] (.bi .tuple [.lc false [3] (.call i__law_ratio [.var 0, .lit (.int 3)]) (.nm 3) .range [.var 1] []]) (.nm 2) .range [.var 1] []])]
def d__law_some_square : FnD := ⟨2, 2, c__law_some_square, true⟩
structure H__law_some_square (T : Tab) : Prop where
  look : T.fns.lookup i__law_some_square = some d__law_some_square
  c__law_ratio : H__law_ratio T
abbrev i__law_span_of : Nat := 479
/-- _law_span_of(items, low, high, item) depth 2 -/
def c__law_span_of : List S :=
  [.par [1, 2] [.ix (.var 0) (.lit (.int 0)), .ix (.var 0) (.lit (.int 0))], .for_ (.nm 3) .one [.var 0] [.asg (.nm 1) (.ite (.call i__law_less [.var 3, .var 1]) (.var 3) (.var 1)), .asg (.nm 2) (.ite (.call i__law_less [.var 2, .var 3]) (.var 3) (.var 2))], .ret (.tup [.var 1, .var 2])]
def d__law_span_of : FnD := ⟨1, 3, c__law_span_of, true⟩
structure H__law_span_of (T : Tab) : Prop where
  look : T.fns.lookup i__law_span_of = some d__law_span_of
  c__law_less : H__law_less T
abbrev i__law_square : Nat := 489
/-- _law_square(pen, size, names, rules, lean, k, name, row, kind, right, moved, n, span, item) depth 6 -/
def c__law_square : List S :=
  [.asg (.nm 2) (.bi .tuple [.lc false [5] (.bin .Add (.lit (.str "x")) (.bi .str [.var 5])) (.nm 5) .range [.bin .Add (.lit (.int 1)) (.call i__law_draw [.var 0, .var 1])] []]), .asg (.tup [.nm 3, .nm 4]) (.tup [.lst true [], .call i__law_pick [.var 0, .lst false [.lit (.int 0), .lit (.int 3), .lit (.int 3), .lit (.int 6)]]]), .for_ (.nm 5) .range [.bi .len [.var 2]] [.asg (.tup [.nm 6, .nm 7, .nm 8, .nm 9]) (.call i__law_rule [.var 0, .bin .Add (.lit (.str "r")) (.bi .str [.var 5]), .bi .len [.var 2], .lit (.str "is")]), .asg (.nm 10) (.lc false [11, 12] (.ite (.cmp .Eq (.var 11) (.var 5)) (.bi .tuple [.lc false [13] (.call i__law_plus [.var 13, .tup [.var 4, .lit (.int 1)]]) (.nm 13) .one [.var 12] []]) (.var 12)) (.tup [.nm 11, .nm 12]) .enum [.var 7] []), .expr (.bm (.var 3) .append [.tup [.var 6, .bi .tuple [.var 10], .var 8, .var 9]])], .ite (.cmp .Eq (.call i__law_draw [.var 0, .lit (.int 3)]) (.lit (.int 0))) [.expr (.bm (.var 3) .append [.call i__law_rule [.var 0, .lit (.str "z9"), .bi .len [.var 2], .lit (.str "most")]])] [], .ret (.dct false [.inr "unknowns", .inr "rules", .inr "costs", .inr "asks"] [.var 2, .var 3, .lst false [], .lst false []])]
def d__law_square : FnD := ⟨2, 12, c__law_square, true⟩
structure H__law_square (T : Tab) : Prop where
  look : T.fns.lookup i__law_square = some d__law_square
  c__law_draw : H__law_draw T
  c__law_pick : H__law_pick T
  c__law_plus : H__law_plus T
  c__law_rule : H__law_rule T
abbrev i__law_transposed : Nat := 507
/-- _law_transposed(table, k, row) depth 1 -/
def c__law_transposed : List S :=
  [.ret (.bi .tuple [.lc false [1] (.bi .tuple [.lc false [2] (.ix (.var 2) (.var 1)) (.nm 2) .one [.var 0] []]) (.nm 1) .range [.bi .len [.ix (.var 0) (.lit (.int 0))]] []])]
def d__law_transposed : FnD := ⟨1, 2, c__law_transposed, true⟩
structure H__law_transposed (T : Tab) : Prop where
  look : T.fns.lookup i__law_transposed = some d__law_transposed
abbrev i__law_turn : Nat := 508
/-- _law_turn(ratio) depth 1 -/
def c__law_turn : List S :=
  [.ret (.tup [.neg (.ix (.var 0) (.lit (.int 0))), .ix (.var 0) (.lit (.int 1))])]
def d__law_turn : FnD := ⟨1, 0, c__law_turn, true⟩
structure H__law_turn (T : Tab) : Prop where
  look : T.fns.lookup i__law_turn = some d__law_turn
abbrev i_all_signs : Nat := 547
/-- all_signs(many, out, lap, row) depth 1 -/
def c_all_signs : List S :=
  [.asg (.nm 1) (.lst false [.tup []]), .for_ (.nm 2) .range [.var 0] [.asg (.nm 1) (.bin .Add (.lc false [3] (.bin .Add (.var 3) (.tup [.lit (.int 1)])) (.nm 3) .one [.var 1] []) (.lc false [3] (.bin .Add (.var 3) (.tup [.neg (.lit (.int 1))])) (.nm 3) .one [.var 1] []))], .ret (.var 1)]
def d_all_signs : FnD := ⟨1, 3, c_all_signs, true⟩
structure H_all_signs (T : Tab) : Prop where
  look : T.fns.lookup i_all_signs = some d_all_signs
abbrev i_all_corners : Nat := 545
/-- all_corners(model, many, out, rows, columns) depth 2 -/
def c_all_corners : List S :=
  [.asg (.nm 1) (.bi .len [.attr (.var 0) a_unknowns]), .asg (.nm 2) (.lst true []), .for_ (.nm 3) .one [.call i_all_signs [.var 1]] [.expr (.bm (.var 2) .extend [.lc false [4] (.tup [.var 3, .var 4]) (.nm 4) .one [.call i_all_signs [.var 1]] []])], .ret (.var 2)]
def d_all_corners : FnD := ⟨1, 4, c_all_corners, true⟩
structure H_all_corners (T : Tab) : Prop where
  look : T.fns.lookup i_all_corners = some d_all_corners
  c_all_signs : H_all_signs T
abbrev i_lessened : Nat := 905
/-- lessened(one, other) depth 2 -/
def c_lessened : List S :=
  [.ret (.call i_lowest [.bin .Sub (.bin .Mult (.ix (.var 0) (.lit (.int 0))) (.ix (.var 1) (.lit (.int 1)))) (.bin .Mult (.ix (.var 1) (.lit (.int 0))) (.ix (.var 0) (.lit (.int 1)))), .bin .Mult (.ix (.var 0) (.lit (.int 1))) (.ix (.var 1) (.lit (.int 1)))])]
def d_lessened : FnD := ⟨2, 0, c_lessened, true⟩
structure H_lessened (T : Tab) : Prop where
  look : T.fns.lookup i_lessened = some d_lessened
  c_lowest : H_lowest T
abbrev i_scaled : Nat := 1032
/-- scaled(one, other) depth 2 -/
def c_scaled : List S :=
  [.ret (.call i_lowest [.bin .Mult (.ix (.var 0) (.lit (.int 0))) (.ix (.var 1) (.lit (.int 0))), .bin .Mult (.ix (.var 0) (.lit (.int 1))) (.ix (.var 1) (.lit (.int 1)))])]
def d_scaled : FnD := ⟨2, 0, c_scaled, true⟩
structure H_scaled (T : Tab) : Prop where
  look : T.fns.lookup i_scaled = some d_scaled
  c_lowest : H_lowest T
abbrev i_plus_times : Nat := 972
/-- plus_times(row, by, other, a, b) depth 3 -/
def c_plus_times : List S :=
  [.ite (.cmp .Eq (.ix (.var 1) (.lit (.int 0))) (.lit (.int 0))) [.ret (.bi .tuple [.var 0])] [], .ret (.bi .tuple [.lc false [3, 4] (.ite (.cmp .Eq (.ix (.var 4) (.lit (.int 0))) (.lit (.int 0))) (.var 3) (.call i_summed [.var 3, .call i_scaled [.var 1, .var 4]])) (.tup [.nm 3, .nm 4]) .zip [.var 0, .var 2] []])]
def d_plus_times : FnD := ⟨3, 2, c_plus_times, true⟩
structure H_plus_times (T : Tab) : Prop where
  look : T.fns.lookup i_plus_times = some d_plus_times
  c_scaled : H_scaled T
  c_summed : H_summed T
abbrev i_between : Nat := 579
/-- between(one, other, share, out, row, last, a, b) depth 4 -/
def c_between : List S :=
  [.asg (.nm 3) (.lst true []), .for_ (.tup [.nm 4, .nm 5]) .zip [.var 0, .var 1] [.expr (.bm (.var 3) .append [.call i_plus_times [.var 4, .var 2, .bi .tuple [.lc false [6, 7] (.call i_lessened [.var 7, .var 6]) (.tup [.nm 6, .nm 7]) .zip [.var 4, .var 5] []]]])], .ret (.bi .tuple [.var 3])]
def d_between : FnD := ⟨3, 5, c_between, true⟩
structure H_between (T : Tab) : Prop where
  look : T.fns.lookup i_between = some d_between
  c_lessened : H_lessened T
  c_plus_times : H_plus_times T
abbrev i_need_model : Nat := 933
/-- need_model(model) depth 1 -/
def c_need_model : List S :=
  [.ite (.not (.bi .isinstance [.var 0, .lit (.cls k_Model)])) [.raise 0 []] []]
def d_need_model : FnD := ⟨1, 0, c_need_model, true⟩
structure H_need_model (T : Tab) : Prop where
  look : T.fns.lookup i_need_model = some d_need_model
abbrev i_least_of : Nat := 898
/-- least_of(items, out, item) depth 2 -/
def c_least_of : List S :=
  [.asg (.nm 1) (.ix (.var 0) (.lit (.int 0))), .for_ (.nm 2) .one [.var 0] [.asg (.nm 1) (.ite (.call i_below [.var 2, .var 1]) (.var 2) (.var 1))], .ret (.var 1)]
def d_least_of : FnD := ⟨1, 2, c_least_of, true⟩
structure H_least_of (T : Tab) : Prop where
  look : T.fns.lookup i_least_of = some d_least_of
  c_below : H_below T
abbrev i_most_of : Nat := 924
/-- most_of(items, out, item) depth 2 -/
def c_most_of : List S :=
  [.asg (.nm 1) (.ix (.var 0) (.lit (.int 0))), .for_ (.nm 2) .one [.var 0] [.asg (.nm 1) (.ite (.call i_below [.var 1, .var 2]) (.var 2) (.var 1))], .ret (.var 1)]
def d_most_of : FnD := ⟨1, 2, c_most_of, true⟩
structure H_most_of (T : Tab) : Prop where
  look : T.fns.lookup i_most_of = some d_most_of
  c_below : H_below T
abbrev i_common_by : Nat := 601
/-- common_by(first, second, low, high) depth 3 -/
def c_common_by : List S :=
  [.par [2, 3] [.call i_most_of [.lst false [.ix (.var 0) (.lit (.int 0)), .ix (.var 1) (.lit (.int 0))]], .call i_least_of [.lst false [.ix (.var 0) (.lit (.int 1)), .ix (.var 1) (.lit (.int 1))]]], .ret (.ite (.call i_below [.var 3, .var 2]) (.lit (.non)) (.tup [.var 2, .var 3]))]
def d_common_by : FnD := ⟨2, 2, c_common_by, true⟩
structure H_common_by (T : Tab) : Prop where
  look : T.fns.lookup i_common_by = some d_common_by
  c_below : H_below T
  c_least_of : H_least_of T
  c_most_of : H_most_of T
abbrev i_end_row : Nat := 639
/-- end_row(rule, point, high, span, item) depth 1 -/
def c_end_row : List S :=
  [.ret (.bi .tuple [.lc false [3, 4] (.ite (.cmp .Eq (.cmp .Gt (.ix (.var 4) (.lit (.int 0))) (.lit (.int 0))) (.var 2)) (.ix (.var 3) (.lit (.int 1))) (.ix (.var 3) (.lit (.int 0)))) (.tup [.nm 3, .nm 4]) .zip [.ix (.var 0) (.lit (.int 1)), .var 1] []])]
def d_end_row : FnD := ⟨3, 2, c_end_row, true⟩
structure H_end_row (T : Tab) : Prop where
  look : T.fns.lookup i_end_row = some d_end_row
abbrev i_product_by : Nat := 981
/-- product_by(first, second, made) depth 3 -/
def c_product_by : List S :=
  [.asg (.nm 2) (.lst false [.call i_scaled [.ix (.var 0) (.lit (.int 0)), .ix (.var 1) (.lit (.int 0))], .call i_scaled [.ix (.var 0) (.lit (.int 0)), .ix (.var 1) (.lit (.int 1))]]), .asg (.nm 2) (.bin .Add (.var 2) (.lst false [.call i_scaled [.ix (.var 0) (.lit (.int 1)), .ix (.var 1) (.lit (.int 0))], .call i_scaled [.ix (.var 0) (.lit (.int 1)), .ix (.var 1) (.lit (.int 1))]])), .ret (.tup [.call i_least_of [.var 2], .call i_most_of [.var 2]])]
def d_product_by : FnD := ⟨2, 1, c_product_by, true⟩
structure H_product_by (T : Tab) : Prop where
  look : T.fns.lookup i_product_by = some d_product_by
  c_least_of : H_least_of T
  c_most_of : H_most_of T
  c_scaled : H_scaled T
abbrev i_reach_by : Nat := 990
/-- reach_by(rule, point, out, span, item) depth 4 -/
def c_reach_by : List S :=
  [.asg (.nm 2) (.tup [.lit (.tup [.int 0, .int 1]), .lit (.tup [.int 0, .int 1])]), .for_ (.tup [.nm 3, .nm 4]) .zip [.ix (.var 0) (.lit (.int 1)), .var 1] [.asg (.nm 2) (.call i_sum_by [.var 2, .call i_product_by [.var 3, .tup [.var 4, .var 4]]])], .ret (.var 2)]
def d_reach_by : FnD := ⟨2, 3, c_reach_by, true⟩
structure H_reach_by (T : Tab) : Prop where
  look : T.fns.lookup i_reach_by = some d_reach_by
  c_product_by : H_product_by T
  c_sum_by : H_sum_by T
abbrev i_dot_of : Nat := 633
/-- dot_of(one, other, out, a, b) depth 3 -/
def c_dot_of : List S :=
  [.asg (.nm 2) (.lit (.tup [.int 0, .int 1])), .for_ (.tup [.nm 3, .nm 4]) .zip [.var 0, .var 1] [.ite (.and (.cmp .NotEq (.ix (.var 3) (.lit (.int 0))) (.lit (.int 0))) (.cmp .NotEq (.ix (.var 4) (.lit (.int 0))) (.lit (.int 0)))) [.asg (.nm 2) (.call i_summed [.var 2, .call i_scaled [.var 3, .var 4]])] []], .ret (.var 2)]
def d_dot_of : FnD := ⟨2, 3, c_dot_of, true⟩
structure H_dot_of (T : Tab) : Prop where
  look : T.fns.lookup i_dot_of = some d_dot_of
  c_scaled : H_scaled T
  c_summed : H_summed T
abbrev i_turned_ratio : Nat := 1117
/-- turned_ratio(item) depth 1 -/
def c_turned_ratio : List S :=
  [.ret (.ite (.cmp .Gt (.ix (.var 0) (.lit (.int 0))) (.lit (.int 0))) (.tup [.ix (.var 0) (.lit (.int 1)), .ix (.var 0) (.lit (.int 0))]) (.tup [.neg (.ix (.var 0) (.lit (.int 1))), .neg (.ix (.var 0) (.lit (.int 0)))]))]
def d_turned_ratio : FnD := ⟨1, 0, c_turned_ratio, true⟩
structure H_turned_ratio (T : Tab) : Prop where
  look : T.fns.lookup i_turned_ratio = some d_turned_ratio
abbrev i_row_for : Nat := 1010
/-- row_for(rule, point, due, low, high, first, last, share, a, b) depth 4 -/
def c_row_for : List S :=
  [.par [3, 4] [.call i_end_row [.var 0, .var 1, .lit (.bl false)], .call i_end_row [.var 0, .var 1, .lit (.bl true)]], .par [5, 6] [.call i_dot_of [.var 3, .var 1], .call i_dot_of [.var 4, .var 1]], .ite (.cmp .Eq (.var 5) (.var 6)) [.ret (.var 3)] [], .asg (.nm 7) (.call i_scaled [.call i_lessened [.var 2, .var 5], .call i_turned_ratio [.call i_lessened [.var 6, .var 5]]]), .ret (.bi .tuple [.lc false [8, 9] (.call i_summed [.var 8, .call i_scaled [.var 7, .call i_lessened [.var 9, .var 8]]]) (.tup [.nm 8, .nm 9]) .zip [.var 3, .var 4] []])]
def d_row_for : FnD := ⟨3, 7, c_row_for, true⟩
structure H_row_for (T : Tab) : Prop where
  look : T.fns.lookup i_row_for = some d_row_for
  c_dot_of : H_dot_of T
  c_end_row : H_end_row T
  c_lessened : H_lessened T
  c_scaled : H_scaled T
  c_summed : H_summed T
  c_turned_ratio : H_turned_ratio T
abbrev i_pair_for : Nat := 962
/-- pair_for(rule, point, made, both) depth 5 -/
def c_pair_for : List S :=
  [.asg (.nm 2) (.call i_reach_by [.var 0, .var 1]), .ite (.cmp .Eq (.ix (.var 0) (.lit (.int 2))) (.lit (.str "is"))) [.asg (.nm 3) (.call i_common_by [.var 2, .ix (.var 0) (.lit (.int 3))]), .ret (.ite (.cmp .Is (.var 3) (.lit (.non))) (.lit (.non)) (.tup [.call i_row_for [.var 0, .var 1, .ix (.var 3) (.lit (.int 0))], .ix (.var 3) (.lit (.int 0))]))] [], .ret (.ite (.call i_below [.ix (.ix (.var 0) (.lit (.int 3))) (.lit (.int 1)), .ix (.var 2) (.lit (.int 0))]) (.lit (.non)) (.tup [.call i_end_row [.var 0, .var 1, .lit (.bl false)], .ix (.ix (.var 0) (.lit (.int 3))) (.lit (.int 1))]))]
def d_pair_for : FnD := ⟨2, 2, c_pair_for, true⟩
structure H_pair_for (T : Tab) : Prop where
  look : T.fns.lookup i_pair_for = some d_pair_for
  c_below : H_below T
  c_common_by : H_common_by T
  c_end_row : H_end_row T
  c_reach_by : H_reach_by T
  c_row_for : H_row_for T
abbrev i_row_from : Nat := 1013
/-- row_from(value, many, made, item) depth 4 -/
def c_row_from : List S :=
  [.asg (.nm 2) (.call i_in_tuples [.var 0]), .ite (.or (.not (.call i_is_tuple_of [.var 2, .var 1])) (.not (.bi .all [.lc false [3] (.call i_is_ratio [.var 3]) (.nm 3) .one [.var 2] []]))) [.raise 0 []] [], .ret (.bi .tuple [.lc false [3] (.call i_told [.var 3]) (.nm 3) .one [.var 2] []])]
def d_row_from : FnD := ⟨2, 2, c_row_from, true⟩
structure H_row_from (T : Tab) : Prop where
  look : T.fns.lookup i_row_from = some d_row_from
  c_in_tuples : H_in_tuples T
  c_is_ratio : H_is_ratio T
  c_is_tuple_of : H_is_tuple_of T
  c_told : H_told T
abbrev i_point_from : Nat := 977
/-- point_from(model, point) depth 5 -/
def c_point_from : List S :=
  [.ret (.call i_row_from [.var 1, .bi .len [.attr (.var 0) a_unknowns]])]
def d_point_from : FnD := ⟨2, 0, c_point_from, true⟩
structure H_point_from (T : Tab) : Prop where
  look : T.fns.lookup i_point_from = some d_point_from
  c_row_from : H_row_from T
abbrev i_split : Nat := 1087
/-- split(pairs, row, right) depth 1 -/
def c_split : List S :=
  [.ret (.tup [.bi .tuple [.lc false [1, 2] (.var 1) (.tup [.nm 1, .nm 2]) .one [.var 0] []], .bi .tuple [.lc false [1, 2] (.var 2) (.tup [.nm 1, .nm 2]) .one [.var 0] []]])]
def d_split : FnD := ⟨1, 2, c_split, true⟩
structure H_split (T : Tab) : Prop where
  look : T.fns.lookup i_split = some d_split
abbrev i_choice_for : Nat := 591
/-- choice_for(model, point, spot, pairs, rule, pair) depth 6 -/
def c_choice_for : List S :=
  [.expr (.call i_need_model [.var 0]), .asg (.nm 2) (.call i_point_from [.var 0, .var 1]), .asg (.nm 3) (.lc false [4] (.call i_pair_for [.var 4, .var 2]) (.nm 4) .one [.attr (.var 0) a_rules] []), .ret (.ite (.bi .any [.lc false [5] (.cmp .Is (.var 5) (.lit (.non))) (.nm 5) .one [.var 3] []]) (.lit (.non)) (.call i_split [.var 3]))]
def d_choice_for : FnD := ⟨2, 4, c_choice_for, true⟩
structure H_choice_for (T : Tab) : Prop where
  look : T.fns.lookup i_choice_for = some d_choice_for
  c_need_model : H_need_model T
  c_pair_for : H_pair_for T
  c_point_from : H_point_from T
  c_split : H_split T
abbrev i_is_loose_table : Nat := 716
/-- is_loose_table(made, tall, wide, row, item) depth 4 -/
def c_is_loose_table : List S :=
  [.ite (.or (.not (.call i_is_tuple_of [.var 0, .var 1])) (.not (.bi .all [.lc false [3] (.call i_is_tuple_of [.var 3, .var 2]) (.nm 3) .one [.var 0] []]))) [.ret (.lit (.bl false))] [], .ret (.bi .all [.lc false [3] (.bi .all [.lc false [4] (.call i_is_ratio [.var 4]) (.nm 4) .one [.var 3] []]) (.nm 3) .one [.var 0] []])]
def d_is_loose_table : FnD := ⟨3, 2, c_is_loose_table, true⟩
structure H_is_loose_table (T : Tab) : Prop where
  look : T.fns.lookup i_is_loose_table = some d_is_loose_table
  c_is_ratio : H_is_ratio T
  c_is_tuple_of : H_is_tuple_of T
abbrev i_table_from : Nat := 1095
/-- table_from(value, tall, wide, made, row, item) depth 5 -/
def c_table_from : List S :=
  [.asg (.nm 3) (.call i_in_tuples [.var 0]), .ite (.not (.call i_is_loose_table [.var 3, .var 1, .var 2])) [.raise 0 []] [], .ret (.bi .tuple [.lc false [4] (.bi .tuple [.lc false [5] (.call i_told [.var 5]) (.nm 5) .one [.var 4] []]) (.nm 4) .one [.var 3] []])]
def d_table_from : FnD := ⟨3, 3, c_table_from, true⟩
structure H_table_from (T : Tab) : Prop where
  look : T.fns.lookup i_table_from = some d_table_from
  c_in_tuples : H_in_tuples T
  c_is_loose_table : H_is_loose_table T
  c_told : H_told T
abbrev i_coefs_from : Nat := 599
/-- coefs_from(model, coefs) depth 6 -/
def c_coefs_from : List S :=
  [.ret (.call i_table_from [.var 1, .bi .len [.attr (.var 0) a_rules], .bi .len [.attr (.var 0) a_unknowns]])]
def d_coefs_from : FnD := ⟨2, 0, c_coefs_from, true⟩
structure H_coefs_from (T : Tab) : Prop where
  look : T.fns.lookup i_coefs_from = some d_coefs_from
  c_table_from : H_table_from T
abbrev i_rights_from : Nat := 1004
/-- rights_from(model, rights) depth 5 -/
def c_rights_from : List S :=
  [.ret (.call i_row_from [.var 1, .bi .len [.attr (.var 0) a_rules]])]
def d_rights_from : FnD := ⟨2, 0, c_rights_from, true⟩
structure H_rights_from (T : Tab) : Prop where
  look : T.fns.lookup i_rights_from = some d_rights_from
  c_row_from : H_row_from T
abbrev i_choice_from : Nat := 592
/-- choice_from(model, coefs, rights, first) depth 7 -/
def c_choice_from : List S :=
  [.asg (.nm 3) (.call i_coefs_from [.var 0, .var 1]), .ret (.tup [.var 3, .call i_rights_from [.var 0, .var 2]])]
def d_choice_from : FnD := ⟨3, 1, c_choice_from, true⟩
structure H_choice_from (T : Tab) : Prop where
  look : T.fns.lookup i_choice_from = some d_choice_from
  c_coefs_from : H_coefs_from T
  c_rights_from : H_rights_from T
abbrev i_common : Nat := 600
/-- common(one, other, first, second) depth 6 -/
def c_common : List S :=
  [.asg (.tup [.nm 2, .nm 3]) (.call i_both_from [.var 0, .var 1]), .ret (.call i_common_by [.var 2, .var 3])]
def d_common : FnD := ⟨2, 2, c_common, true⟩
structure H_common (T : Tab) : Prop where
  look : T.fns.lookup i_common = some d_common
  c_both_from : H_both_from T
  c_common_by : H_common_by T
abbrev i_middle_by : Nat := 918
/-- middle_by(span) depth 3 -/
def c_middle_by : List S :=
  [.ret (.call i_scaled [.call i_summed [.ix (.var 0) (.lit (.int 0)), .ix (.var 0) (.lit (.int 1))], .lit (.tup [.int 1, .int 2])])]
def d_middle_by : FnD := ⟨1, 0, c_middle_by, true⟩
structure H_middle_by (T : Tab) : Prop where
  look : T.fns.lookup i_middle_by = some d_middle_by
  c_scaled : H_scaled T
  c_summed : H_summed T
abbrev i_width_by : Nat := 1132
/-- width_by(span) depth 3 -/
def c_width_by : List S :=
  [.ret (.call i_scaled [.call i_lessened [.ix (.var 0) (.lit (.int 1)), .ix (.var 0) (.lit (.int 0))], .lit (.tup [.int 1, .int 2])])]
def d_width_by : FnD := ⟨1, 0, c_width_by, true⟩
structure H_width_by (T : Tab) : Prop where
  look : T.fns.lookup i_width_by = some d_width_by
  c_lessened : H_lessened T
  c_scaled : H_scaled T
abbrev i_corner_item : Nat := 609
/-- corner_item(span, sign) depth 4 -/
def c_corner_item : List S :=
  [.ret (.call i_lessened [.call i_middle_by [.var 0], .call i_scaled [.tup [.var 1, .lit (.int 1)], .call i_width_by [.var 0]]])]
def d_corner_item : FnD := ⟨2, 0, c_corner_item, true⟩
structure H_corner_item (T : Tab) : Prop where
  look : T.fns.lookup i_corner_item = some d_corner_item
  c_lessened : H_lessened T
  c_middle_by : H_middle_by T
  c_scaled : H_scaled T
  c_width_by : H_width_by T
abbrev i_equations_by : Nat := 645
/-- equations_by(model, k, rule) depth 1 -/
def c_equations_by : List S :=
  [.ret (.bi .tuple [.lc false [1, 2] (.var 1) (.tup [.nm 1, .nm 2]) .enum [.attr (.var 0) a_rules] [.cmp .Eq (.ix (.var 2) (.lit (.int 2))) (.lit (.str "is"))]])]
def d_equations_by : FnD := ⟨1, 2, c_equations_by, true⟩
structure H_equations_by (T : Tab) : Prop where
  look : T.fns.lookup i_equations_by = some d_equations_by
abbrev i_table_of : Nat := 1096
/-- table_of(model, k) depth 2 -/
def c_table_of : List S :=
  [.ret (.lc false [1] (.ix (.ix (.attr (.var 0) a_rules) (.var 1)) (.lit (.int 1))) (.nm 1) .one [.call i_equations_by [.var 0]] [])]
def d_table_of : FnD := ⟨1, 1, c_table_of, true⟩
structure H_table_of (T : Tab) : Prop where
  look : T.fns.lookup i_table_of = some d_table_of
  c_equations_by : H_equations_by T
abbrev i_corner_by : Nat := 608
/-- corner_by(model, rows, columns, out, sign, row, span, other) depth 5 -/
def c_corner_by : List S :=
  [.asg (.nm 3) (.lst true []), .for_ (.tup [.nm 4, .nm 5]) .zip [.var 1, .call i_table_of [.var 0]] [.expr (.bm (.var 3) .append [.bi .tuple [.lc false [6, 7] (.call i_corner_item [.var 6, .bin .Mult (.var 4) (.var 7)]) (.tup [.nm 6, .nm 7]) .zip [.var 5, .var 2] []]])], .ret (.bi .tuple [.var 3])]
def d_corner_by : FnD := ⟨3, 5, c_corner_by, true⟩
structure H_corner_by (T : Tab) : Prop where
  look : T.fns.lookup i_corner_by = some d_corner_by
  c_corner_item : H_corner_item T
  c_table_of : H_table_of T
abbrev i_signs_from : Nat := 1059
/-- signs_from(value, many, made, item) depth 2 -/
def c_signs_from : List S :=
  [.asg (.nm 2) (.call i_in_tuples [.var 0]), .ite (.or (.not (.call i_is_tuple_of [.var 2, .var 1])) (.not (.bi .all [.lc false [3] (.and (.call i_is_whole [.var 3]) (.cmp .In (.var 3) (.tup [.lit (.int 1), .neg (.lit (.int 1))]))) (.nm 3) .one [.var 2] []]))) [.raise 0 []] [], .ret (.var 2)]
def d_signs_from : FnD := ⟨2, 2, c_signs_from, true⟩
structure H_signs_from (T : Tab) : Prop where
  look : T.fns.lookup i_signs_from = some d_signs_from
  c_in_tuples : H_in_tuples T
  c_is_tuple_of : H_is_tuple_of T
  c_is_whole : H_is_whole T
abbrev i_corner : Nat := 603
/-- corner(model, rows, columns, first) depth 6 -/
def c_corner : List S :=
  [.expr (.call i_need_model [.var 0]), .asg (.nm 3) (.call i_signs_from [.var 1, .bi .len [.call i_equations_by [.var 0]]]), .ret (.call i_corner_by [.var 0, .var 3, .call i_signs_from [.var 2, .bi .len [.attr (.var 0) a_unknowns]]])]
def d_corner : FnD := ⟨3, 1, c_corner, true⟩
structure H_corner (T : Tab) : Prop where
  look : T.fns.lookup i_corner = some d_corner
  c_corner_by : H_corner_by T
  c_equations_by : H_equations_by T
  c_need_model : H_need_model T
  c_signs_from : H_signs_from T
abbrev i_parted : Nat := 966
/-- parted(one, other) depth 2 -/
def c_parted : List S :=
  [.ret (.call i_lowest [.bin .Mult (.ix (.var 0) (.lit (.int 0))) (.ix (.var 1) (.lit (.int 1))), .bin .Mult (.ix (.var 0) (.lit (.int 1))) (.ix (.var 1) (.lit (.int 0)))])]
def d_parted : FnD := ⟨2, 0, c_parted, true⟩
structure H_parted (T : Tab) : Prop where
  look : T.fns.lookup i_parted = some d_parted
  c_lowest : H_lowest T
abbrev i_turned_sign : Nat := 1118
/-- turned_sign(one) depth 1 -/
def c_turned_sign : List S :=
  [.ret (.tup [.neg (.ix (.var 0) (.lit (.int 0))), .ix (.var 0) (.lit (.int 1))])]
def d_turned_sign : FnD := ⟨1, 0, c_turned_sign, true⟩
structure H_turned_sign (T : Tab) : Prop where
  look : T.fns.lookup i_turned_sign = some d_turned_sign
abbrev i_det_of : Nat := 628
/-- det_of(table, rows, out, place, spots, k, by, row) depth 4 -/
def c_det_of : List S :=
  [.asg (.tup [.nm 1, .nm 2]) (.tup [.lc true [7] (.bi .tuple [.var 7]) (.nm 7) .one [.var 0] [], .lit (.tup [.int 1, .int 1])]), .for_ (.nm 3) .range [.bi .len [.var 1]] [.asg (.nm 4) (.lc false [5] (.var 5) (.nm 5) .range [.var 3, .bi .len [.var 1]] [.cmp .NotEq (.ix (.ix (.ix (.var 1) (.var 5)) (.var 3)) (.lit (.int 0))) (.lit (.int 0))]), .ite (.cmp .Eq (.bi .len [.var 4]) (.lit (.int 0))) [.ret (.lit (.tup [.int 0, .int 1]))] [], .ite (.cmp .NotEq (.ix (.var 4) (.lit (.int 0))) (.var 3)) [.asg (.tup [.sub (.var 1) (.var 3), .sub (.var 1) (.ix (.var 4) (.lit (.int 0))), .nm 2]) (.tup [.ix (.var 1) (.ix (.var 4) (.lit (.int 0))), .ix (.var 1) (.var 3), .call i_turned_sign [.var 2]])] [], .asg (.nm 2) (.call i_scaled [.var 2, .ix (.ix (.var 1) (.var 3)) (.var 3)]), .for_ (.nm 5) .range [.bin .Add (.var 3) (.lit (.int 1)), .bi .len [.var 1]] [.asg (.nm 6) (.call i_turned_sign [.call i_parted [.ix (.ix (.var 1) (.var 5)) (.var 3), .ix (.ix (.var 1) (.var 3)) (.var 3)]]), .asg (.sub (.var 1) (.var 5)) (.call i_plus_times [.ix (.var 1) (.var 5), .var 6, .ix (.var 1) (.var 3)])]], .ret (.var 2)]
def d_det_of : FnD := ⟨1, 7, c_det_of, true⟩
structure H_det_of (T : Tab) : Prop where
  look : T.fns.lookup i_det_of = some d_det_of
  c_parted : H_parted T
  c_plus_times : H_plus_times T
  c_scaled : H_scaled T
  c_turned_sign : H_turned_sign T
abbrev i_is_oblong : Nat := 723
/-- is_oblong(model) depth 3 -/
def c_is_oblong : List S :=
  [.ret (.cmp .NotEq (.bi .len [.call i_table_of [.var 0]]) (.bi .len [.attr (.var 0) a_unknowns]))]
def d_is_oblong : FnD := ⟨1, 0, c_is_oblong, true⟩
structure H_is_oblong (T : Tab) : Prop where
  look : T.fns.lookup i_is_oblong = some d_is_oblong
  c_table_of : H_table_of T
abbrev i_need_square : Nat := 943
/-- need_square(model) depth 4 -/
def c_need_square : List S :=
  [.expr (.call i_need_model [.var 0]), .ite (.call i_is_oblong [.var 0]) [.raise 0 []] []]
def d_need_square : FnD := ⟨1, 0, c_need_square, true⟩
structure H_need_square (T : Tab) : Prop where
  look : T.fns.lookup i_need_square = some d_need_square
  c_is_oblong : H_is_oblong T
  c_need_model : H_need_model T
abbrev i_sign_of : Nat := 1043
/-- sign_of(item) depth 1 -/
def c_sign_of : List S :=
  [.ret (.ite (.cmp .Eq (.ix (.var 0) (.lit (.int 0))) (.lit (.int 0))) (.lit (.int 0)) (.ite (.cmp .Gt (.ix (.var 0) (.lit (.int 0))) (.lit (.int 0))) (.lit (.int 1)) (.neg (.lit (.int 1)))))]
def d_sign_of : FnD := ⟨1, 0, c_sign_of, true⟩
structure H_sign_of (T : Tab) : Prop where
  look : T.fns.lookup i_sign_of = some d_sign_of
abbrev i_corner_signs : Nat := 612
/-- corner_signs(model, some, rows, columns, sign) depth 6 -/
def c_corner_signs : List S :=
  [.expr (.call i_need_square [.var 0]), .asg (.nm 1) (.lc false [2, 3] (.call i_sign_of [.call i_det_of [.call i_corner_by [.var 0, .var 2, .var 3]]]) (.tup [.nm 2, .nm 3]) .one [.call i_all_corners [.var 0]] []), .ret (.bi .tuple [.lc false [4] (.var 4) (.nm 4) .one [.tup [.neg (.lit (.int 1)), .lit (.int 0), .lit (.int 1)]] [.cmp .In (.var 4) (.var 1)]])]
def d_corner_signs : FnD := ⟨1, 4, c_corner_signs, true⟩
structure H_corner_signs (T : Tab) : Prop where
  look : T.fns.lookup i_corner_signs = some d_corner_signs
  c_all_corners : H_all_corners T
  c_corner_by : H_corner_by T
  c_det_of : H_det_of T
  c_need_square : H_need_square T
  c_sign_of : H_sign_of T
abbrev i_square_from : Nat := 1088
/-- square_from(value, made) depth 6 -/
def c_square_from : List S :=
  [.asg (.nm 1) (.call i_in_tuples [.var 0]), .ite (.or (.not (.bi .isinstance [.var 1, .lit (.ty .tup)])) (.not (.chain .LtE .LtE (.lit (.int 1)) (.bi .len [.var 1]) (.lit (.int 4))))) [.raise 0 []] [], .ret (.call i_table_from [.var 0, .bi .len [.var 1], .bi .len [.var 1]])]
def d_square_from : FnD := ⟨1, 1, c_square_from, true⟩
structure H_square_from (T : Tab) : Prop where
  look : T.fns.lookup i_square_from = some d_square_from
  c_in_tuples : H_in_tuples T
  c_table_from : H_table_from T
abbrev i_determinant : Nat := 630
/-- determinant(table) depth 7 -/
def c_determinant : List S :=
  [.ret (.call i_det_of [.call i_square_from [.var 0]])]
def d_determinant : FnD := ⟨1, 0, c_determinant, true⟩
structure H_determinant (T : Tab) : Prop where
  look : T.fns.lookup i_determinant = some d_determinant
  c_det_of : H_det_of T
  c_square_from : H_square_from T
abbrev i_ends_of : Nat := 641
/-- ends_of(items) depth 3 -/
def c_ends_of : List S :=
  [.ret (.tup [.call i_least_of [.var 0], .call i_most_of [.var 0]])]
def d_ends_of : FnD := ⟨1, 0, c_ends_of, true⟩
structure H_ends_of (T : Tab) : Prop where
  look : T.fns.lookup i_ends_of = some d_ends_of
  c_least_of : H_least_of T
  c_most_of : H_most_of T
abbrev i_has : Nat := 656
/-- has(span, item) depth 2 -/
def c_has : List S :=
  [.ret (.and (.not (.call i_below [.var 1, .ix (.var 0) (.lit (.int 0))])) (.not (.call i_below [.ix (.var 0) (.lit (.int 1)), .var 1])))]
def d_has : FnD := ⟨2, 0, c_has, true⟩
structure H_has (T : Tab) : Prop where
  look : T.fns.lookup i_has = some d_has
  c_below : H_below T
abbrev i_near_signs : Nat := 927
/-- near_signs(row, k, n, sign) depth 1 -/
def c_near_signs : List S :=
  [.ret (.lc false [1] (.bi .tuple [.lc false [2, 3] (.ite (.cmp .Eq (.var 2) (.var 1)) (.neg (.var 3)) (.var 3)) (.tup [.nm 2, .nm 3]) .enum [.var 0] []]) (.nm 1) .range [.bi .len [.var 0]] [])]
def d_near_signs : FnD := ⟨1, 3, c_near_signs, true⟩
structure H_near_signs (T : Tab) : Prop where
  look : T.fns.lookup i_near_signs = some d_near_signs
abbrev i_neighbours : Nat := 951
/-- neighbours(pair, rows, columns, near) depth 2 -/
def c_neighbours : List S :=
  [.asg (.tup [.nm 1, .nm 2]) (.var 0), .ret (.bin .Add (.lc false [3] (.tup [.var 3, .var 2]) (.nm 3) .one [.call i_near_signs [.var 1]] []) (.lc false [3] (.tup [.var 1, .var 3]) (.nm 3) .one [.call i_near_signs [.var 2]] []))]
def d_neighbours : FnD := ⟨1, 3, c_neighbours, true⟩
structure H_neighbours (T : Tab) : Prop where
  look : T.fns.lookup i_neighbours = some d_neighbours
  c_near_signs : H_near_signs T
abbrev i_singular_by : Nat := 1063
/-- singular_by(model, pair, here, first, other, there, last) depth 6 -/
def c_singular_by : List S :=
  [.for_ (.nm 1) .one [.call i_all_corners [.var 0]] [.asg (.nm 2) (.call i_corner_by [.var 0, .ix (.var 1) (.lit (.int 0)), .ix (.var 1) (.lit (.int 1))]), .asg (.nm 3) (.call i_det_of [.var 2]), .ite (.cmp .Eq (.ix (.var 3) (.lit (.int 0))) (.lit (.int 0))) [.ret (.var 2)] [], .for_ (.nm 4) .one [.call i_neighbours [.var 1]] [.asg (.nm 5) (.call i_corner_by [.var 0, .ix (.var 4) (.lit (.int 0)), .ix (.var 4) (.lit (.int 1))]), .asg (.nm 6) (.call i_det_of [.var 5]), .ite (.cmp .Lt (.bin .Mult (.ix (.var 3) (.lit (.int 0))) (.ix (.var 6) (.lit (.int 0)))) (.lit (.int 0))) [.ret (.call i_between [.var 2, .var 5, .call i_parted [.var 3, .call i_lessened [.var 3, .var 6]]])] []]], .ret (.lit (.non))]
def d_singular_by : FnD := ⟨1, 6, c_singular_by, true⟩
structure H_singular_by (T : Tab) : Prop where
  look : T.fns.lookup i_singular_by = some d_singular_by
  c_all_corners : H_all_corners T
  c_between : H_between T
  c_corner_by : H_corner_by T
  c_det_of : H_det_of T
  c_lessened : H_lessened T
  c_neighbours : H_neighbours T
  c_parted : H_parted T
abbrev i_need_regular : Nat := 940
/-- need_regular(model) depth 7 -/
def c_need_regular : List S :=
  [.expr (.call i_need_square [.var 0]), .ite (.cmp .IsNot (.call i_singular_by [.var 0]) (.lit (.non))) [.raise 0 []] []]
def d_need_regular : FnD := ⟨1, 0, c_need_regular, true⟩
structure H_need_regular (T : Tab) : Prop where
  look : T.fns.lookup i_need_regular = some d_need_regular
  c_need_square : H_need_square T
  c_singular_by : H_singular_by T
abbrev i_right_of : Nat := 1002
/-- right_of(model, rule, sign, span) depth 4 -/
def c_right_of : List S :=
  [.asg (.nm 3) (.ix (.ix (.attr (.var 0) a_rules) (.var 1)) (.lit (.int 3))), .ret (.call i_summed [.call i_middle_by [.var 3], .call i_scaled [.tup [.var 2, .lit (.int 1)], .call i_width_by [.var 3]]])]
def d_right_of : FnD := ⟨3, 1, c_right_of, true⟩
structure H_right_of (T : Tab) : Prop where
  look : T.fns.lookup i_right_of = some d_right_of
  c_middle_by : H_middle_by T
  c_scaled : H_scaled T
  c_summed : H_summed T
  c_width_by : H_width_by T
abbrev i_led_out : Nat := 901
/-- led_out(rows, wide, done, still, place, some, head, rest, row, item, spot) depth 4 -/
def c_led_out : List S :=
  [.par [2, 3] [.lst false [], .lc false [8] (.bi .tuple [.var 8]) (.nm 8) .one [.var 0] []], .for_ (.nm 4) .range [.var 1] [.asg (.nm 5) (.lc false [8] (.var 8) (.nm 8) .one [.var 3] [.cmp .NotEq (.ix (.ix (.var 8) (.var 4)) (.lit (.int 0))) (.lit (.int 0))]), .ite (.cmp .Gt (.bi .len [.var 5]) (.lit (.int 0))) [.asg (.nm 6) (.bi .tuple [.lc false [9] (.call i_parted [.var 9, .ix (.ix (.var 5) (.lit (.int 0))) (.var 4)]) (.nm 9) .one [.ix (.var 5) (.lit (.int 0))] []]), .asg (.nm 7) (.lc false [8] (.var 8) (.nm 8) .one [.var 3] [.cmp .Eq (.ix (.ix (.var 8) (.var 4)) (.lit (.int 0))) (.lit (.int 0))]), .asg (.nm 3) (.bin .Add (.var 7) (.lc false [8] (.call i_plus_times [.var 8, .call i_turned_sign [.ix (.var 8) (.var 4)], .var 6]) (.nm 8) .one [.slice (.var 5) [.lit (.int 1)] []] [])), .asg (.nm 2) (.bin .Add (.lc false [10, 8] (.tup [.var 10, .call i_plus_times [.var 8, .call i_turned_sign [.ix (.var 8) (.var 4)], .var 6]]) (.tup [.nm 10, .nm 8]) .one [.var 2] []) (.lst false [.tup [.var 4, .var 6]]))] []], .ret (.tup [.var 2, .var 3])]
def d_led_out : FnD := ⟨2, 9, c_led_out, true⟩
structure H_led_out (T : Tab) : Prop where
  look : T.fns.lookup i_led_out = some d_led_out
  c_parted : H_parted T
  c_plus_times : H_plus_times T
  c_turned_sign : H_turned_sign T
abbrev i_solved_row : Nat := 1076
/-- solved_row(rows, rights, wide, done, still, out, place, row, right) depth 5 -/
def c_solved_row : List S :=
  [.asg (.tup [.nm 3, .nm 4]) (.call i_led_out [.lc false [7, 8] (.bin .Add (.bi .tuple [.var 7]) (.tup [.var 8])) (.tup [.nm 7, .nm 8]) .zip [.var 0, .var 1] [], .var 2]), .ite (.bi .any [.lc false [7] (.cmp .NotEq (.ix (.ix (.var 7) (.var 2)) (.lit (.int 0))) (.lit (.int 0))) (.nm 7) .one [.var 4] []]) [.ret (.lit (.non))] [], .asg (.nm 5) (.binM .Mult (.lst false [.lit (.tup [.int 0, .int 1])]) (.var 2)), .for_ (.tup [.nm 6, .nm 7]) .one [.var 3] [.asg (.sub (.var 5) (.var 6)) (.ix (.var 7) (.var 2))], .ret (.bi .tuple [.var 5])]
def d_solved_row : FnD := ⟨3, 6, c_solved_row, true⟩
structure H_solved_row (T : Tab) : Prop where
  look : T.fns.lookup i_solved_row = some d_solved_row
  c_led_out : H_led_out T
abbrev i_signed_by : Nat := 1047
/-- signed_by(model, rows, many, rights, columns, point, rule, sign, item) depth 6 -/
def c_signed_by : List S :=
  [.asg (.nm 2) (.bi .len [.attr (.var 0) a_unknowns]), .asg (.nm 3) (.lc false [6, 7] (.call i_right_of [.var 0, .var 6, .var 7]) (.tup [.nm 6, .nm 7]) .zip [.call i_equations_by [.var 0], .var 1] []), .for_ (.nm 4) .one [.call i_all_signs [.var 2]] [.asg (.nm 5) (.call i_solved_row [.call i_corner_by [.var 0, .var 1, .var 4], .var 3, .var 2]), .ite (.bi .all [.lc false [8, 7] (.cmp .In (.call i_sign_of [.var 8]) (.tup [.lit (.int 0), .var 7])) (.tup [.nm 8, .nm 7]) .zip [.var 5, .var 4] []]) [.ret (.var 5)] []], .ret (.lit (.non))]
def d_signed_by : FnD := ⟨2, 7, c_signed_by, true⟩
structure H_signed_by (T : Tab) : Prop where
  look : T.fns.lookup i_signed_by = some d_signed_by
  c_all_signs : H_all_signs T
  c_corner_by : H_corner_by T
  c_equations_by : H_equations_by T
  c_right_of : H_right_of T
  c_sign_of : H_sign_of T
  c_solved_row : H_solved_row T
abbrev i_hull : Nat := 659
/-- hull(model, points, rows, k, point) depth 8 -/
def c_hull : List S :=
  [.expr (.call i_need_regular [.var 0]), .asg (.nm 1) (.lc false [2] (.call i_signed_by [.var 0, .var 2]) (.nm 2) .one [.call i_all_signs [.bi .len [.attr (.var 0) a_unknowns]]] []), .ret (.bi .tuple [.lc false [3] (.call i_ends_of [.lc false [4] (.ix (.var 4) (.var 3)) (.nm 4) .one [.var 1] []]) (.nm 3) .range [.bi .len [.attr (.var 0) a_unknowns]] []])]
def d_hull : FnD := ⟨1, 4, c_hull, true⟩
structure H_hull (T : Tab) : Prop where
  look : T.fns.lookup i_hull = some d_hull
  c_all_signs : H_all_signs T
  c_ends_of : H_ends_of T
  c_need_regular : H_need_regular T
  c_signed_by : H_signed_by T
abbrev i_unit_row : Nat := 1122
/-- unit_row(many, place, k) depth 1 -/
def c_unit_row : List S :=
  [.ret (.bi .tuple [.lc false [2] (.ite (.cmp .Eq (.var 2) (.var 1)) (.lit (.tup [.int 1, .int 1])) (.lit (.tup [.int 0, .int 1]))) (.nm 2) .range [.var 0] []])]
def d_unit_row : FnD := ⟨2, 1, c_unit_row, true⟩
structure H_unit_row (T : Tab) : Prop where
  look : T.fns.lookup i_unit_row = some d_unit_row
abbrev i_null_row : Nat := 954
/-- null_row(rows, wide, done, heads, place, out, head, row) depth 5 -/
def c_null_row : List S :=
  [.asg (.nm 2) (.ix (.call i_led_out [.var 0, .var 1]) (.lit (.int 0))), .asg (.nm 3) (.lc false [4, 7] (.var 4) (.tup [.nm 4, .nm 7]) .one [.var 2] []), .for_ (.nm 4) .range [.var 1] [.ite (.cmp .NotIn (.var 4) (.var 3)) [.asg (.nm 5) (.biM .list [.call i_unit_row [.var 1, .var 4]]), .for_ (.tup [.nm 6, .nm 7]) .one [.var 2] [.asg (.sub (.var 5) (.var 6)) (.call i_turned_sign [.ix (.var 7) (.var 4)])], .ret (.bi .tuple [.var 5])] []], .ret (.lit (.non))]
def d_null_row : FnD := ⟨2, 6, c_null_row, true⟩
structure H_null_row (T : Tab) : Prop where
  look : T.fns.lookup i_null_row = some d_null_row
  c_led_out : H_led_out T
  c_turned_sign : H_turned_sign T
  c_unit_row : H_unit_row T
abbrev i_regular_by : Nat := 997
/-- regular_by(model, made) depth 7 -/
def c_regular_by : List S :=
  [.ite (.call i_is_oblong [.var 0]) [.ret (.tup [.mk k_Oblong [], .lit (.non)])] [], .asg (.nm 1) (.call i_singular_by [.var 0]), .ret (.ite (.cmp .Is (.var 1) (.lit (.non))) (.tup [.mk k_Regular [], .lit (.non)]) (.tup [.mk k_Singular [.var 1], .call i_null_row [.var 1, .bi .len [.attr (.var 0) a_unknowns]]]))]
def d_regular_by : FnD := ⟨1, 1, c_regular_by, true⟩
structure H_regular_by (T : Tab) : Prop where
  look : T.fns.lookup i_regular_by = some d_regular_by
  c_Singular___init__ : H_Singular___init__ T
  c_is_oblong : H_is_oblong T
  c_null_row : H_null_row T
  c_singular_by : H_singular_by T
  k_Oblong : T.clss.lookup k_Oblong = some kc_Oblong
  k_Regular : T.clss.lookup k_Regular = some kc_Regular
  k_Singular : T.clss.lookup k_Singular = some kc_Singular
abbrev i_spans_of : Nat := 1086
/-- spans_of(tables, many, out, k, n, table) depth 4 -/
def c_spans_of : List S :=
  [.asg (.nm 2) (.lst true []), .for_ (.nm 3) .range [.var 1] [.expr (.bm (.var 2) .append [.bi .tuple [.lc false [4] (.call i_ends_of [.lc false [5] (.ix (.ix (.var 5) (.var 3)) (.var 4)) (.nm 5) .one [.var 0] []]) (.nm 4) .range [.var 1] []]])], .ret (.bi .tuple [.var 2])]
def d_spans_of : FnD := ⟨2, 4, c_spans_of, true⟩
structure H_spans_of (T : Tab) : Prop where
  look : T.fns.lookup i_spans_of = some d_spans_of
  c_ends_of : H_ends_of T
abbrev i_turned_by : Nat := 1115
/-- turned_by(table, many, columns, place, column) depth 6 -/
def c_turned_by : List S :=
  [.asg (.nm 1) (.bi .len [.var 0]), .asg (.nm 2) (.lc false [3] (.call i_solved_row [.var 0, .call i_unit_row [.var 1, .var 3], .var 1]) (.nm 3) .range [.var 1] []), .ite (.cmp .Eq (.ix (.call i_det_of [.var 0]) (.lit (.int 0))) (.lit (.int 0))) [.ret (.lit (.non))] [], .ret (.bi .tuple [.lc false [3] (.bi .tuple [.lc false [4] (.ix (.var 4) (.var 3)) (.nm 4) .one [.var 2] []]) (.nm 3) .range [.var 1] []])]
def d_turned_by : FnD := ⟨1, 4, c_turned_by, true⟩
structure H_turned_by (T : Tab) : Prop where
  look : T.fns.lookup i_turned_by = some d_turned_by
  c_det_of : H_det_of T
  c_solved_row : H_solved_row T
  c_unit_row : H_unit_row T
abbrev i_inverse_by : Nat := 666
/-- inverse_by(model, told, asked, tables, rows, columns) depth 8 -/
def c_inverse_by : List S :=
  [.asg (.tup [.nm 1, .nm 2]) (.call i_regular_by [.var 0]), .ite (.not (.bi .isinstance [.var 1, .lit (.cls k_Regular)])) [.ret (.tup [.var 1, .var 2])] [], .asg (.nm 3) (.lc false [4, 5] (.call i_turned_by [.call i_corner_by [.var 0, .var 4, .var 5]]) (.tup [.nm 4, .nm 5]) .one [.call i_all_corners [.var 0]] []), .ret (.tup [.mk k_Inverse [.call i_spans_of [.var 3, .bi .len [.attr (.var 0) a_unknowns]]], .lit (.non)])]
def d_inverse_by : FnD := ⟨1, 5, c_inverse_by, true⟩
structure H_inverse_by (T : Tab) : Prop where
  look : T.fns.lookup i_inverse_by = some d_inverse_by
  c_Inverse___init__ : H_Inverse___init__ T
  c_all_corners : H_all_corners T
  c_corner_by : H_corner_by T
  c_regular_by : H_regular_by T
  c_spans_of : H_spans_of T
  c_turned_by : H_turned_by T
  k_Inverse : T.clss.lookup k_Inverse = some kc_Inverse
abbrev i_inverse : Nat := 663
/-- inverse(model) depth 9 -/
def c_inverse : List S :=
  [.expr (.call i_need_model [.var 0]), .ret (.call i_inverse_by [.var 0])]
def d_inverse : FnD := ⟨1, 0, c_inverse, true⟩
structure H_inverse (T : Tab) : Prop where
  look : T.fns.lookup i_inverse = some d_inverse
  c_inverse_by : H_inverse_by T
  c_need_model : H_need_model T
abbrev i_is_told : Nat := 776
/-- is_told(value) depth 3 -/
def c_is_told : List S :=
  [.ret (.and (.bi .isinstance [.var 0, .lit (.ty .tup)]) (.and (.call i_is_pair [.var 0]) (.cmp .Eq (.bi .gcd [.ix (.var 0) (.lit (.int 0)), .ix (.var 0) (.lit (.int 1))]) (.lit (.int 1)))))]
def d_is_told : FnD := ⟨1, 0, c_is_told, true⟩
structure H_is_told (T : Tab) : Prop where
  look : T.fns.lookup i_is_told = some d_is_told
  c_is_pair : H_is_pair T
abbrev i_is_row_told : Nat := 752
/-- is_row_told(value, many, item) depth 4 -/
def c_is_row_told : List S :=
  [.ret (.and (.call i_is_tuple_of [.var 0, .var 1]) (.bi .all [.lc false [2] (.call i_is_told [.var 2]) (.nm 2) .one [.var 0] []]))]
def d_is_row_told : FnD := ⟨2, 1, c_is_row_told, true⟩
structure H_is_row_told (T : Tab) : Prop where
  look : T.fns.lookup i_is_row_told = some d_is_row_told
  c_is_told : H_is_told T
  c_is_tuple_of : H_is_tuple_of T
abbrev i_is_table_told : Nat := 774
/-- is_table_told(value, tall, wide, row) depth 5 -/
def c_is_table_told : List S :=
  [.ret (.and (.call i_is_tuple_of [.var 0, .var 1]) (.bi .all [.lc false [3] (.call i_is_row_told [.var 3, .var 2]) (.nm 3) .one [.var 0] []]))]
def d_is_table_told : FnD := ⟨3, 1, c_is_table_told, true⟩
structure H_is_table_told (T : Tab) : Prop where
  look : T.fns.lookup i_is_table_told = some d_is_table_told
  c_is_row_told : H_is_row_told T
  c_is_tuple_of : H_is_tuple_of T
abbrev i_is_chosen : Nat := 690
/-- is_chosen(model, value, rows, many, row, own, span, item) depth 6 -/
def c_is_chosen : List S :=
  [.par [2, 3] [.call i_table_of [.var 0], .bi .len [.attr (.var 0) a_unknowns]], .ite (.not (.call i_is_table_told [.var 1, .bi .len [.var 2], .var 3])) [.ret (.lit (.bl false))] [], .ret (.bi .all [.lc false [4, 5] (.bi .all [.lc false [6, 7] (.call i_has [.var 6, .var 7]) (.tup [.nm 6, .nm 7]) .zip [.var 4, .var 5] []]) (.tup [.nm 4, .nm 5]) .zip [.var 2, .var 1] []])]
def d_is_chosen : FnD := ⟨2, 6, c_is_chosen, true⟩
structure H_is_chosen (T : Tab) : Prop where
  look : T.fns.lookup i_is_chosen = some d_is_chosen
  c_has : H_has T
  c_is_table_told : H_is_table_told T
  c_table_of : H_table_of T
abbrev i_is_met : Nat := 717
/-- is_met(rule, row, right, point, made) depth 4 -/
def c_is_met : List S :=
  [.asg (.nm 4) (.call i_dot_of [.var 1, .var 3]), .ret (.ite (.cmp .Eq (.ix (.var 0) (.lit (.int 2))) (.lit (.str "is"))) (.cmp .Eq (.var 4) (.var 2)) (.not (.call i_below [.var 2, .var 4])))]
def d_is_met : FnD := ⟨4, 1, c_is_met, true⟩
structure H_is_met (T : Tab) : Prop where
  look : T.fns.lookup i_is_met = some d_is_met
  c_below : H_below T
  c_dot_of : H_dot_of T
abbrev i_size_of : Nat := 1065
/-- size_of(item) depth 1 -/
def c_size_of : List S :=
  [.ret (.tup [.bi .abs [.ix (.var 0) (.lit (.int 0))], .ix (.var 0) (.lit (.int 1))])]
def d_size_of : FnD := ⟨1, 0, c_size_of, true⟩
structure H_size_of (T : Tab) : Prop where
  look : T.fns.lookup i_size_of = some d_size_of
abbrev i_room_by : Nat := 1008
/-- room_by(word, rule, point, made, right, gap, ends, first) depth 5 -/
def c_room_by : List S :=
  [.par [3, 4] [.call i_reach_by [.var 1, .var 2], .ix (.var 1) (.lit (.int 3))], .asg (.nm 5) (.call i_lessened [.call i_middle_by [.var 4], .call i_middle_by [.var 3]]), .asg (.nm 6) (.tup [.call i_scaled [.tup [.kix ["some", "held", "bears", "steers"] [.int 1, .int (-1), .int (-1), .int 1] (.var 0), .lit (.int 1)], .call i_width_by [.var 3]], .call i_scaled [.tup [.kix ["some", "held", "bears", "steers"] [.int 1, .int (-1), .int 1, .int (-1)] (.var 0), .lit (.int 1)], .call i_width_by [.var 4]]]), .asg (.nm 7) (.ite (.cmp .Eq (.ix (.var 1) (.lit (.int 2))) (.lit (.str "is"))) (.call i_turned_sign [.call i_size_of [.var 5]]) (.var 5)), .ret (.call i_summed [.var 7, .call i_summed [.ix (.var 6) (.lit (.int 0)), .ix (.var 6) (.lit (.int 1))]])]
def d_room_by : FnD := ⟨3, 5, c_room_by, true⟩
structure H_room_by (T : Tab) : Prop where
  look : T.fns.lookup i_room_by = some d_room_by
  c_lessened : H_lessened T
  c_middle_by : H_middle_by T
  c_reach_by : H_reach_by T
  c_scaled : H_scaled T
  c_size_of : H_size_of T
  c_summed : H_summed T
  c_turned_sign : H_turned_sign T
  c_width_by : H_width_by T
abbrev i_is_of : Nat := 724
/-- is_of(model, word, point, rule) depth 6 -/
def c_is_of : List S :=
  [.ret (.bi .all [.lc false [3] (.cmp .GtE (.ix (.call i_room_by [.var 1, .var 3, .var 2]) (.lit (.int 0))) (.lit (.int 0))) (.nm 3) .one [.attr (.var 0) a_rules] []])]
def d_is_of : FnD := ⟨3, 1, c_is_of, true⟩
structure H_is_of (T : Tab) : Prop where
  look : T.fns.lookup i_is_of = some d_is_of
  c_room_by : H_room_by T
abbrev i_need_word : Nat := 949
/-- need_word(word) depth 1 -/
def c_need_word : List S :=
  [.ite (.or (.not (.bi .isinstance [.var 0, .lit (.ty .str)])) (.cmp .NotIn (.var 0) (.lit (.tup [.str "some", .str "held", .str "bears", .str "steers"])))) [.raise 0 []] []]
def d_need_word : FnD := ⟨1, 0, c_need_word, true⟩
structure H_need_word (T : Tab) : Prop where
  look : T.fns.lookup i_need_word = some d_need_word
abbrev i_is_point_of : Nat := 735
/-- is_point_of(model, word, value) depth 7 -/
def c_is_point_of : List S :=
  [.expr (.call i_need_model [.var 0]), .expr (.call i_need_word [.var 1]), .ret (.and (.call i_is_row_told [.var 2, .bi .len [.attr (.var 0) a_unknowns]]) (.call i_is_of [.var 0, .var 1, .var 2]))]
def d_is_point_of : FnD := ⟨3, 0, c_is_point_of, true⟩
structure H_is_point_of (T : Tab) : Prop where
  look : T.fns.lookup i_is_point_of = some d_is_point_of
  c_is_of : H_is_of T
  c_is_row_told : H_is_row_told T
  c_need_model : H_need_model T
  c_need_word : H_need_word T
abbrev i_is_singular : Nat := 761
/-- is_singular(model, answer, row, item, own) depth 7 -/
def c_is_singular : List S :=
  [.ite (.or (.call i_is_oblong [.var 0]) (.or (.not (.call i_is_chosen [.var 0, .attr (.var 1) a_coefs])) (.not (.call i_is_row_told [.var 2, .bi .len [.attr (.var 0) a_unknowns]])))) [.ret (.lit (.bl false))] [], .ite (.bi .all [.lc false [3] (.cmp .Eq (.ix (.var 3) (.lit (.int 0))) (.lit (.int 0))) (.nm 3) .one [.var 2] []]) [.ret (.lit (.bl false))] [], .ret (.bi .all [.lc false [4] (.cmp .Eq (.ix (.call i_dot_of [.var 4, .var 2]) (.lit (.int 0))) (.lit (.int 0))) (.nm 4) .one [.attr (.var 1) a_coefs] []])]
def d_is_singular : FnD := ⟨3, 2, c_is_singular, true⟩
structure H_is_singular (T : Tab) : Prop where
  look : T.fns.lookup i_is_singular = some d_is_singular
  c_dot_of : H_dot_of T
  c_is_chosen : H_is_chosen T
  c_is_oblong : H_is_oblong T
  c_is_row_told : H_is_row_told T
abbrev i_is_regular : Nat := 747
/-- is_regular(model, value) depth 8 -/
def c_is_regular : List S :=
  [.expr (.call i_need_model [.var 0]), .ite (.not (.call i_is_tuple_of [.var 1, .lit (.int 2)])) [.ret (.lit (.bl false))] [], .ite (.bi .isinstance [.ix (.var 1) (.lit (.int 0)), .lit (.cls k_Singular)]) [.ret (.call i_is_singular [.var 0, .ix (.var 1) (.lit (.int 0)), .ix (.var 1) (.lit (.int 1))])] [], .ite (.bi .isinstance [.ix (.var 1) (.lit (.int 0)), .lit (.cls k_Oblong)]) [.ret (.and (.cmp .Is (.ix (.var 1) (.lit (.int 1))) (.lit (.non))) (.call i_is_oblong [.var 0]))] [], .ite (.or (.not (.bi .isinstance [.ix (.var 1) (.lit (.int 0)), .lit (.cls k_Regular)])) (.or (.cmp .IsNot (.ix (.var 1) (.lit (.int 1))) (.lit (.non))) (.call i_is_oblong [.var 0]))) [.ret (.lit (.bl false))] [], .ret (.cmp .Is (.call i_singular_by [.var 0]) (.lit (.non)))]
def d_is_regular : FnD := ⟨2, 0, c_is_regular, true⟩
structure H_is_regular (T : Tab) : Prop where
  look : T.fns.lookup i_is_regular = some d_is_regular
  c_is_oblong : H_is_oblong T
  c_is_singular : H_is_singular T
  c_is_tuple_of : H_is_tuple_of T
  c_need_model : H_need_model T
  c_singular_by : H_singular_by T
abbrev i_is_within : Nat := 784
/-- is_within(first, second) depth 2 -/
def c_is_within : List S :=
  [.ret (.and (.not (.call i_below [.ix (.var 0) (.lit (.int 0)), .ix (.var 1) (.lit (.int 0))])) (.not (.call i_below [.ix (.var 1) (.lit (.int 1)), .ix (.var 0) (.lit (.int 1))])))]
def d_is_within : FnD := ⟨2, 0, c_is_within, true⟩
structure H_is_within (T : Tab) : Prop where
  look : T.fns.lookup i_is_within = some d_is_within
  c_below : H_below T
abbrev i_joined : Nat := 791
/-- joined(one, other, first, second) depth 6 -/
def c_joined : List S :=
  [.asg (.tup [.nm 2, .nm 3]) (.call i_both_from [.var 0, .var 1]), .ret (.tup [.call i_least_of [.lst false [.ix (.var 2) (.lit (.int 0)), .ix (.var 3) (.lit (.int 0))]], .call i_most_of [.lst false [.ix (.var 2) (.lit (.int 1)), .ix (.var 3) (.lit (.int 1))]]])]
def d_joined : FnD := ⟨2, 2, c_joined, true⟩
structure H_joined (T : Tab) : Prop where
  look : T.fns.lookup i_joined = some d_joined
  c_both_from : H_both_from T
  c_least_of : H_least_of T
  c_most_of : H_most_of T
abbrev i_kinds_of : Nat := 792
/-- kinds_of(model, point, spot, word) depth 7 -/
def c_kinds_of : List S :=
  [.expr (.call i_need_model [.var 0]), .asg (.nm 2) (.call i_point_from [.var 0, .var 1]), .ret (.bi .tuple [.lc false [3] (.var 3) (.nm 3) .one [.lit (.tup [.str "some", .str "held", .str "bears", .str "steers"])] [.call i_is_of [.var 0, .var 3, .var 2]]])]
def d_kinds_of : FnD := ⟨2, 2, c_kinds_of, true⟩
structure H_kinds_of (T : Tab) : Prop where
  look : T.fns.lookup i_kinds_of = some d_kinds_of
  c_is_of : H_is_of T
  c_need_model : H_need_model T
  c_point_from : H_point_from T
abbrev i_regular : Nat := 996
/-- regular(model) depth 8 -/
def c_regular : List S :=
  [.expr (.call i_need_model [.var 0]), .ret (.call i_regular_by [.var 0])]
def d_regular : FnD := ⟨1, 0, c_regular, true⟩
structure H_regular (T : Tab) : Prop where
  look : T.fns.lookup i_regular = some d_regular
  c_need_model : H_need_model T
  c_regular_by : H_regular_by T
abbrev i_law_k30 : Nat := 795
/-- law_k30(script, pen, b, c, a, d, book, model, dets, entries, points, p, q, value, due, first, second, side, rights, steps, told_v, xs, ys, x, s, r, k, n, one, point) depth 10 -/
def c_law_k30 : List S :=
  [.asg (.nm 1) (.call i__law_pen [.var 0]), .par [2, 3] [.call i__law_span [.var 1, .lit (.bl true)], .call i__law_span [.var 1, .lit (.bl true)]], .par [4, 5] [.call i__law_sum [.lst false [.tup [.lit (.int 3), .lit (.int 1)], .call i__law_size [.ix (.var 2) (.lit (.int 0))], .call i__law_size [.ix (.var 2) (.lit (.int 1))]]], .call i__law_sum [.lst false [.tup [.lit (.int 3), .lit (.int 1)], .call i__law_size [.ix (.var 3) (.lit (.int 0))], .call i__law_size [.ix (.var 3) (.lit (.int 1))]]]], .asg (.nm 6) (.call 384 [.lst false [.tup [.tup [.var 4, .var 4], .var 2], .tup [.var 3, .tup [.var 5, .var 5]]], .lst false [.tup [.tup [.lit (.int 1), .lit (.int 1)], .tup [.lit (.int 1), .lit (.int 1)]], .tup [.tup [.lit (.int 1), .lit (.int 1)], .tup [.lit (.int 1), .lit (.int 1)]]]]), .asg (.tup [.nm 7, .nm 8, .nm 9, .nm 10]) (.tup [.call i__law_built [.var 6], .lst true [], .lst true [], .lst true []]), .for_ (.nm 11) .one [.var 2] [.for_ (.nm 12) .one [.var 3] [.asg (.nm 13) (.call i__law_minus [.call i__law_times [.var 4, .var 5], .call i__law_times [.var 11, .var 12]]), .ite (.cmp .NotEq (.call i_determinant [.tup [.tup [.var 4, .var 11], .tup [.var 12, .var 5]]]) (.var 13)) [.ret (.lit (.bl false))] [], .expr (.bm (.var 8) .append [.var 13]), .expr (.bm (.var 9) .append [.lst false [.lst false [.call i__law_share [.var 5, .var 13], .call i__law_share [.call i__law_turn [.var 11], .var 13]], .lst false [.call i__law_share [.call i__law_turn [.var 12], .var 13], .call i__law_share [.var 4, .var 13]]]]), .expr (.bm (.var 10) .append [.tup [.call i__law_share [.call i__law_minus [.var 5, .var 11], .var 13], .call i__law_share [.call i__law_minus [.var 4, .var 12], .var 13]]])]], .ite (.or (.bi .any [.lc false [13] (.cmp .LtE (.ix (.var 13) (.lit (.int 0))) (.lit (.int 0))) (.nm 13) .one [.var 8] []]) (.or (.cmp .NotEq (.call i_regular [.var 7]) (.tup [.mk k_Regular [], .lit (.non)])) (.cmp .NotEq (.call i_corner_signs [.var 7]) (.tup [.lit (.int 1)])))) [.ret (.lit (.bl false))] [], .asg (.nm 14) (.bi .tuple [.lc false [26] (.bi .tuple [.lc false [27] (.call i__law_span_of [.lc false [28] (.ix (.ix (.var 28) (.var 26)) (.var 27)) (.nm 28) .one [.var 9] []]) (.nm 27) .range [.lit (.int 2)] []]) (.nm 26) .range [.lit (.int 2)] []]), .ite (.or (.cmp .NotEq (.call i_inverse [.var 7]) (.tup [.mk k_Inverse [.var 14], .lit (.non)])) (.cmp .NotEq (.call i_hull [.var 7]) (.bi .tuple [.lc false [26] (.call i__law_span_of [.lc false [29] (.ix (.var 29) (.var 26)) (.nm 29) .one [.var 10] []]) (.nm 26) .range [.lit (.int 2)] []]))) [.ret (.lit (.bl false))] [], .ite (.not (.bi .all [.lc false [29] (.call i_is_point_of [.var 7, .lit (.str "some"), .var 29]) (.nm 29) .one [.var 10] []])) [.ret (.lit (.bl false))] [], .par [15, 16] [.call i__law_pick [.var 1, .lst false [.tup [.tup [.lit (.int 1), .lit (.int 1)], .tup [.lit (.int 2), .lit (.int 1)]], .tup [.tup [.neg (.lit (.int 3)), .lit (.int 1)], .tup [.neg (.lit (.int 1)), .lit (.int 1)]], .tup [.tup [.lit (.int 1), .lit (.int 2)], .tup [.lit (.int 1), .lit (.int 1)]]]], .call i__law_pick [.var 1, .lst false [.tup [.tup [.lit (.int 1), .lit (.int 1)], .tup [.lit (.int 1), .lit (.int 1)]], .tup [.tup [.lit (.int 2), .lit (.int 1)], .tup [.lit (.int 4), .lit (.int 1)]]]]], .par [17, 18] [.call i__law_span [.var 1, .lit (.bl true)], .lst false [.call i__law_free_span [.var 1], .call i__law_free_span [.var 1]]], .asg (.nm 19) (.call i__law_built [.call 384 [.lst false [.tup [.var 15, .tup [.tup [.lit (.int 0), .lit (.int 1)], .tup [.lit (.int 0), .lit (.int 1)]]], .tup [.var 17, .var 16]], .var 18]]), .ite (.cmp .NotEq (.call i_regular [.var 19]) (.tup [.mk k_Regular [], .lit (.non)])) [.ret (.lit (.bl false))] [], .asg (.nm 20) (.call i_hull [.var 19]), .asg (.nm 21) (.call i__law_span_of [.lc false [11, 12] (.call i__law_share [.var 11, .var 12]) (.tup [.nm 11, .nm 12]) .one [.tup [.tup [.ix (.ix (.var 18) (.lit (.int 0))) (.lit (.int 0)), .ix (.var 15) (.lit (.int 0))], .tup [.ix (.ix (.var 18) (.lit (.int 0))) (.lit (.int 0)), .ix (.var 15) (.lit (.int 1))], .tup [.ix (.ix (.var 18) (.lit (.int 0))) (.lit (.int 1)), .ix (.var 15) (.lit (.int 0))], .tup [.ix (.ix (.var 18) (.lit (.int 0))) (.lit (.int 1)), .ix (.var 15) (.lit (.int 1))]]] []]), .asg (.nm 22) (.lst false []), .for_ (.nm 23) .one [.var 21] [.for_ (.nm 24) .one [.var 17] [.for_ (.nm 25) .one [.ix (.var 18) (.lit (.int 1))] [.asg (.nm 22) (.bin .Add (.var 22) (.lc false [12] (.call i__law_share [.call i__law_minus [.var 25, .call i__law_times [.var 24, .var 23]], .var 12]) (.nm 12) .one [.var 16] []))]]], .ret (.cmp .Eq (.var 20) (.tup [.var 21, .call i__law_span_of [.var 22]]))]
def d_law_k30 : FnD := ⟨1, 29, c_law_k30, true⟩
structure H_law_k30 (T : Tab) : Prop where
  look : T.fns.lookup i_law_k30 = some d_law_k30
  c_Inverse___init__ : H_Inverse___init__ T
  c__law_built : H__law_built T
  c__law_free_span : H__law_free_span T
  c__law_minus : H__law_minus T
  c__law_pen : H__law_pen T
  c__law_pick : H__law_pick T
  c__law_share : H__law_share T
  c__law_size : H__law_size T
  c__law_span : H__law_span T
  c__law_span_of : H__law_span_of T
  c__law_sum : H__law_sum T
  c__law_times : H__law_times T
  c__law_turn : H__law_turn T
  c_corner_signs : H_corner_signs T
  c_determinant : H_determinant T
  c_hull : H_hull T
  c_inverse : H_inverse T
  c_is_point_of : H_is_point_of T
  c_regular : H_regular T
  k_Regular : T.clss.lookup k_Regular = some kc_Regular
  k_Inverse : T.clss.lookup k_Inverse = some kc_Inverse
abbrev i_signed_point : Nat := 1049
/-- signed_point(model, rows) depth 8 -/
def c_signed_point : List S :=
  [.expr (.call i_need_regular [.var 0]), .ret (.call i_signed_by [.var 0, .call i_signs_from [.var 1, .bi .len [.attr (.var 0) a_unknowns]]])]
def d_signed_point : FnD := ⟨2, 0, c_signed_point, true⟩
structure H_signed_point (T : Tab) : Prop where
  look : T.fns.lookup i_signed_point = some d_signed_point
  c_need_regular : H_need_regular T
  c_signed_by : H_signed_by T
  c_signs_from : H_signs_from T
abbrev i_solves : Nat := 1078
/-- solves(model, coefs, rights, point, first, second, spot, rule, row, item) depth 8 -/
def c_solves : List S :=
  [.expr (.call i_need_model [.var 0]), .asg (.tup [.nm 4, .nm 5]) (.call i_choice_from [.var 0, .var 1, .var 2]), .asg (.nm 6) (.call i_point_from [.var 0, .var 3]), .ret (.bi .all [.lc false [7, 8, 9] (.call i_is_met [.var 7, .var 8, .var 9, .var 6]) (.tup [.nm 7, .nm 8, .nm 9]) .zip [.attr (.var 0) a_rules, .var 4, .var 5] []])]
def d_solves : FnD := ⟨4, 6, c_solves, true⟩
structure H_solves (T : Tab) : Prop where
  look : T.fns.lookup i_solves = some d_solves
  c_choice_from : H_choice_from T
  c_is_met : H_is_met T
  c_need_model : H_need_model T
  c_point_from : H_point_from T
abbrev i_times_spans : Nat := 1106
/-- times_spans(one, other, first, second) depth 6 -/
def c_times_spans : List S :=
  [.asg (.tup [.nm 2, .nm 3]) (.call i_both_from [.var 0, .var 1]), .ret (.call i_product_by [.var 2, .var 3])]
def d_times_spans : FnD := ⟨2, 2, c_times_spans, true⟩
structure H_times_spans (T : Tab) : Prop where
  look : T.fns.lookup i_times_spans = some d_times_spans
  c_both_from : H_both_from T
  c_product_by : H_product_by T
abbrev i_within : Nat := 1139
/-- within(one, other, first, second) depth 6 -/
def c_within : List S :=
  [.asg (.tup [.nm 2, .nm 3]) (.call i_both_from [.var 0, .var 1]), .ret (.call i_is_within [.var 2, .var 3])]
def d_within : FnD := ⟨2, 2, c_within, true⟩
structure H_within (T : Tab) : Prop where
  look : T.fns.lookup i_within = some d_within
  c_both_from : H_both_from T
  c_is_within : H_is_within T
abbrev i_law_k28 : Nat := 806
/-- law_k28(script, pen, book, many, equal, model, told_v, turn, coefs, rights, point, points, k, span, choice, rules, thin, back, due, entry, rule, low, right, more, row, item, rows) depth 10 -/
def c_law_k28 : List S :=
  [.asg (.nm 1) (.call i__law_pen [.var 0]), .asg (.nm 2) (.call i__law_square [.var 1, .lit (.int 3)]), .asg (.nm 3) (.bi .len [.ix (.var 2) (.lit (.str "unknowns"))]), .asg (.nm 4) (.call i__law_with [.var 2, .lit (.str "rules"), .lc false [20] (.var 20) (.nm 20) .one [.ix (.var 2) (.lit (.str "rules"))] [.cmp .Eq (.ix (.var 20) (.lit (.int 2))) (.lit (.str "is"))]]), .asg (.nm 5) (.call i__law_built [.var 4]), .ite (.not (.bi .isinstance [.ix (.call i_regular [.var 5]) (.lit (.int 0)), .lit (.cls k_Regular)])) [.ret (.lit (.bl true))] [], .asg (.nm 6) (.call i_hull [.var 5]), .ite (.cmp .NotEq (.call i_hull [.call i__law_built [.var 2]]) (.var 6)) [.ret (.lit (.bl false))] [], .for_ (.nm 7) .range [.lit (.int 3)] [.asg (.tup [.nm 8, .nm 9]) (.call i__law_some_choice [.var 1, .var 4]), .asg (.nm 10) (.bi .tuple [.call i__law_solved [.lc false [24, 22] (.bin .Add (.bi .list [.var 24]) (.lst false [.var 22])) (.tup [.nm 24, .nm 22]) .zip [.var 8, .var 9] [], .var 3]]), .ite (.or (.bi .any [.lc false [25, 13] (.not (.call i__law_within [.var 25, .var 13])) (.tup [.nm 25, .nm 13]) .zip [.var 10, .var 6] []]) (.cmp .IsNot (.call i_solves [.var 5, .var 8, .var 9, .var 10]) (.lit (.bl true)))) [.ret (.lit (.bl false))] []], .asg (.nm 11) (.lc false [26] (.call i_signed_point [.var 5, .var 26]) (.nm 26) .one [.call i__law_signs [.var 3]] []), .for_ (.tup [.nm 12, .nm 13]) .enum [.var 6] [.ite (.cmp .NotEq (.var 13) (.call i__law_span_of [.lc false [10] (.ix (.var 10) (.var 12)) (.nm 10) .one [.var 11] []])) [.ret (.lit (.bl false))] []], .for_ (.nm 10) .one [.var 11] [.asg (.nm 14) (.call i_choice_for [.var 5, .var 10]), .ite (.or (.cmp .Is (.var 14) (.lit (.non))) (.not (.call i__law_solves [.var 4, .ix (.var 14) (.lit (.int 0)), .ix (.var 14) (.lit (.int 1)), .var 10]))) [.ret (.lit (.bl false))] []], .asg (.nm 15) (.lc false [20] (.tup [.ix (.var 20) (.lit (.int 0)), .bi .tuple [.lc false [13] (.bin .Mult (.tup [.call i__law_middle [.var 13]]) (.lit (.int 2))) (.nm 13) .one [.ix (.var 20) (.lit (.int 1))] []], .lit (.str "is"), .ix (.var 20) (.lit (.int 3))]) (.nm 20) .one [.ix (.var 4) (.lit (.str "rules"))] []), .asg (.nm 16) (.call i__law_built [.call i__law_with [.var 4, .lit (.str "rules"), .var 15]]), .asg (.nm 17) (.attr (.ix (.call i_inverse [.var 16]) (.lit (.int 0))) a_rows), .for_ (.tup [.nm 12, .nm 13]) .enum [.call i_hull [.var 16]] [.asg (.nm 18) (.tup [.tup [.lit (.int 0), .lit (.int 1)], .tup [.lit (.int 0), .lit (.int 1)]]), .for_ (.tup [.nm 19, .nm 20]) .zip [.ix (.var 17) (.var 12), .var 15] [.asg (.nm 18) (.call i_plus_spans [.var 18, .call i_times_spans [.var 19, .ix (.var 20) (.lit (.int 3))]])], .ite (.or (.cmp .NotEq (.var 13) (.var 18)) (.cmp .IsNot (.call i_within [.var 13, .ix (.var 6) (.var 12)]) (.lit (.bl true)))) [.ret (.lit (.bl false))] []], .asg (.tup [.nm 21, .nm 22]) (.tup [.call i__law_pick [.var 1, .lst false [.tup [.lit (.int 1), .lit (.int 1)], .tup [.lit (.int 2), .lit (.int 1)], .tup [.lit (.int 1), .lit (.int 2)]]], .call i__law_free_span [.var 1]]), .asg (.nm 23) (.dct false [.inr "unknowns", .inr "rules", .inr "costs", .inr "asks"] [.bin .Add (.ix (.var 4) (.lit (.str "unknowns"))) (.tup [.lit (.str "z9")]), .lc true [20] (.tup [.ix (.var 20) (.lit (.int 0)), .bin .Add (.ix (.var 20) (.lit (.int 1))) (.tup [.tup [.tup [.lit (.int 0), .lit (.int 1)], .tup [.lit (.int 0), .lit (.int 1)]]]), .lit (.str "is"), .ix (.var 20) (.lit (.int 3))]) (.nm 20) .one [.ix (.var 4) (.lit (.str "rules"))] [], .lst false [], .lst false []]), .expr (.bm (.ix (.var 23) (.lit (.str "rules"))) .append [.tup [.lit (.str "z8"), .bin .Add (.bin .Mult (.tup [.tup [.tup [.lit (.int 0), .lit (.int 1)], .tup [.lit (.int 0), .lit (.int 1)]]]) (.var 3)) (.tup [.tup [.var 21, .var 21]]), .lit (.str "is"), .var 22]]), .ret (.or (.cmp .Gt (.var 3) (.lit (.int 2))) (.cmp .Eq (.call i_hull [.call i__law_built [.var 23]]) (.bin .Add (.var 6) (.tup [.call i__law_span_of [.lc false [25] (.call i__law_share [.var 25, .var 21]) (.nm 25) .one [.var 22] []]]))))]
def d_law_k28 : FnD := ⟨1, 26, c_law_k28, true⟩
structure H_law_k28 (T : Tab) : Prop where
  look : T.fns.lookup i_law_k28 = some d_law_k28
  c__law_built : H__law_built T
  c__law_free_span : H__law_free_span T
  c__law_middle : H__law_middle T
  c__law_pen : H__law_pen T
  c__law_pick : H__law_pick T
  c__law_share : H__law_share T
  c__law_signs : H__law_signs T
  c__law_solved : H__law_solved T
  c__law_solves : H__law_solves T
  c__law_some_choice : H__law_some_choice T
  c__law_span_of : H__law_span_of T
  c__law_square : H__law_square T
  c__law_with : H__law_with T
  c__law_within : H__law_within T
  c_choice_for : H_choice_for T
  c_hull : H_hull T
  c_inverse : H_inverse T
  c_plus_spans : H_plus_spans T
  c_regular : H_regular T
  c_signed_point : H_signed_point T
  c_solves : H_solves T
  c_times_spans : H_times_spans T
  c_within : H_within T
abbrev i_turned_table : Nat := 1120
/-- turned_table(table) depth 7 -/
def c_turned_table : List S :=
  [.ret (.call i_turned_by [.call i_square_from [.var 0]])]
def d_turned_table : FnD := ⟨1, 0, c_turned_table, true⟩
structure H_turned_table (T : Tab) : Prop where
  look : T.fns.lookup i_turned_table = some d_turned_table
  c_square_from : H_square_from T
  c_turned_by : H_turned_by T
abbrev i_law_k26 : Nat := 809
/-- law_k26(script, pen, book, model, table, many, told_v, equal, turn, coefs, back, ends, rows, k, n, over, by, spot, scaled_v, due, thin, alone, rule, span, row, spans, item, columns, one, a, b) depth 10 -/
def c_law_k26 : List S :=
  [.asg (.nm 1) (.call i__law_pen [.var 0]), .asg (.nm 2) (.call i__law_square [.var 1, .lit (.int 3)]), .asg (.tup [.nm 3, .nm 4, .nm 5]) (.tup [.call i__law_built [.var 2], .call i__law_table [.var 2], .bi .len [.ix (.var 2) (.lit (.str "unknowns"))]]), .asg (.nm 6) (.ix (.call i_inverse [.var 3]) (.lit (.int 0))), .ite (.cmp .NotEq (.bi .isinstance [.var 6, .lit (.cls k_Inverse)]) (.bi .isinstance [.ix (.call i_regular [.var 3]) (.lit (.int 0)), .lit (.cls k_Regular)])) [.ret (.lit (.bl false))] [], .ite (.not (.bi .isinstance [.var 6, .lit (.cls k_Inverse)])) [.ret (.lit (.bl true))] [], .asg (.nm 7) (.lc false [22] (.var 22) (.nm 22) .one [.ix (.var 2) (.lit (.str "rules"))] [.cmp .Eq (.ix (.var 22) (.lit (.int 2))) (.lit (.str "is"))]), .for_ (.nm 8) .range [.lit (.int 3)] [.asg (.nm 9) (.bi .tuple [.lc false [22] (.bi .tuple [.lc false [23] (.call i__law_in_span [.var 1, .var 23]) (.nm 23) .one [.ix (.var 22) (.lit (.int 1))] []]) (.nm 22) .one [.var 7] []]), .asg (.nm 10) (.call i_turned_table [.var 9]), .ite (.or (.cmp .Is (.var 10) (.lit (.non))) (.bi .any [.lc false [24, 25] (.bi .any [.lc false [26, 23] (.not (.call i__law_within [.var 26, .var 23])) (.tup [.nm 26, .nm 23]) .zip [.var 24, .var 25] []]) (.tup [.nm 24, .nm 25]) .zip [.var 10, .attr (.var 6) a_rows] []])) [.ret (.lit (.bl false))] []], .asg (.nm 11) (.lst false []), .for_ (.nm 12) .one [.call i__law_signs [.var 5]] [.asg (.nm 11) (.bin .Add (.var 11) (.lc false [27] (.call i_turned_table [.call i_corner [.var 3, .var 12, .var 27]]) (.nm 27) .one [.call i__law_signs [.var 5]] []))], .for_ (.nm 13) .range [.var 5] [.for_ (.nm 14) .range [.var 5] [.ite (.cmp .NotEq (.ix (.ix (.attr (.var 6) a_rows) (.var 13)) (.var 14)) (.call i__law_span_of [.lc false [28] (.ix (.ix (.var 28) (.var 13)) (.var 14)) (.nm 28) .one [.var 11] []])) [.ret (.lit (.bl false))] []]], .asg (.nm 15) (.ix (.call i_inverse [.call i__law_built [.call i__law_of_rows [.var 2, .call i__law_transposed [.var 4]]]]) (.lit (.int 0))), .ite (.cmp .NotEq (.attr (.var 15) a_rows) (.call i__law_transposed [.attr (.var 6) a_rows])) [.ret (.lit (.bl false))] [], .asg (.tup [.nm 16, .nm 17]) (.tup [.call i__law_pick [.var 1, .lst false [.tup [.lit (.int 2), .lit (.int 1)], .tup [.lit (.int 1), .lit (.int 3)], .tup [.neg (.lit (.int 1)), .lit (.int 1)]]], .call i__law_draw [.var 1, .var 5]]), .asg (.nm 12) (.lc false [13, 24] (.ite (.cmp .Eq (.var 13) (.var 17)) (.bi .tuple [.lc false [23] (.call i__law_span_of [.call i__law_scaled [.var 23, .var 16]]) (.nm 23) .one [.var 24] []]) (.var 24)) (.tup [.nm 13, .nm 24]) .enum [.var 4] []), .asg (.nm 18) (.attr (.ix (.call i_inverse [.call i__law_built [.call i__law_of_rows [.var 2, .var 12]]]) (.lit (.int 0))) a_rows), .for_ (.nm 13) .range [.var 5] [.for_ (.nm 14) .range [.var 5] [.asg (.nm 19) (.ite (.cmp .Eq (.var 14) (.var 17)) (.call i__law_span_of [.lc false [26] (.call i__law_share [.var 26, .var 16]) (.nm 26) .one [.ix (.ix (.attr (.var 6) a_rows) (.var 13)) (.var 14)] []]) (.ix (.ix (.attr (.var 6) a_rows) (.var 13)) (.var 14))), .ite (.cmp .NotEq (.ix (.ix (.var 18) (.var 13)) (.var 14)) (.var 19)) [.ret (.lit (.bl false))] []]], .asg (.nm 20) (.lc false [24] (.bi .tuple [.lc false [23] (.bin .Mult (.tup [.call i__law_in_span [.var 1, .var 23]]) (.lit (.int 2))) (.nm 23) .one [.var 24] []]) (.nm 24) .one [.var 4] []), .asg (.nm 21) (.attr (.ix (.call i_inverse [.call i__law_built [.call i__law_of_rows [.var 2, .var 20]]]) (.lit (.int 0))) a_rows), .ite (.cmp .NotEq (.var 21) (.bi .tuple [.lc false [24] (.bi .tuple [.lc false [26] (.tup [.var 26, .var 26]) (.nm 26) .one [.var 24] []]) (.nm 24) .one [.call i_turned_table [.lc false [24] (.lc false [23] (.ix (.var 23) (.lit (.int 0))) (.nm 23) .one [.var 24] []) (.nm 24) .one [.var 20] []]] []])) [.ret (.lit (.bl false))] [], .ret (.bi .all [.lc false [24, 25] (.bi .all [.lc false [29, 30] (.call i_within [.var 29, .var 30]) (.tup [.nm 29, .nm 30]) .zip [.var 24, .var 25] []]) (.tup [.nm 24, .nm 25]) .zip [.var 21, .attr (.var 6) a_rows] []])]
def d_law_k26 : FnD := ⟨1, 30, c_law_k26, true⟩
structure H_law_k26 (T : Tab) : Prop where
  look : T.fns.lookup i_law_k26 = some d_law_k26
  c__law_built : H__law_built T
  c__law_draw : H__law_draw T
  c__law_in_span : H__law_in_span T
  c__law_of_rows : H__law_of_rows T
  c__law_pen : H__law_pen T
  c__law_pick : H__law_pick T
  c__law_scaled : H__law_scaled T
  c__law_share : H__law_share T
  c__law_signs : H__law_signs T
  c__law_span_of : H__law_span_of T
  c__law_square : H__law_square T
  c__law_table : H__law_table T
  c__law_transposed : H__law_transposed T
  c__law_within : H__law_within T
  c_corner : H_corner T
  c_inverse : H_inverse T
  c_regular : H_regular T
  c_turned_table : H_turned_table T
  c_within : H_within T
abbrev i_middle : Nat := 916
/-- middle(span) depth 5 -/
def c_middle : List S :=
  [.ret (.call i_middle_by [.call i_span_from [.var 0]])]
def d_middle : FnD := ⟨1, 0, c_middle, true⟩
structure H_middle (T : Tab) : Prop where
  look : T.fns.lookup i_middle = some d_middle
  c_middle_by : H_middle_by T
  c_span_from : H_span_from T
abbrev i_need_number : Nat := 935
/-- need_number(what, rows, number) depth 2 -/
def c_need_number : List S :=
  [.ite (.or (.not (.call i_is_whole [.var 2])) (.not (.chain .LtE .Lt (.lit (.int 0)) (.var 2) (.bi .len [.var 1])))) [.raise 0 []] []]
def d_need_number : FnD := ⟨3, 0, c_need_number, true⟩
structure H_need_number (T : Tab) : Prop where
  look : T.fns.lookup i_need_number = some d_need_number
  c_is_whole : H_is_whole T
abbrev i_reach : Nat := 989
/-- reach(model, rule, point) depth 6 -/
def c_reach : List S :=
  [.expr (.call i_need_model [.var 0]), .expr (.call i_need_number [.lit (.str "rule"), .attr (.var 0) a_rules, .var 1]), .ret (.call i_reach_by [.ix (.attr (.var 0) a_rules) (.var 1), .call i_point_from [.var 0, .var 2]])]
def d_reach : FnD := ⟨3, 0, c_reach, true⟩
structure H_reach (T : Tab) : Prop where
  look : T.fns.lookup i_reach = some d_reach
  c_need_model : H_need_model T
  c_need_number : H_need_number T
  c_point_from : H_point_from T
  c_reach_by : H_reach_by T
abbrev i_room : Nat := 1006
/-- room(model, word, rule, point) depth 6 -/
def c_room : List S :=
  [.expr (.call i_need_model [.var 0]), .expr (.call i_need_word [.var 1]), .expr (.call i_need_number [.lit (.str "rule"), .attr (.var 0) a_rules, .var 2]), .ret (.call i_room_by [.var 1, .ix (.attr (.var 0) a_rules) (.var 2), .call i_point_from [.var 0, .var 3]])]
def d_room : FnD := ⟨4, 0, c_room, true⟩
structure H_room (T : Tab) : Prop where
  look : T.fns.lookup i_room = some d_room
  c_need_model : H_need_model T
  c_need_number : H_need_number T
  c_need_word : H_need_word T
  c_point_from : H_point_from T
  c_room_by : H_room_by T
abbrev i_law_k19 : Nat := 815
/-- law_k19(script, pen, by, tight, wider, lap, book, model, size, point, words, more, none, both, left, right, k, rules, thin, a, b, name, row, kind, span) depth 8 -/
def c_law_k19 : List S :=
  [.asg (.nm 1) (.call i__law_pen [.var 0]), .asg (.nm 2) (.tup [.bin .Add (.lit (.int 1)) (.call i__law_draw [.var 1, .lit (.int 5)]), .lit (.int 1)]), .asg (.nm 3) (.dct false [.inr "unknowns", .inr "rules", .inr "costs", .inr "asks"] [.tup [.lit (.str "x")], .lst false [.tup [.lit (.str "r"), .tup [.tup [.var 2, .var 2]], .lit (.str "most"), .tup [.var 2, .var 2]]], .lst false [], .lst false []]), .asg (.nm 4) (.tup [.tup [.lit (.int 0), .lit (.int 1)], .tup [.lit (.int 1), .lit (.int 1)]]), .ite (.cmp .NotEq (.call i_kinds_of [.call i__law_built [.var 3], .tup [.tup [.lit (.int 1), .lit (.int 1)]]]) (.tup [.lit (.str "some"), .lit (.str "held"), .lit (.str "bears"), .lit (.str "steers")])) [.ret (.lit (.bl false))] [], .ite (.cmp .NotEq (.call i_kinds_of [.call i__law_built [.call i__law_moved [.var 3, .var 4, .tup [.tup [.lit (.int 0), .lit (.int 1)], .tup [.lit (.int 0), .lit (.int 1)]]]], .tup [.tup [.lit (.int 1), .lit (.int 1)]]]) (.tup [.lit (.str "some"), .lit (.str "steers")])) [.ret (.lit (.bl false))] [], .ite (.cmp .NotEq (.call i_kinds_of [.call i__law_built [.call i__law_moved [.var 3, .tup [.tup [.lit (.int 0), .lit (.int 1)], .tup [.lit (.int 0), .lit (.int 1)]], .tup [.tup [.neg (.lit (.int 1)), .lit (.int 1)], .tup [.lit (.int 0), .lit (.int 1)]]]], .tup [.tup [.lit (.int 1), .lit (.int 1)]]]) (.tup [.lit (.str "some"), .lit (.str "bears")])) [.ret (.lit (.bl false))] [], .for_ (.nm 5) .range [.lit (.int 3)] [.asg (.nm 6) (.call i__law_rules [.var 1, .lit (.int 3), .lit (.int 3)]), .par [7, 8] [.call i__law_built [.var 6], .bi .len [.ix (.var 6) (.lit (.str "unknowns"))]], .asg (.nm 9) (.call i__law_some_point [.var 1, .var 6]), .asg (.nm 10) (.call i_kinds_of [.var 7, .var 9]), .ite (.or (.and (.cmp .In (.lit (.str "held")) (.var 10)) (.cmp .NotEq (.var 10) (.tup [.lit (.str "some"), .lit (.str "held"), .lit (.str "bears"), .lit (.str "steers")]))) (.and (.cmp .NotEq (.var 10) (.tup [])) (.cmp .NotEq (.ix (.var 10) (.lit (.int 0))) (.lit (.str "some"))))) [.ret (.lit (.bl false))] [], .par [11, 12] [.call i__law_pick [.var 1, .lst false [.tup [.tup [.lit (.int 0), .lit (.int 1)], .tup [.lit (.int 1), .lit (.int 1)]], .tup [.tup [.neg (.lit (.int 1)), .lit (.int 2)], .tup [.lit (.int 0), .lit (.int 1)]], .tup [.tup [.neg (.lit (.int 1)), .lit (.int 3)], .tup [.lit (.int 2), .lit (.int 1)]]]], .tup [.tup [.lit (.int 0), .lit (.int 1)], .tup [.lit (.int 0), .lit (.int 1)]]], .asg (.tup [.nm 13, .nm 14, .nm 15]) (.lc false [19, 20] (.call i__law_built [.call i__law_moved [.var 6, .var 19, .var 20]]) (.tup [.nm 19, .nm 20]) .one [.tup [.tup [.var 11, .var 11], .tup [.var 11, .var 12], .tup [.var 12, .var 11]]] []), .ite (.and (.cmp .In (.lit (.str "some")) (.var 10)) (.not (.call i_is_point_of [.var 13, .lit (.str "some"), .var 9]))) [.ret (.lit (.bl false))] [], .ite (.and (.call i_is_point_of [.var 13, .lit (.str "held"), .var 9]) (.cmp .NotIn (.lit (.str "held")) (.var 10))) [.ret (.lit (.bl false))] [], .ite (.or (.and (.call i_is_point_of [.var 14, .lit (.str "bears"), .var 9]) (.cmp .NotIn (.lit (.str "bears")) (.var 10))) (.and (.cmp .In (.lit (.str "steers")) (.var 10)) (.not (.call i_is_point_of [.var 14, .lit (.str "steers"), .var 9])))) [.ret (.lit (.bl false))] [], .ite (.or (.and (.cmp .In (.lit (.str "bears")) (.var 10)) (.not (.call i_is_point_of [.var 15, .lit (.str "bears"), .var 9]))) (.and (.call i_is_point_of [.var 15, .lit (.str "steers"), .var 9]) (.cmp .NotIn (.lit (.str "steers")) (.var 10)))) [.ret (.lit (.bl false))] [], .for_ (.nm 16) .range [.bi .len [.ix (.var 6) (.lit (.str "rules"))]] [.ite (.or (.cmp .IsNot (.call i_within [.call i_reach [.var 7, .var 16, .var 9], .call i_reach [.var 13, .var 16, .var 9]]) (.lit (.bl true))) (.call i__law_less [.call i_room [.var 13, .lit (.str "some"), .var 16, .var 9], .call i_room [.var 7, .lit (.str "some"), .var 16, .var 9]])) [.ret (.lit (.bl false))] []], .asg (.nm 17) (.lc false [21, 22, 23, 15] (.tup [.var 21, .bi .tuple [.lc false [24] (.bin .Mult (.tup [.call i_middle [.var 24]]) (.lit (.int 2))) (.nm 24) .one [.var 22] []], .var 23, .bin .Mult (.tup [.call i_middle [.var 15]]) (.lit (.int 2))]) (.tup [.nm 21, .nm 22, .nm 23, .nm 15]) .one [.ix (.var 6) (.lit (.str "rules"))] []), .asg (.nm 18) (.call i__law_built [.call i__law_with [.var 6, .lit (.str "rules"), .var 17]]), .ite (.or (.cmp .NotIn (.call i_kinds_of [.var 18, .var 9]) (.tup [.tup [], .tup [.lit (.str "some"), .lit (.str "held"), .lit (.str "bears"), .lit (.str "steers")]])) (.and (.cmp .NotEq (.call i_kinds_of [.var 18, .var 9]) (.tup [])) (.cmp .Is (.call i_choice_for [.var 7, .var 9]) (.lit (.non))))) [.ret (.lit (.bl false))] []], .ret (.lit (.bl true))]
def d_law_k19 : FnD := ⟨1, 24, c_law_k19, true⟩
structure H_law_k19 (T : Tab) : Prop where
  look : T.fns.lookup i_law_k19 = some d_law_k19
  c__law_built : H__law_built T
  c__law_draw : H__law_draw T
  c__law_less : H__law_less T
  c__law_moved : H__law_moved T
  c__law_pen : H__law_pen T
  c__law_pick : H__law_pick T
  c__law_rules : H__law_rules T
  c__law_some_point : H__law_some_point T
  c__law_with : H__law_with T
  c_choice_for : H_choice_for T
  c_is_point_of : H_is_point_of T
  c_kinds_of : H_kinds_of T
  c_middle : H_middle T
  c_reach : H_reach T
  c_room : H_room T
  c_within : H_within T
abbrev i_width : Nat := 1130
/-- width(span) depth 5 -/
def c_width : List S :=
  [.ret (.call i_width_by [.call i_span_from [.var 0]])]
def d_width : FnD := ⟨1, 0, c_width, true⟩
structure H_width (T : Tab) : Prop where
  look : T.fns.lookup i_width = some d_width
  c_span_from : H_span_from T
  c_width_by : H_width_by T
abbrev i_law_k32 : Nat := 847
/-- law_k32(script, pen, lap, book, k, rule, lone, point, made, span, item, right, due, word) depth 8 -/
def c_law_k32 : List S :=
  [.asg (.nm 1) (.call i__law_pen [.var 0]), .for_ (.nm 2) .range [.lit (.int 3)] [.asg (.nm 3) (.call i__law_rules [.var 1, .lit (.int 3), .lit (.int 3)]), .for_ (.tup [.nm 4, .nm 5]) .enum [.ix (.var 3) (.lit (.str "rules"))] [.asg (.nm 6) (.call i__law_built [.call i__law_with [.var 3, .lit (.str "rules"), .lst false [.var 5]]]), .asg (.nm 7) (.call i__law_some_point [.var 1, .var 3]), .asg (.nm 8) (.tup [.tup [.lit (.int 0), .lit (.int 1)], .tup [.lit (.int 0), .lit (.int 1)]]), .for_ (.tup [.nm 9, .nm 10]) .zip [.ix (.var 5) (.lit (.int 1)), .var 7] [.asg (.nm 8) (.call i_plus_spans [.var 8, .call i_times_spans [.var 9, .tup [.var 10, .var 10]]])], .ite (.or (.cmp .NotEq (.call i_reach [.var 6, .lit (.int 0), .var 7]) (.var 8)) (.cmp .NotEq (.call i_width [.var 8]) (.call i__law_sum [.lc false [9, 10] (.call i__law_times [.call i_width [.var 9], .call i__law_size [.var 10]]) (.tup [.nm 9, .nm 10]) .zip [.ix (.var 5) (.lit (.int 1)), .var 7] []]))) [.ret (.lit (.bl false))] [], .ite (.cmp .NotEq (.call i_middle [.var 8]) (.call i__law_dot [.lc false [9] (.call i_middle [.var 9]) (.nm 9) .one [.ix (.var 5) (.lit (.int 1))] [], .var 7])) [.ret (.lit (.bl false))] [], .asg (.nm 11) (.ix (.var 5) (.lit (.int 3))), .ite (.cmp .Eq (.ix (.var 5) (.lit (.int 2))) (.lit (.str "is"))) [.asg (.nm 12) (.tup [.cmp .IsNot (.call i_common [.var 8, .var 11]) (.lit (.non)), .and (.cmp .Eq (.call i_width [.var 8]) (.tup [.lit (.int 0), .lit (.int 1)])) (.cmp .Eq (.var 8) (.var 11)), .call i_within [.var 8, .var 11], .call i_within [.var 11, .var 8]])] [.asg (.nm 12) (.tup [.not (.call i__law_less [.ix (.var 11) (.lit (.int 1)), .ix (.var 8) (.lit (.int 0))]), .not (.call i__law_less [.ix (.var 11) (.lit (.int 0)), .ix (.var 8) (.lit (.int 1))]), .not (.call i__law_less [.ix (.var 11) (.lit (.int 1)), .ix (.var 8) (.lit (.int 1))]), .not (.call i__law_less [.ix (.var 11) (.lit (.int 0)), .ix (.var 8) (.lit (.int 0))])])], .ite (.cmp .NotEq (.bi .tuple [.lc false [13] (.call i_is_point_of [.var 6, .var 13, .var 7]) (.nm 13) .one [.tup [.lit (.str "some"), .lit (.str "held"), .lit (.str "bears"), .lit (.str "steers")]] []]) (.var 12)) [.ret (.lit (.bl false))] [], .ite (.or (.cmp .IsNot (.call i_within [.var 8, .call i_joined [.var 8, .var 11]]) (.lit (.bl true))) (.cmp .IsNot (.call i_within [.var 11, .call i_joined [.var 8, .var 11]]) (.lit (.bl true)))) [.ret (.lit (.bl false))] []]], .ret (.lit (.bl true))]
def d_law_k32 : FnD := ⟨1, 13, c_law_k32, true⟩
structure H_law_k32 (T : Tab) : Prop where
  look : T.fns.lookup i_law_k32 = some d_law_k32
  c__law_built : H__law_built T
  c__law_dot : H__law_dot T
  c__law_less : H__law_less T
  c__law_pen : H__law_pen T
  c__law_rules : H__law_rules T
  c__law_size : H__law_size T
  c__law_some_point : H__law_some_point T
  c__law_sum : H__law_sum T
  c__law_times : H__law_times T
  c__law_with : H__law_with T
  c_common : H_common T
  c_is_point_of : H_is_point_of T
  c_joined : H_joined T
  c_middle : H_middle T
  c_plus_spans : H_plus_spans T
  c_reach : H_reach T
  c_times_spans : H_times_spans T
  c_width : H_width T
  c_within : H_within T
abbrev i_law_k24 : Nat := 876
/-- law_k24(script, pen, size, one, shares, mixed, planted, told_v, rules, alone, null, k, spans, heavy, sign, strong, thin, value, row, share, rule, item, n, span) depth 9 -/
def c_law_k24 : List S :=
  [.asg (.nm 1) (.call i__law_pen [.var 0]), .asg (.nm 2) (.bin .Add (.lit (.int 1)) (.call i__law_draw [.var 1, .lit (.int 3)])), .asg (.nm 3) (.call i__law_some_square [.var 1, .var 2]), .asg (.nm 4) (.lc false [18] (.call i__law_pick [.var 1, .lst false [.tup [.lit (.int 0), .lit (.int 1)], .tup [.lit (.int 1), .lit (.int 1)], .tup [.neg (.lit (.int 1)), .lit (.int 1)], .tup [.lit (.int 1), .lit (.int 2)]]]) (.nm 18) .one [.slice (.var 3) [] [.neg (.lit (.int 1))]] []), .asg (.nm 5) (.bi .tuple [.lc false [11] (.call i__law_sum [.lc false [19, 18] (.call i__law_times [.var 19, .ix (.var 18) (.var 11)]) (.tup [.nm 19, .nm 18]) .zip [.var 4, .slice (.var 3) [] [.neg (.lit (.int 1))]] []]) (.nm 11) .range [.var 2] []]), .asg (.nm 6) (.call 128 [.var 1, .bin .Add (.slice (.var 3) [] [.neg (.lit (.int 1))]) (.tup [.var 5]), .bin .Mult (.lst false [.tup [.lit (.int 0), .lit (.int 1)]]) (.var 2)]), .asg (.nm 7) (.call i_regular [.call i__law_built [.var 6]]), .ite (.or (.not (.bi .isinstance [.ix (.var 7) (.lit (.int 0)), .lit (.cls k_Singular)])) (.or (.not (.call i__law_is_regular_told [.var 6, .var 7])) (.cmp .NotEq (.call i_determinant [.attr (.ix (.var 7) (.lit (.int 0))) a_coefs]) (.tup [.lit (.int 0), .lit (.int 1)])))) [.ret (.lit (.bl false))] [], .ite (.cmp .IsNot (.call i_solves [.call i__law_built [.var 6], .attr (.ix (.var 7) (.lit (.int 0))) a_coefs, .bin .Mult (.tup [.tup [.lit (.int 0), .lit (.int 1)]]) (.var 2), .ix (.var 7) (.lit (.int 1))]) (.lit (.bl true))) [.ret (.lit (.bl false))] [], .asg (.nm 8) (.lc true [20, 18] (.tup [.ix (.var 20) (.lit (.int 0)), .bi .tuple [.lc false [21] (.tup [.var 21, .var 21]) (.nm 21) .one [.var 18] []], .lit (.str "is"), .ix (.var 20) (.lit (.int 3))]) (.tup [.nm 20, .nm 18]) .zip [.ix (.var 6) (.lit (.str "rules")), .bin .Add (.slice (.var 3) [] [.neg (.lit (.int 1))]) (.tup [.var 5])] []), .asg (.nm 9) (.dct false [.inr "unknowns", .inr "rules", .inr "costs", .inr "asks"] [.ix (.var 6) (.lit (.str "unknowns")), .var 8, .lst false [], .lst false []]), .ite (.or (.not (.call i__law_is_regular_told [.var 9, .call i_regular [.call i__law_built [.var 9]]])) (.cmp .NotEq (.call i_corner_signs [.call i__law_built [.var 9]]) (.tup [.lit (.int 0)]))) [.ret (.lit (.bl false))] [], .asg (.nm 10) (.call 383 [.lc false [18] (.bi .list [.var 18]) (.nm 18) .one [.bin .Add (.slice (.var 3) [] [.neg (.lit (.int 1))]) (.tup [.var 5])] [], .var 2]), .ite (.cmp .IsNot (.call i_is_regular [.call i__law_built [.var 6], .tup [.mk k_Singular [.bin .Add (.slice (.var 3) [] [.neg (.lit (.int 1))]) (.tup [.var 5])], .bi .tuple [.var 10]]]) (.lit (.bl true))) [.ret (.lit (.bl false))] [], .asg (.nm 8) (.lst true []), .for_ (.nm 11) .range [.var 2] [.asg (.nm 12) (.lc true [22] (.call i__law_span [.var 1, .lit (.bl true)]) (.nm 22) .range [.var 2] []), .asg (.nm 13) (.call i__law_plus [.tup [.lit (.int 1), .lit (.int 2)], .call i__law_sum [.lc false [22, 23] (.ix (.call i__law_span_of [.lst false [.call i__law_size [.ix (.var 23) (.lit (.int 0))], .call i__law_size [.ix (.var 23) (.lit (.int 1))]]]) (.lit (.int 1))) (.tup [.nm 22, .nm 23]) .enum [.var 12] [.cmp .NotEq (.var 22) (.var 11)]]]), .asg (.nm 14) (.call i__law_pick [.var 1, .lst false [.lit (.int 1), .neg (.lit (.int 1))]]), .asg (.sub (.var 12) (.var 11)) (.ite (.cmp .Eq (.var 14) (.lit (.int 1))) (.tup [.var 13, .call i__law_plus [.var 13, .tup [.lit (.int 1), .lit (.int 1)]]]) (.tup [.call i__law_turn [.call i__law_plus [.var 13, .tup [.lit (.int 1), .lit (.int 1)]]], .call i__law_turn [.var 13]])), .expr (.bm (.var 8) .append [.tup [.bin .Add (.lit (.str "r")) (.bi .str [.var 11]), .bi .tuple [.var 12], .lit (.str "is"), .call i__law_span [.var 1, .lit (.bl true)]]])], .asg (.nm 15) (.call i__law_built [.dct false [.inr "unknowns", .inr "rules", .inr "costs", .inr "asks"] [.ix (.var 6) (.lit (.str "unknowns")), .var 8, .lst false [], .lst false []]]), .ite (.or (.cmp .NotEq (.call i_regular [.var 15]) (.tup [.mk k_Regular [], .lit (.non)])) (.cmp .NotEq (.bi .len [.call i_corner_signs [.var 15]]) (.lit (.int 1)))) [.ret (.lit (.bl false))] [], .asg (.nm 16) (.dct false [.inr "unknowns", .inr "rules", .inr "costs", .inr "asks"] [.ix (.var 6) (.lit (.str "unknowns")), .lc false [11, 18] (.tup [.bin .Add (.lit (.str "r")) (.bi .str [.var 11]), .bi .tuple [.lc false [21] (.tup [.var 21, .var 21]) (.nm 21) .one [.var 18] []], .lit (.str "is"), .tup [.tup [.lit (.int 1), .lit (.int 1)], .tup [.lit (.int 1), .lit (.int 1)]]]) (.tup [.nm 11, .nm 18]) .enum [.var 3] [], .lst false [], .lst false []]), .asg (.nm 17) (.call i_determinant [.var 3]), .ret (.and (.cmp .Eq (.bi .isinstance [.ix (.call i_regular [.call i__law_built [.var 16]]) (.lit (.int 0)), .lit (.cls k_Regular)]) (.cmp .NotEq (.var 17) (.tup [.lit (.int 0), .lit (.int 1)]))) (.cmp .Eq (.call i_corner_signs [.call i__law_built [.var 16]]) (.tup [.bin .Sub (.cmp .Gt (.ix (.var 17) (.lit (.int 0))) (.lit (.int 0))) (.cmp .Lt (.ix (.var 17) (.lit (.int 0))) (.lit (.int 0)))])))]
def d_law_k24 : FnD := ⟨1, 23, c_law_k24, true⟩
structure H_law_k24 (T : Tab) : Prop where
  look : T.fns.lookup i_law_k24 = some d_law_k24
  c_Singular___init__ : H_Singular___init__ T
  c__law_built : H__law_built T
  c__law_draw : H__law_draw T
  c__law_is_regular_told : H__law_is_regular_told T
  c__law_pen : H__law_pen T
  c__law_pick : H__law_pick T
  c__law_plus : H__law_plus T
  c__law_size : H__law_size T
  c__law_some_square : H__law_some_square T
  c__law_span : H__law_span T
  c__law_span_of : H__law_span_of T
  c__law_sum : H__law_sum T
  c__law_times : H__law_times T
  c__law_turn : H__law_turn T
  c_corner_signs : H_corner_signs T
  c_determinant : H_determinant T
  c_is_regular : H_is_regular T
  c_regular : H_regular T
  c_solves : H_solves T
  k_Regular : T.clss.lookup k_Regular = some kc_Regular
  k_Singular : T.clss.lookup k_Singular = some kc_Singular
abbrev i_law_k29 : Nat := 879
/-- law_k29(script, pen, span, right, x, low, high, equal, most, word, a, b, model, told_v, back) depth 10 -/
def c_law_k29 : List S :=
  [.asg (.nm 1) (.call i__law_pen [.var 0]), .par [2, 3, 4] [.call i__law_free_span [.var 1], .call i__law_free_span [.var 1], .call i__law_ratio [.var 1, .lit (.int 5)]], .asg (.tup [.nm 5, .nm 6]) (.call i_times_spans [.var 2, .tup [.var 4, .var 4]]), .asg (.nm 7) (.lst true []), .ite (.and (.not (.call i__law_less [.var 6, .ix (.var 3) (.lit (.int 0))])) (.not (.call i__law_less [.ix (.var 3) (.lit (.int 1)), .var 5]))) [.expr (.bm (.var 7) .append [.lit (.str "some")])] [], .ite (.and (.cmp .Eq (.var 5) (.var 6)) (.and (.cmp .Eq (.var 5) (.ix (.var 3) (.lit (.int 0)))) (.cmp .Eq (.var 5) (.ix (.var 3) (.lit (.int 1)))))) [.expr (.bm (.var 7) .append [.lit (.str "held")])] [], .ite (.and (.not (.call i__law_less [.var 5, .ix (.var 3) (.lit (.int 0))])) (.not (.call i__law_less [.ix (.var 3) (.lit (.int 1)), .var 6]))) [.expr (.bm (.var 7) .append [.lit (.str "bears")])] [], .ite (.and (.not (.call i__law_less [.ix (.var 3) (.lit (.int 0)), .var 5])) (.not (.call i__law_less [.var 6, .ix (.var 3) (.lit (.int 1))]))) [.expr (.bm (.var 7) .append [.lit (.str "steers")])] [], .ite (.cmp .NotEq (.call i_kinds_of [.call i__law_built [.call i__law_one [.var 2, .lit (.str "is"), .var 3]], .tup [.var 4]]) (.bi .tuple [.var 7])) [.ret (.lit (.bl false))] [], .asg (.nm 8) (.lst false []), .for_ (.tup [.nm 9, .nm 10, .nm 11]) .one [.tup [.tup [.lit (.str "some"), .var 5, .ix (.var 3) (.lit (.int 1))], .tup [.lit (.str "held"), .var 6, .ix (.var 3) (.lit (.int 0))], .tup [.lit (.str "bears"), .var 6, .ix (.var 3) (.lit (.int 1))], .tup [.lit (.str "steers"), .var 5, .ix (.var 3) (.lit (.int 0))]]] [.asg (.nm 8) (.bin .Add (.var 8) (.ite (.not (.call i__law_less [.var 11, .var 10])) (.lst false [.var 9]) (.lst false [])))], .ite (.cmp .NotEq (.call i_kinds_of [.call i__law_built [.call i__law_one [.var 2, .lit (.str "most"), .var 3]], .tup [.var 4]]) (.bi .tuple [.var 8])) [.ret (.lit (.bl false))] [], .asg (.nm 12) (.call i__law_built [.call i__law_one [.var 2, .lit (.str "is"), .var 3]]), .ite (.chain .LtE .LtE (.ix (.ix (.var 2) (.lit (.int 0))) (.lit (.int 0))) (.lit (.int 0)) (.ix (.ix (.var 2) (.lit (.int 1))) (.lit (.int 0)))) [.asg (.nm 13) (.call i_regular [.var 12]), .ret (.and (.cmp .Eq (.var 13) (.tup [.mk k_Singular [.tup [.tup [.tup [.lit (.int 0), .lit (.int 1)]]]], .ix (.var 13) (.lit (.int 1))])) (.and (.cmp .NotEq (.ix (.ix (.ix (.var 13) (.lit (.int 1))) (.lit (.int 0))) (.lit (.int 0))) (.lit (.int 0))) (.cmp .Eq (.ix (.call i_inverse [.var 12]) (.lit (.int 0))) (.ix (.var 13) (.lit (.int 0))))))] [], .asg (.nm 14) (.tup [.call i__law_share [.tup [.lit (.int 1), .lit (.int 1)], .ix (.var 2) (.lit (.int 1))], .call i__law_share [.tup [.lit (.int 1), .lit (.int 1)], .ix (.var 2) (.lit (.int 0))]]), .ite (.or (.cmp .NotEq (.call i_regular [.var 12]) (.tup [.mk k_Regular [], .lit (.non)])) (.cmp .NotEq (.call i_inverse [.var 12]) (.tup [.mk k_Inverse [.tup [.tup [.var 14]]], .lit (.non)]))) [.ret (.lit (.bl false))] [], .ret (.cmp .Eq (.call i_hull [.var 12]) (.tup [.call i_times_spans [.var 3, .var 14]]))]
def d_law_k29 : FnD := ⟨1, 14, c_law_k29, true⟩
structure H_law_k29 (T : Tab) : Prop where
  look : T.fns.lookup i_law_k29 = some d_law_k29
  c_Inverse___init__ : H_Inverse___init__ T
  c_Singular___init__ : H_Singular___init__ T
  c__law_built : H__law_built T
  c__law_free_span : H__law_free_span T
  c__law_less : H__law_less T
  c__law_one : H__law_one T
  c__law_pen : H__law_pen T
  c__law_ratio : H__law_ratio T
  c__law_share : H__law_share T
  c_hull : H_hull T
  c_inverse : H_inverse T
  c_kinds_of : H_kinds_of T
  c_regular : H_regular T
  c_times_spans : H_times_spans T
  k_Regular : T.clss.lookup k_Regular = some kc_Regular
  k_Singular : T.clss.lookup k_Singular = some kc_Singular
  k_Inverse : T.clss.lookup k_Inverse = some kc_Inverse
end G

set_option linter.all false
set_option maxRecDepth 100000
/-! V1: ratios. -/
namespace G
open PySem L2
section
variable {T : Tab} {st : Store} {m : Nat}
theorem bl_nat (n : Nat) : bl ((n : Int)).natAbs = bl n := rfl
theorem den_pos (q : Rat) : (0 : Int) < q.den := by have := q.den_pos; omega
theorem den_bl {q : Rat} {k : Nat} (h : sz q ≤ k) : bl ((q.den : Int)).natAbs ≤ k := Nat.le_trans (sz_den q) h
theorem num_bl {q : Rat} {k : Nat} (h : sz q ≤ k) : bl q.num.natAbs ≤ k := Nat.le_trans (sz_num q) h
theorem ev_is_whole_int (h : H_is_whole T) (hm : 1 ≤ m) (i : Int) : callN T 1000 m i_is_whole [.int i] st = .ok (.bl true) st := by
  refine callN_do hm h.look rfl fun k hk => ?_
  simp [d_is_whole, c_is_whole]
theorem ev_is_whole_tup (h : H_is_whole T) (hm : 1 ≤ m) (l : List D) : callN T 1000 m i_is_whole [.tup l] st = .ok (.bl false) st := by
  refine callN_do hm h.look rfl fun k hk => ?_
  simp [d_is_whole, c_is_whole]
theorem ev_is_whole_rt (h : H_is_whole T) (hm : 1 ≤ m) (q : Rat) : callN T 1000 m i_is_whole [rt q] st = .ok (.bl false) st := ev_is_whole_tup h hm _
theorem ev_is_pair (h : H_is_pair T) (hm : 2 ≤ m) (a b : Int) : callN T 1000 m i_is_pair [.tup [.int a, .int b]] st = .ok (.bl (decide (0 < b))) st := by
  refine callN_do hm h.look rfl fun k hk => ?_
  simp [d_is_pair, c_is_pair, ev_is_whole_int h.c_is_whole hk]
theorem ev_is_pair_rt (h : H_is_pair T) (hm : 2 ≤ m) (q : Rat) : callN T 1000 m i_is_pair [rt q] st = .ok (.bl true) st := by
  have := ev_is_pair (st := st) h hm q.num q.den
  rw [decide_eq_true (den_pos q)] at this
  exact this
theorem ev_is_ratio_rt (h : H_is_ratio T) (hm : 3 ≤ m) (q : Rat) : callN T 1000 m i_is_ratio [rt q] st = .ok (.bl true) st := by
  refine callN_do hm h.look rfl fun k hk => ?_
  simp [d_is_ratio, c_is_ratio, ev_is_whole_rt h.c_is_whole (show 1 ≤ k by omega), ev_is_pair_rt h.c_is_pair (show 2 ≤ k by omega)]
theorem ev_lowest (h : H_lowest T) (hm : 1 ≤ m) {a b : Int} (hb : 0 < b) (hs : bl b.natAbs ≤ 9000) : callN T 1000 m i_lowest [.int a, .int b] st = .ok (rt (Rat.divInt a b)) st := by
  refine callN_do hm h.look rfl fun k hk => ?_
  have hb' : b ≠ 0 := by omega
  have e1 := fun st i => @binD_fdiv st i _ (gcd_pos' (a := a) hb') (Nat.le_trans (bl_gcd hb') hs)
  simp [d_lowest, c_lowest, hb, e1, rt_low hb]
theorem fdiv_by_neg {g a : Int} (hg : g ≠ 0) (h : g ∣ a) : a.fdiv (-g) = -(a / g) := by
  obtain ⟨c, rfl⟩ := h
  rw [Int.mul_ediv_cancel_left c hg, show g * c = (-g) * (-c) by rw [Int.neg_mul_neg], Int.mul_fdiv_cancel_left _ (by omega)]
theorem rt_low_neg {a b : Int} (hb : b < 0) : D.tup [.int (a.fdiv (-(Nat.gcd a.natAbs b.natAbs : Nat))), .int (b.fdiv (-(Nat.gcd a.natAbs b.natAbs : Nat)))] = rt (Rat.divInt a b) := by
  have h1 : ((Nat.gcd a.natAbs b.natAbs : Nat) : Int) ∣ a := Int.ofNat_dvd_left.mpr (Nat.gcd_dvd_left _ _)
  have h2 : ((Nat.gcd a.natAbs b.natAbs : Nat) : Int) ∣ b := Int.ofNat_dvd_left.mpr (Nat.gcd_dvd_right _ _)
  have h0 := gcd_pos' (a := a) (b := b) (by omega)
  rw [fdiv_by_neg (by omega) h1, fdiv_by_neg (by omega) h2, ← Rat.neg_divInt_neg, ← rt_low (a := -a) (b := -b) (by omega)]
  simp only [Int.natAbs_neg]
  rw [Int.neg_ediv_of_dvd h1, Int.neg_ediv_of_dvd h2]
theorem bl_neg {i : Int} : bl (-i).natAbs = bl i.natAbs := by rw [Int.natAbs_neg]
theorem ev_lowest' (h : H_lowest T) (hm : 1 ≤ m) {a b : Int} (hb : b ≠ 0) (hs : bl b.natAbs ≤ 9000) : callN T 1000 m i_lowest [.int a, .int b] st = .ok (rt (Rat.divInt a b)) st := by
  by_cases h0 : 0 < b
  · exact ev_lowest h hm h0 hs
  · refine callN_do hm h.look rfl fun k hk => ?_
    have g0 := gcd_pos' (a := a) hb
    have e1 := fun st i => @binD_fdivN st i (-(Nat.gcd a.natAbs b.natAbs : Nat)) (by omega) (by rw [bl_neg]; exact Nat.le_trans (bl_gcd hb) hs)
    simp [d_lowest, c_lowest, h0, e1, rt_low_neg (a := a) (show b < 0 by omega)]
theorem ev_told_rt (h : H_told T) (hm : 3 ≤ m) {q : Rat} (hs : sz q ≤ 9000) : callN T 1000 m i_told [rt q] st = .ok (rt q) st := by
  refine callN_do hm h.look rfl fun k hk => ?_
  simp [d_told, c_told, ev_is_whole_rt h.c_is_whole (show 1 ≤ k by omega), ev_is_pair_rt h.c_is_pair (show 2 ≤ k by omega), ev_lowest h.c_lowest (show 1 ≤ k by omega) (den_pos q) (den_bl hs), Rat.num_divInt_den, Rat.mkRat_self]
theorem ev_is_told_rt (h : H_is_told T) (hm : 3 ≤ m) (q : Rat) : callN T 1000 m i_is_told [rt q] st = .ok (.bl true) st := by
  refine callN_do hm h.look rfl fun k hk => ?_
  have : Nat.gcd q.num.natAbs q.den = 1 := q.reduced
  simp [d_is_told, c_is_told, ev_is_pair_rt h.c_is_pair (show 2 ≤ k by omega), this]
theorem bl_mul2 {i j : Int} {k l : Nat} (h : bl i.natAbs ≤ k) (h' : bl j.natAbs ≤ l) : bl (i * j).natAbs ≤ k + l := by
  rw [Int.natAbs_mul]; exact Nat.le_trans (bl_mul _ _) (Nat.add_le_add h h')
theorem add_eq (a b : Rat) : Rat.divInt (a.num * b.den + b.num * a.den) (a.den * b.den) = a + b := by
  rw [Rat.add_def', show (a.den : Int) * b.den = ((a.den * b.den : Nat) : Int) by simp, Rat.divInt_ofNat]
theorem sub_eq (a b : Rat) : Rat.divInt (a.num * b.den - b.num * a.den) (a.den * b.den) = a - b := by
  rw [Rat.sub_def', show (a.den : Int) * b.den = ((a.den * b.den : Nat) : Int) by simp, Rat.divInt_ofNat]
theorem mul_eq (a b : Rat) : Rat.divInt (a.num * b.num) (a.den * b.den) = a * b := by
  rw [Rat.mul_def', show (a.den : Int) * b.den = ((a.den * b.den : Nat) : Int) by simp, Rat.divInt_ofNat]
theorem div_eq (a b : Rat) : Rat.divInt (a.num * b.den) (a.den * b.num) = a / b := by
  rw [Rat.div_def, Rat.inv_def]
  conv => rhs; lhs; rw [← Rat.num_divInt_den a]
  rw [Rat.divInt_mul_divInt]
theorem lt_eq (a b : Rat) : decide (a.num * b.den < b.num * a.den) = decide (a < b) := by rw [decide_eq_decide]; exact (Rat.lt_iff a b).symm
/-- the two products of a sum -/
theorem mulD1 {a b : Rat} (ha : sz a ≤ 4000) (hb : sz b ≤ 4000) : binD st .Mult (.int a.num) (.int b.den) = some (.int (a.num * b.den)) := binD_mul (Nat.le_trans (num_bl ha) (by decide)) (Nat.le_trans (den_bl hb) (by decide))
theorem mulD2 {a b : Rat} (ha : sz a ≤ 4000) (hb : sz b ≤ 4000) : binD st .Mult (.int a.den) (.int b.den) = some (.int (a.den * b.den)) := binD_mul (Nat.le_trans (den_bl ha) (by decide)) (Nat.le_trans (den_bl hb) (by decide))
theorem mulD3 {a b : Rat} (ha : sz a ≤ 4000) (hb : sz b ≤ 4000) : binD st .Mult (.int a.num) (.int b.num) = some (.int (a.num * b.num)) := binD_mul (Nat.le_trans (num_bl ha) (by decide)) (Nat.le_trans (num_bl hb) (by decide))
theorem mulD4 {a b : Rat} (ha : sz a ≤ 4000) (hb : sz b ≤ 4000) : binD st .Mult (.int a.den) (.int b.num) = some (.int (a.den * b.num)) := binD_mul (Nat.le_trans (den_bl ha) (by decide)) (Nat.le_trans (num_bl hb) (by decide))
theorem dens_pos (a b : Rat) : (0 : Int) < a.den * b.den := Int.mul_pos (den_pos a) (den_pos b)
theorem dens_bl {a b : Rat} (ha : sz a ≤ 4000) (hb : sz b ≤ 4000) : bl ((a.den : Int) * b.den).natAbs ≤ 9000 := Nat.le_trans (bl_mul2 (den_bl ha) (den_bl hb)) (by decide)
theorem ev_summed (h : H_summed T) (hm : 2 ≤ m) {a b : Rat} (ha : sz a ≤ 4000) (hb : sz b ≤ 4000) : callN T 1000 m i_summed [rt a, rt b] st = .ok (rt (a + b)) st := by
  refine callN_do hm h.look rfl fun k hk => ?_
  simp [d_summed, c_summed, mulD1 ha hb, mulD1 hb ha, mulD2 ha hb, ev_lowest h.c_lowest hk (dens_pos a b) (dens_bl ha hb), add_eq]
theorem ev_lessened (h : H_lessened T) (hm : 2 ≤ m) {a b : Rat} (ha : sz a ≤ 4000) (hb : sz b ≤ 4000) : callN T 1000 m i_lessened [rt a, rt b] st = .ok (rt (a - b)) st := by
  refine callN_do hm h.look rfl fun k hk => ?_
  simp [d_lessened, c_lessened, mulD1 ha hb, mulD1 hb ha, mulD2 ha hb, ev_lowest h.c_lowest hk (dens_pos a b) (dens_bl ha hb), sub_eq]
theorem ev_scaled (h : H_scaled T) (hm : 2 ≤ m) {a b : Rat} (ha : sz a ≤ 4000) (hb : sz b ≤ 4000) : callN T 1000 m i_scaled [rt a, rt b] st = .ok (rt (a * b)) st := by
  refine callN_do hm h.look rfl fun k hk => ?_
  simp [d_scaled, c_scaled, mulD3 ha hb, mulD2 ha hb, ev_lowest h.c_lowest hk (dens_pos a b) (dens_bl ha hb), mul_eq]
theorem ev_parted (h : H_parted T) (hm : 2 ≤ m) {a b : Rat} (ha : sz a ≤ 4000) (hb : sz b ≤ 4000) (h0 : b ≠ 0) : callN T 1000 m i_parted [rt a, rt b] st = .ok (rt (a / b)) st := by
  refine callN_do hm h.look rfl fun k hk => ?_
  have hn : b.num ≠ 0 := fun z => h0 (Rat.num_eq_zero.mp z)
  have hz : (a.den : Int) * b.num ≠ 0 := Int.mul_ne_zero (by have := den_pos a; omega) hn
  have hs : bl ((a.den : Int) * b.num).natAbs ≤ 9000 := Nat.le_trans (bl_mul2 (den_bl ha) (num_bl hb)) (by decide)
  simp [d_parted, c_parted, mulD1 ha hb, mulD4 ha hb, ev_lowest' h.c_lowest hk hz hs, div_eq]
theorem ev_below (h : H_below T) (hm : 1 ≤ m) {a b : Rat} (ha : sz a ≤ 4000) (hb : sz b ≤ 4000) : callN T 1000 m i_below [rt a, rt b] st = .ok (.bl (decide (a < b))) st := by
  refine callN_do hm h.look rfl fun k hk => ?_
  simp [d_below, c_below, mulD1 ha hb, mulD1 hb ha, lt_eq]
theorem rt_neg (a : Rat) : D.tup [.int (-a.num), .int a.den] = rt (-a) := rfl
theorem ev_turned_sign (h : H_turned_sign T) (hm : 1 ≤ m) (a : Rat) : callN T 1000 m i_turned_sign [rt a] st = .ok (rt (-a)) st := by
  refine callN_do hm h.look rfl fun k hk => ?_
  simp [d_turned_sign, c_turned_sign, rt_neg]
theorem rt_abs (a : Rat) : D.tup [.int (if a.num < 0 then -a.num else a.num), .int a.den] = rt a.abs := by
  unfold Rat.abs
  by_cases h : a.num < 0
  · rw [if_pos h, if_neg (by rw [← Rat.num_nonneg]; omega)]; rfl
  · rw [if_neg h, if_pos (by rw [← Rat.num_nonneg]; omega)]; rfl
theorem ev_size_of (h : H_size_of T) (hm : 1 ≤ m) (a : Rat) : callN T 1000 m i_size_of [rt a] st = .ok (rt a.abs) st := by
  refine callN_do hm h.look rfl fun k hk => ?_
  simp [d_size_of, c_size_of, rt_abs]
end
end G

set_option linter.all false
set_option maxRecDepth 100000
set_option maxHeartbeats 1000000
/-! L1: the law's own ratios. -/
namespace G
open PySem L2
section
variable {T : Tab} {st : Store} {m : Nat}
theorem intBits_bl (i : Int) : Builtin.Int.intBits i = bl i.natAbs := by
  unfold Builtin.Int.intBits bl
  by_cases hi : i = 0
  · subst hi; rfl
  · have : i.natAbs ≠ 0 := by omega
    simp [hi, this]
theorem bl_mod {a b : Nat} (hb : b ≤ a) (h0 : b ≠ 0) : bl (a % b) + 1 ≤ bl a := by
  have h : a % b * 2 < a + 1 := by
    have h1 := Nat.mod_lt a (show 0 < b by omega)
    have h2 := Nat.div_add_mod a b
    have h3 : 1 ≤ a / b := Nat.div_pos hb (by omega)
    have h4 : b ≤ b * (a / b) := Nat.le_mul_of_pos_right b h3
    omega
  have ha : 1 ≤ bl a := by unfold bl; rw [if_neg (by omega)]; omega
  have : bl (a % b) ≤ bl a - 1 := by
    rw [bl_le]
    have := bl_lt_self a
    have e : 2 ^ bl a = 2 ^ (bl a - 1) * 2 := by rw [← Nat.pow_succ]; congr 1; omega
    omega
  omega
/-- how Euclid's rows go -/
structure EuI (a0 b0 : Nat) (j : Nat) (a b : Nat) : Prop where
  g : Nat.gcd a b = Nat.gcd a0 b0
  lt : j = 0 ∧ b = b0 ∨ 1 ≤ j ∧ b < a ∧ bl a + bl b + j ≤ 2 * bl b0 + 1
theorem EuI.step {a0 b0 j a b : Nat} (h : EuI a0 b0 j a b) (hb : b ≠ 0) : EuI a0 b0 (j + 1) b (a % b) := by
  have hm := Nat.mod_lt a (show 0 < b by omega)
  refine ⟨?_, .inr ⟨by omega, hm, ?_⟩⟩
  · rw [← h.g, Nat.gcd_comm a b, Nat.gcd_rec b a, Nat.gcd_comm]
  · rcases h.lt with ⟨h1, h2⟩ | ⟨h1, h2, h3⟩
    · subst h2
      have := bl_mono (Nat.le_of_lt hm)
      omega
    · have := bl_mod (Nat.le_of_lt h2) hb
      omega
theorem EuI.ends {a0 b0 j a b : Nat} (h : EuI a0 b0 j a b) (hj : j = 4 + 2 * bl b0) : False := by
  rcases h.lt with ⟨h1, _⟩ | ⟨_, _, h3⟩ <;> omega
theorem abs_int (i : Int) : (if i < 0 then -i else i) = (i.natAbs : Int) := by split <;> omega
theorem ev_law_gcd (h : H__law_gcd T) (hm : 1 ≤ m) (a b : Int) (hs : bl b.natAbs ≤ 9000) : callN T 1000 m i__law_gcd [.int a, .int b] st = .ok (.int (Nat.gcd a.natAbs b.natAbs : Nat)) st := by
  refine R.eq_of_sat (callN_sat hm h.look rfl fun k hk => ?_)
  simp [d__law_gcd, c__law_gcd, abs_int, setAll]
  refine for_sat (ds := [.int (4 + 2 * (bl b.natAbs : Nat))]) (l := (rangeL 0 (4 + 2 * (bl b.natAbs : Nat) : Int).toNat).map .int) (fun j ρ st' => st' = st ∧ ∃ x y z, ρ = [some (.int (x : Nat)), some (.int (y : Nat)), z] ∧ EuI a.natAbs b.natAbs j x y) ?_ (fun j ρ st' h => itList_range (by omega) (by omega)) ⟨rfl, _, _, _, rfl, rfl, .inl ⟨rfl, rfl⟩⟩ ?_ ?_
  · have e : ∀ st, binD st .Mult (.int 2) (.int (bl b.natAbs : Nat)) = some (.int (2 * (bl b.natAbs : Nat))) := fun st => binD_muls' (by decide +kernel)
    simp [bmTy, bmD, intBits_bl, e]
  · rintro j ρ st' hj ⟨rfl, x, y, z, rfl, hI⟩
    by_cases hy : y = 0
    · subst hy
      simp
      have := hI.g
      rw [Nat.gcd_zero_right] at this
      omega
    · have hy' : ¬ (y : Int) = 0 := by omega
      have e := fun st i => @binD_mod st i (y : Int) (by omega)
      simp [hy, e, setAll]
      exact ⟨y, x % y, ⟨rfl, by omega⟩, hI.step hy⟩
  · rintro ρ st' ⟨rfl, x, y, z, rfl, hI⟩
    refine (hI.ends ?_).elim
    simp [rangeL]; omega
theorem gcd_le_bl {a b : Int} (hb : b ≠ 0) {k : Nat} (hs : bl b.natAbs ≤ k) : bl ((Nat.gcd a.natAbs b.natAbs : Nat) : Int).natAbs ≤ k := Nat.le_trans (bl_gcd hb) hs
theorem ev_law_q (h : H__law_q T) (hm : 2 ≤ m) {a b : Int} (hb : b ≠ 0) (hs : bl b.natAbs ≤ 9000) : callN T 1000 m i__law_q [.int a, .int b] st = .ok (rt (Rat.divInt a b)) st := by
  refine callN_do hm h.look rfl fun k hk => ?_
  have g0 := gcd_pos' (a := a) hb
  by_cases h0 : b < 0
  · have e1 := fun st i => @binD_fdivN st i (-(Nat.gcd a.natAbs b.natAbs : Nat)) (by omega) (by rw [bl_neg]; exact gcd_le_bl hb hs)
    simp [d__law_q, c__law_q, h0, e1, ev_law_gcd h.c__law_gcd hk a b hs, rt_low_neg (a := a) h0]
  · have e1 := fun st i => @binD_fdiv st i _ g0 (gcd_le_bl hb hs)
    simp [d__law_q, c__law_q, h0, e1, ev_law_gcd h.c__law_gcd hk a b hs, rt_low (a := a) (show 0 < b by omega)]
theorem ne_of_pos {i : Int} (h : 0 < i) : i ≠ 0 := by omega
theorem ev_law_plus (h : H__law_plus T) (hm : 3 ≤ m) {a b : Rat} (ha : sz a ≤ 4000) (hb : sz b ≤ 4000) : callN T 1000 m i__law_plus [rt a, rt b] st = .ok (rt (a + b)) st := by
  refine callN_do hm h.look rfl fun k hk => ?_
  simp [d__law_plus, c__law_plus, mulD1 ha hb, mulD1 hb ha, mulD2 ha hb, ev_law_q h.c__law_q hk (ne_of_pos (dens_pos a b)) (dens_bl ha hb), add_eq]
theorem ev_law_minus (h : H__law_minus T) (hm : 3 ≤ m) {a b : Rat} (ha : sz a ≤ 4000) (hb : sz b ≤ 4000) : callN T 1000 m i__law_minus [rt a, rt b] st = .ok (rt (a - b)) st := by
  refine callN_do hm h.look rfl fun k hk => ?_
  simp [d__law_minus, c__law_minus, mulD1 ha hb, mulD1 hb ha, mulD2 ha hb, ev_law_q h.c__law_q hk (ne_of_pos (dens_pos a b)) (dens_bl ha hb), sub_eq]
theorem ev_law_times (h : H__law_times T) (hm : 3 ≤ m) {a b : Rat} (ha : sz a ≤ 4000) (hb : sz b ≤ 4000) : callN T 1000 m i__law_times [rt a, rt b] st = .ok (rt (a * b)) st := by
  refine callN_do hm h.look rfl fun k hk => ?_
  simp [d__law_times, c__law_times, mulD3 ha hb, mulD2 ha hb, ev_law_q h.c__law_q hk (ne_of_pos (dens_pos a b)) (dens_bl ha hb), mul_eq]
theorem ev_law_share (h : H__law_share T) (hm : 3 ≤ m) {a b : Rat} (ha : sz a ≤ 4000) (hb : sz b ≤ 4000) (h0 : b ≠ 0) : callN T 1000 m i__law_share [rt a, rt b] st = .ok (rt (a / b)) st := by
  refine callN_do hm h.look rfl fun k hk => ?_
  have hn : b.num ≠ 0 := fun z => h0 (Rat.num_eq_zero.mp z)
  have hz : (a.den : Int) * b.num ≠ 0 := Int.mul_ne_zero (by have := den_pos a; omega) hn
  have hs : bl ((a.den : Int) * b.num).natAbs ≤ 9000 := Nat.le_trans (bl_mul2 (den_bl ha) (num_bl hb)) (by decide)
  simp [d__law_share, c__law_share, mulD1 ha hb, mulD4 ha hb, ev_law_q h.c__law_q hk hz hs, div_eq]
theorem ev_law_less (h : H__law_less T) (hm : 1 ≤ m) {a b : Rat} (ha : sz a ≤ 4000) (hb : sz b ≤ 4000) : callN T 1000 m i__law_less [rt a, rt b] st = .ok (.bl (decide (a < b))) st := by
  refine callN_do hm h.look rfl fun k hk => ?_
  simp [d__law_less, c__law_less, mulD1 ha hb, mulD1 hb ha, lt_eq]
theorem ev_law_size (h : H__law_size T) (hm : 1 ≤ m) (a : Rat) : callN T 1000 m i__law_size [rt a] st = .ok (rt a.abs) st := by
  refine callN_do hm h.look rfl fun k hk => ?_
  simp [d__law_size, c__law_size, rt_abs]
/-- sums of rows, with their sizes -/
def qsum (l : List Rat) : Rat := l.foldl (· + ·) 0
def qszs (l : List Rat) : Nat := (l.map fun q => sz q + 1).sum
theorem sz_foldl (l : List Rat) (a : Rat) : sz (l.foldl (· + ·) a) ≤ sz a + qszs l := by
  induction l generalizing a with
  | nil => simp [qszs]
  | cons b l ih =>
    have h1 := ih (a + b)
    have h2 := sz_add a b
    simp only [List.foldl_cons, qszs, List.map_cons, List.sum_cons] at *
    omega
theorem qszs_le {l : List Rat} {k : Nat} (h : ∀ q ∈ l, sz q ≤ k) : qszs l ≤ l.length * (k + 1) := by
  induction l with
  | nil => simp [qszs]
  | cons b l ih =>
    have h1 := ih fun q hq => h q (List.mem_cons_of_mem _ hq)
    have h2 := h b List.mem_cons_self
    simp only [qszs, List.map_cons, List.sum_cons, List.length_cons, Nat.add_mul, Nat.one_mul] at *
    omega
theorem sz_qsum {l : List Rat} {k : Nat} (h : ∀ q ∈ l, sz q ≤ k) : sz (qsum l) ≤ 1 + l.length * (k + 1) := by
  have h1 := sz_foldl l 0
  have h2 := qszs_le h
  rw [sz_zero] at h1
  unfold qsum
  omega
theorem qsum_take {l : List Rat} {j k : Nat} (h : ∀ q ∈ l, sz q ≤ k) : sz ((l.take j).foldl (· + ·) 0) ≤ 1 + l.length * (k + 1) := by
  have h1 := sz_qsum (l := l.take j) (k := k) fun q hq => h q (List.mem_of_mem_take hq)
  have h2 : (l.take j).length * (k + 1) ≤ l.length * (k + 1) := Nat.mul_le_mul_right _ (by simp; omega)
  unfold qsum at h1
  omega
theorem ev_law_sum (h : H__law_sum T) (hm : 4 ≤ m) {l : List Rat} {k : Nat} (hk : ∀ q ∈ l, sz q ≤ k) (hl : l.length * (k + 1) ≤ 3000) (hk' : k ≤ 3000) : callN T 1000 m i__law_sum [.lst (l.map rt)] st = .ok (rt (qsum l)) st := by
  refine callN_do hm h.look rfl fun n hn => ?_
  simp [d__law_sum, c__law_sum]
  obtain ⟨c, e⟩ := for_fold (T := T) (call := callN T 1000 n) (wf := 1000) (st := st) (tg := .nm 2) (k := .one) (es := [.var 0]) (body := [.asg (.nm 1) (.call i__law_plus [.var 1, .var 2])]) (ρ := [some (.lst (l.map rt)), some (rt 0), none]) (ds := [.lst (l.map rt)]) (xs := l) (enc := rt)
    (fun (a : Rat) (u : Option D) => [some (.lst (l.map rt)), some (rt a), u]) (· + ·) (b0 := 0) (c0 := none) (by simp) (by simp) rfl (fun j hj c => by
      have h1 := qsum_take (j := j) hk
      have h2 := hk l[j] (List.getElem_mem hj)
      simp [ev_law_plus h.c__law_plus hn (a := (l.take j).foldl (· + ·) 0) (b := l[j]) (by omega) (by omega)])
  simp only [rt01, e]
  simp [qsum]
end
end G

set_option linter.all false
set_option maxRecDepth 100000
set_option maxHeartbeats 1000000
/-! V2: spans. -/
namespace G
open PySem L2
abbrev Span := Rat × Rat
def sp (s : Span) : D := .tup [rt s.1, rt s.2]
def ssz (s : Span) : Nat := max (sz s.1) (sz s.2)
theorem ssz_1 {s : Span} {k : Nat} (h : ssz s ≤ k) : sz s.1 ≤ k := Nat.le_trans (Nat.le_max_left _ _) h
theorem ssz_2 {s : Span} {k : Nat} (h : ssz s ≤ k) : sz s.2 ≤ k := Nat.le_trans (Nat.le_max_right _ _) h
theorem ssz_le {s : Span} {k : Nat} (h1 : sz s.1 ≤ k) (h2 : sz s.2 ≤ k) : ssz s ≤ k := Nat.max_le.mpr ⟨h1, h2⟩
theorem ssz_mk {a b : Rat} {k : Nat} (h1 : sz a ≤ k) (h2 : sz b ≤ k) : ssz (a, b) ≤ k := Nat.max_le.mpr ⟨h1, h2⟩
theorem sp_ok : EncOk sp 2 := EncOk.two rt_ok rt_ok
theorem sz_min (a b : Rat) : sz (min a b) ≤ max (sz a) (sz b) := by rw [Rat.min_def]; split <;> omega
theorem sz_max (a b : Rat) : sz (max a b) ≤ max (sz a) (sz b) := by rw [Rat.max_def]; split <;> omega
theorem min_if (a b : Rat) : (if b < a then b else a) = min a b := by rw [Rat.min_def]; split <;> split <;> grind
theorem max_if (a b : Rat) : (if a < b then b else a) = max a b := by rw [Rat.max_def]; split <;> split <;> grind
section
variable {T : Tab} {st : Store} {m : Nat}
@[simp] theorem sp_eq (a b : Span) : eqD st (sp a) (sp b) = some (decide (a = b)) := sp_ok.eq (by decide) st a b
@[simp] theorem sp_0 (a : Span) : ixD st (sp a) (.int 0) = some (rt a.1) := by simp [sp]
@[simp] theorem sp_1 (a : Span) : ixD st (sp a) (.int 1) = some (rt a.2) := by simp [sp]
@[simp] theorem sp_items (a : Span) : items? st (sp a) = some ([a.1, a.2].map rt) := rfl
@[simp] theorem sp_non (a : Span) : isNon (sp a) = false := rfl
theorem sp_mk (a b : Rat) : D.tup [rt a, rt b] = sp (a, b) := rfl
theorem ev_is_tuple_of (h : H_is_tuple_of T) (hm : 1 ≤ m) (l : List D) (n : Int) : callN T 1000 m i_is_tuple_of [.tup l, .int n] st = .ok (.bl (decide ((l.length : Int) = n))) st := by
  refine callN_do hm h.look rfl fun k hk => ?_
  simp [d_is_tuple_of, c_is_tuple_of]
theorem ev_in_tuples_int (h : H_in_tuples T) (hm : 1 ≤ m) (i : Int) : callN T 1000 m i_in_tuples [.int i] st = .ok (.int i) st := by
  refine callN_do hm h.look rfl fun k hk => ?_
  simp [d_in_tuples, c_in_tuples]
theorem ev_in_tuples_tup {α : Type} (h : H_in_tuples T) {n : Nat} (hm : n + 1 ≤ m) {enc enc' : α → D} {l : List α} (hl : l.length ≤ LIM) (hi : ∀ k, n ≤ k → ∀ x ∈ l, callN T 1000 k i_in_tuples [enc x] st = .ok (enc' x) st) : callN T 1000 m i_in_tuples [.tup (l.map enc)] st = .ok (.tup (l.map enc')) st := by
  refine callN_do hm h.look rfl fun k hk => ?_
  simp [d_in_tuples, c_in_tuples]
  rw [lc_pure (xs := l) (enc := enc) enc' (ds := [.tup (l.map enc)]) (by simp) (by simp) hl (fun x hx => by simp [turnR, wipeD, hi k hk x hx])]
  simp
theorem ev_in_tuples_lst {α : Type} (h : H_in_tuples T) {n : Nat} (hm : n + 1 ≤ m) {enc enc' : α → D} {l : List α} (hl : l.length ≤ LIM) (hi : ∀ k, n ≤ k → ∀ x ∈ l, callN T 1000 k i_in_tuples [enc x] st = .ok (enc' x) st) : callN T 1000 m i_in_tuples [.lst (l.map enc)] st = .ok (.tup (l.map enc')) st := by
  refine callN_do hm h.look rfl fun k hk => ?_
  simp [d_in_tuples, c_in_tuples]
  rw [lc_pure (xs := l) (enc := enc) enc' (ds := [.lst (l.map enc)]) (by simp) (by simp) hl (fun x hx => by simp [turnR, wipeD, hi k hk x hx])]
  simp
theorem rt_map (q : Rat) : rt q = .tup ([q.num, (q.den : Int)].map D.int) := rfl
theorem ev_in_tuples_rt (h : H_in_tuples T) (hm : 2 ≤ m) (q : Rat) : callN T 1000 m i_in_tuples [rt q] st = .ok (rt q) st := by
  rw [rt_map]
  exact ev_in_tuples_tup h hm (by simp) fun k hk x _ => ev_in_tuples_int h hk x
theorem ev_in_tuples_row (h : H_in_tuples T) (hm : 3 ≤ m) {l : List Rat} (hl : l.length ≤ LIM) : callN T 1000 m i_in_tuples [.tup (l.map rt)] st = .ok (.tup (l.map rt)) st :=
  ev_in_tuples_tup h hm hl fun k hk x _ => ev_in_tuples_rt h hk x
/-- a ratio as it is passed, lists as tuples -/
def Ptold (d : D) (q : Rat) : Prop := (∃ i : Int, d = .int i ∧ q = i) ∨ ∃ a b : Int, d = .tup [.int a, .int b] ∧ 0 < b ∧ bl b.natAbs ≤ 9000 ∧ q = Rat.divInt a b
theorem Ptold.rt {q : Rat} (h : sz q ≤ 9000) : Ptold (rt q) q := .inr ⟨q.num, q.den, rfl, den_pos q, den_bl h, by rw [Rat.divInt_ofNat, Rat.mkRat_self]⟩
theorem ev_is_ratio_P (h : H_is_ratio T) (hm : 3 ≤ m) {d : D} {q : Rat} (hd : Ptold d q) : callN T 1000 m i_is_ratio [d] st = .ok (.bl true) st := by
  refine callN_do hm h.look rfl fun k hk => ?_
  rcases hd with ⟨i, rfl, rfl⟩ | ⟨a, b, rfl, hb, hs, rfl⟩
  · simp [d_is_ratio, c_is_ratio, ev_is_whole_int h.c_is_whole (show 1 ≤ k by omega)]
  · simp [d_is_ratio, c_is_ratio, ev_is_whole_tup h.c_is_whole (show 1 ≤ k by omega), ev_is_pair h.c_is_pair (show 2 ≤ k by omega), hb]
theorem ev_told_P (h : H_told T) (hm : 3 ≤ m) {d : D} {q : Rat} (hd : Ptold d q) : callN T 1000 m i_told [d] st = .ok (G.rt q) st := by
  refine callN_do hm h.look rfl fun k hk => ?_
  rcases hd with ⟨i, rfl, rfl⟩ | ⟨a, b, rfl, hb, hs, rfl⟩
  · simp [d_told, c_told, ev_is_whole_int h.c_is_whole (show 1 ≤ k by omega), rtInt]
  · simp [d_told, c_told, ev_is_whole_tup h.c_is_whole (show 1 ≤ k by omega), ev_is_pair h.c_is_pair (show 2 ≤ k by omega), hb, ev_lowest h.c_lowest (show 1 ≤ k by omega) hb hs]
theorem ev_span_from_P (h : H_span_from T) (hm : 4 ≤ m) {v x y : D} {a b : Rat} (hv : ∀ k, m ≤ k + 1 → callN T 1000 k i_in_tuples [v] st = .ok (.tup [x, y]) st) (hx : Ptold x a) (hy : Ptold y b) (ha : sz a ≤ 4000) (hb : sz b ≤ 4000) (hl : a ≤ b) : callN T 1000 m i_span_from [v] st = .ok (sp (a, b)) st := by
  obtain ⟨j, rfl⟩ : ∃ j, m = j + 1 := ⟨m - 1, by omega⟩
  refine callN_do (n := j) (Nat.le_refl _) h.look rfl fun k hk => ?_
  have l1 : ∀ u ρ', ev T (callN T 1000 k) (.lc false [3] (.call i_is_ratio [.var 3]) (.nm 3) .one [.var 1] []) [some v, some (.tup [x, y]), u, ρ'] st = .ok (.lst ([(x, a), (y, b)].map fun _ => D.bl true)) st := fun u ρ' =>
    lc_pure (xs := [(x, a), (y, b)]) (enc := Prod.fst) _ (ds := [.tup [x, y]]) (by simp) (by simp) (by simp) (fun p hp => by
      have : Ptold p.1 p.2 := by simp at hp; rcases hp with rfl | rfl <;> assumption
      simp [turnR, wipeD, ev_is_ratio_P h.c_is_ratio (show 3 ≤ k by omega) this])
  have l2 : ∀ u ρ', ev T (callN T 1000 k) (.lc false [3] (.call i_told [.var 3]) (.nm 3) .one [.var 1] []) [some v, some (.tup [x, y]), u, ρ'] st = .ok (.lst ([(x, a), (y, b)].map fun p => rt p.2)) st := fun u ρ' =>
    lc_pure (xs := [(x, a), (y, b)]) (enc := Prod.fst) _ (ds := [.tup [x, y]]) (by simp) (by simp) (by simp) (fun p hp => by
      have : Ptold p.1 p.2 := by simp at hp; rcases hp with rfl | rfl <;> assumption
      simp [turnR, wipeD, ev_told_P h.c_told (show 3 ≤ k by omega) this])
  have hlt : ¬ b < a := by grind
  simp [d_span_from, c_span_from, hv k (by omega), ev_is_tuple_of h.c_is_tuple_of (show 1 ≤ k by omega), l1, l2, allR, bools?, ev_below h.c_below (show 1 ≤ k by omega) hb ha, hlt, sp_mk]
theorem ev_span_from (h : H_span_from T) (hm : 4 ≤ m) {s : Span} (hs : ssz s ≤ 4000) (hl : s.1 ≤ s.2) : callN T 1000 m i_span_from [sp s] st = .ok (sp s) st := by
  have h1 := ssz_1 hs
  have h2 := ssz_2 hs
  exact ev_span_from_P h hm (fun k hk => ev_in_tuples_row (l := [s.1, s.2]) h.c_in_tuples (by omega) (by simp)) (.rt (by omega)) (.rt (by omega)) h1 h2 hl
/-- least and greatest -/
def qhd : List Rat → Rat
  | [] => 0
  | x :: _ => x
def qmin (l : List Rat) : Rat := l.foldl min (qhd l)
def qmax (l : List Rat) : Rat := l.foldl max (qhd l)
theorem sz_foldl_min {k : Nat} (l : List Rat) (a : Rat) (ha : sz a ≤ k) (h : ∀ q ∈ l, sz q ≤ k) : sz (l.foldl min a) ≤ k := by
  induction l generalizing a with
  | nil => exact ha
  | cons b l ih =>
    have h1 := sz_min a b
    have h2 := h b List.mem_cons_self
    exact ih (min a b) (by omega) fun q hq => h q (List.mem_cons_of_mem _ hq)
theorem sz_foldl_max {k : Nat} (l : List Rat) (a : Rat) (ha : sz a ≤ k) (h : ∀ q ∈ l, sz q ≤ k) : sz (l.foldl max a) ≤ k := by
  induction l generalizing a with
  | nil => exact ha
  | cons b l ih =>
    have h1 := sz_max a b
    have h2 := h b List.mem_cons_self
    exact ih (max a b) (by omega) fun q hq => h q (List.mem_cons_of_mem _ hq)
theorem head_mem {l : List Rat} (h : l ≠ []) : qhd l ∈ l := by
  cases l with
  | nil => exact (h rfl).elim
  | cons x l => exact List.mem_cons_self
theorem ix0_map {enc : Rat → D} {l : List Rat} (h : l ≠ []) : ixD st (.lst (l.map enc)) (.int 0) = some (enc (qhd l)) := by
  cases l with
  | nil => exact (h rfl).elim
  | cons x l => simp [qhd]
theorem ev_least_of (h : H_least_of T) (hm : 2 ≤ m) {l : List Rat} (hs : ∀ q ∈ l, sz q ≤ 4000) (h0 : l ≠ []) : callN T 1000 m i_least_of [.lst (l.map rt)] st = .ok (rt (qmin l)) st := by
  refine R.eq_of_sat (callN_sat hm h.look rfl fun k hk => ?_)
  simp [d_least_of, c_least_of, ix0_map h0]
  refine for_sat (ds := [.lst (l.map rt)]) (l := l.map rt) (fun j ρ st' => st' = st ∧ ∃ u, ρ = [some (.lst (l.map rt)), some (rt ((l.take j).foldl min (qhd l))), u]) (by simp) (by simp) ⟨rfl, none, by simp⟩ ?_ ?_
  · rintro j ρ st' hj ⟨rfl, u, rfl⟩
    have hj' : j < l.length := by simpa using hj
    have s1 := hs l[j] (List.getElem_mem hj')
    have s2 := sz_foldl_min (l.take j) (qhd l) (hs _ (head_mem h0)) fun q hq => hs q (List.mem_of_mem_take hq)
    rw [List.getElem_map]
    rw [List.take_succ_eq_append_getElem hj', List.foldl_append]
    simp only [List.foldl_cons, List.foldl_nil, ← min_if]
    by_cases c : l[j] < (l.take j).foldl min (qhd l) <;> simp [ev_below h.c_below hk s1 s2, c]
  · rintro ρ st' ⟨rfl, u, rfl⟩
    simp [qmin]
theorem ev_most_of (h : H_most_of T) (hm : 2 ≤ m) {l : List Rat} (hs : ∀ q ∈ l, sz q ≤ 4000) (h0 : l ≠ []) : callN T 1000 m i_most_of [.lst (l.map rt)] st = .ok (rt (qmax l)) st := by
  refine R.eq_of_sat (callN_sat hm h.look rfl fun k hk => ?_)
  simp [d_most_of, c_most_of, ix0_map h0]
  refine for_sat (ds := [.lst (l.map rt)]) (l := l.map rt) (fun j ρ st' => st' = st ∧ ∃ u, ρ = [some (.lst (l.map rt)), some (rt ((l.take j).foldl max (qhd l))), u]) (by simp) (by simp) ⟨rfl, none, by simp⟩ ?_ ?_
  · rintro j ρ st' hj ⟨rfl, u, rfl⟩
    have hj' : j < l.length := by simpa using hj
    have s1 := hs l[j] (List.getElem_mem hj')
    have s2 := sz_foldl_max (l.take j) (qhd l) (hs _ (head_mem h0)) fun q hq => hs q (List.mem_of_mem_take hq)
    rw [List.getElem_map]
    rw [List.take_succ_eq_append_getElem hj', List.foldl_append]
    simp only [List.foldl_cons, List.foldl_nil, ← max_if]
    by_cases c : (l.take j).foldl max (qhd l) < l[j] <;> simp [ev_below h.c_below hk s2 s1, c]
  · rintro ρ st' ⟨rfl, u, rfl⟩
    simp [qmax]
theorem ev_sum_by (h : H_sum_by T) (hm : 3 ≤ m) {s t : Span} (hs : ssz s ≤ 4000) (ht : ssz t ≤ 4000) : callN T 1000 m i_sum_by [sp s, sp t] st = .ok (sp (s.1 + t.1, s.2 + t.2)) st := by
  refine callN_do hm h.look rfl fun k hk => ?_
  simp [d_sum_by, c_sum_by, ev_summed h.c_summed hk (ssz_1 hs) (ssz_1 ht), ev_summed h.c_summed hk (ssz_2 hs) (ssz_2 ht), sp_mk]
def smul (s t : Span) : Span := (qmin [s.1 * t.1, s.1 * t.2, s.2 * t.1, s.2 * t.2], qmax [s.1 * t.1, s.1 * t.2, s.2 * t.1, s.2 * t.2])
theorem ev_product_by (h : H_product_by T) (hm : 3 ≤ m) {s t : Span} (hs : ssz s ≤ 2000) (ht : ssz t ≤ 2000) : callN T 1000 m i_product_by [sp s, sp t] st = .ok (sp (smul s t)) st := by
  refine callN_do hm h.look rfl fun k hk => ?_
  have a1 := ssz_1 hs
  have a2 := ssz_2 hs
  have b1 := ssz_1 ht
  have b2 := ssz_2 ht
  have hl : ∀ q ∈ [s.1 * t.1, s.1 * t.2, s.2 * t.1, s.2 * t.2], sz q ≤ 4000 := by
    intro q hq
    have := sz_mul s.1 t.1; have := sz_mul s.1 t.2; have := sz_mul s.2 t.1; have := sz_mul s.2 t.2
    simp at hq
    rcases hq with rfl | rfl | rfl | rfl <;> omega
  have e1 := ev_least_of (st := st) h.c_least_of hk hl (by simp)
  have e2 := ev_most_of (st := st) h.c_most_of hk hl (by simp)
  simp only [List.map_cons, List.map_nil] at e1 e2
  simp [d_product_by, c_product_by, ev_scaled h.c_scaled hk (show sz s.1 ≤ 4000 by omega) (show sz t.1 ≤ 4000 by omega), ev_scaled h.c_scaled hk (show sz s.1 ≤ 4000 by omega) (show sz t.2 ≤ 4000 by omega), ev_scaled h.c_scaled hk (show sz s.2 ≤ 4000 by omega) (show sz t.1 ≤ 4000 by omega), ev_scaled h.c_scaled hk (show sz s.2 ≤ 4000 by omega) (show sz t.2 ≤ 4000 by omega), binD, e1, e2, sp_mk, smul]
theorem ssz_smul {s t : Span} {k l : Nat} (hs : ssz s ≤ k) (ht : ssz t ≤ l) : ssz (smul s t) ≤ k + l := by
  have a1 := ssz_1 hs
  have a2 := ssz_2 hs
  have b1 := ssz_1 ht
  have b2 := ssz_2 ht
  have hl : ∀ q ∈ [s.1 * t.1, s.1 * t.2, s.2 * t.1, s.2 * t.2], sz q ≤ k + l := by
    intro q hq
    have := sz_mul s.1 t.1; have := sz_mul s.1 t.2; have := sz_mul s.2 t.1; have := sz_mul s.2 t.2
    simp at hq
    rcases hq with rfl | rfl | rfl | rfl <;> omega
  exact ssz_le (sz_foldl_min _ _ (hl _ (head_mem (by simp))) hl) (sz_foldl_max _ _ (hl _ (head_mem (by simp))) hl)
theorem ev_middle_by (h : H_middle_by T) (hm : 3 ≤ m) {s : Span} (hs : ssz s ≤ 1900) : callN T 1000 m i_middle_by [sp s] st = .ok (rt ((s.1 + s.2) * (1 / 2))) st := by
  refine callN_do hm h.look rfl fun k hk => ?_
  have a1 := ssz_1 hs
  have a2 := ssz_2 hs
  have := sz_add s.1 s.2
  have := sz_half
  simp [d_middle_by, c_middle_by, ev_summed h.c_summed hk (show sz s.1 ≤ 4000 by omega) (show sz s.2 ≤ 4000 by omega), rt12, ev_scaled h.c_scaled hk (show sz (s.1 + s.2) ≤ 4000 by omega) (show sz (1 / 2) ≤ 4000 by omega)]
theorem ev_width_by (h : H_width_by T) (hm : 3 ≤ m) {s : Span} (hs : ssz s ≤ 1900) : callN T 1000 m i_width_by [sp s] st = .ok (rt ((s.2 - s.1) * (1 / 2))) st := by
  refine callN_do hm h.look rfl fun k hk => ?_
  have a1 := ssz_1 hs
  have a2 := ssz_2 hs
  have := sz_sub s.2 s.1
  have := sz_half
  simp [d_width_by, c_width_by, ev_lessened h.c_lessened hk (show sz s.2 ≤ 4000 by omega) (show sz s.1 ≤ 4000 by omega), rt12, ev_scaled h.c_scaled hk (show sz (s.2 - s.1) ≤ 4000 by omega) (show sz (1 / 2) ≤ 4000 by omega)]
def Sok (s : Span) : Prop := s.1 ≤ s.2
theorem ev_both_from (h : H_both_from T) (hm : 5 ≤ m) {s t : Span} (hs : ssz s ≤ 4000) (ht : ssz t ≤ 4000) (ls : Sok s) (lt : Sok t) : callN T 1000 m i_both_from [sp s, sp t] st = .ok (.tup [sp s, sp t]) st := by
  refine callN_do hm h.look rfl fun k hk => ?_
  simp [d_both_from, c_both_from, ev_span_from h.c_span_from hk hs ls, ev_span_from h.c_span_from hk ht lt]
theorem ev_plus_spans (h : H_plus_spans T) (hm : 6 ≤ m) {s t : Span} (hs : ssz s ≤ 4000) (ht : ssz t ≤ 4000) (ls : Sok s) (lt : Sok t) : callN T 1000 m i_plus_spans [sp s, sp t] st = .ok (sp (s.1 + t.1, s.2 + t.2)) st := by
  refine callN_do hm h.look rfl fun k hk => ?_
  simp [d_plus_spans, c_plus_spans, ev_both_from h.c_both_from hk hs ht ls lt, ev_sum_by h.c_sum_by (show 3 ≤ k by omega) hs ht]
theorem ev_times_spans (h : H_times_spans T) (hm : 6 ≤ m) {s t : Span} (hs : ssz s ≤ 2000) (ht : ssz t ≤ 2000) (ls : Sok s) (lt : Sok t) : callN T 1000 m i_times_spans [sp s, sp t] st = .ok (sp (smul s t)) st := by
  refine callN_do hm h.look rfl fun k hk => ?_
  simp [d_times_spans, c_times_spans, ev_both_from h.c_both_from hk (show ssz s ≤ 4000 by omega) (show ssz t ≤ 4000 by omega) ls lt, ev_product_by h.c_product_by (show 3 ≤ k by omega) hs ht]
theorem ev_width (h : H_width T) (hm : 5 ≤ m) {s : Span} (hs : ssz s ≤ 1900) (ls : Sok s) : callN T 1000 m i_width [sp s] st = .ok (rt ((s.2 - s.1) * (1 / 2))) st := by
  refine callN_do hm h.look rfl fun k hk => ?_
  simp [d_width, c_width, ev_span_from h.c_span_from hk (show ssz s ≤ 4000 by omega) ls, ev_width_by h.c_width_by (show 3 ≤ k by omega) hs]
theorem ev_middle (h : H_middle T) (hm : 5 ≤ m) {s : Span} (hs : ssz s ≤ 1900) (ls : Sok s) : callN T 1000 m i_middle [sp s] st = .ok (rt ((s.1 + s.2) * (1 / 2))) st := by
  refine callN_do hm h.look rfl fun k hk => ?_
  simp [d_middle, c_middle, ev_span_from h.c_span_from hk (show ssz s ≤ 4000 by omega) ls, ev_middle_by h.c_middle_by (show 3 ≤ k by omega) hs]
theorem least2 (h : H_least_of T) (hm : 2 ≤ m) {a b : Rat} (ha : sz a ≤ 4000) (hb : sz b ≤ 4000) : callN T 1000 m i_least_of [.lst [rt a, rt b]] st = .ok (rt (min a b)) st := by
  have := ev_least_of (st := st) (l := [a, b]) h hm (by simp [ha, hb]) (by simp)
  simpa [qmin, qhd, Rat.min_def, Rat.le_refl] using this
theorem most2 (h : H_most_of T) (hm : 2 ≤ m) {a b : Rat} (ha : sz a ≤ 4000) (hb : sz b ≤ 4000) : callN T 1000 m i_most_of [.lst [rt a, rt b]] st = .ok (rt (max a b)) st := by
  have := ev_most_of (st := st) (l := [a, b]) h hm (by simp [ha, hb]) (by simp)
  simpa [qmax, qhd, Rat.max_def, Rat.le_refl] using this
theorem ev_joined (h : H_joined T) (hm : 6 ≤ m) {s t : Span} (hs : ssz s ≤ 4000) (ht : ssz t ≤ 4000) (ls : Sok s) (lt : Sok t) : callN T 1000 m i_joined [sp s, sp t] st = .ok (sp (min s.1 t.1, max s.2 t.2)) st := by
  refine callN_do hm h.look rfl fun k hk => ?_
  simp [d_joined, c_joined, ev_both_from h.c_both_from hk hs ht ls lt, least2 h.c_least_of (show 2 ≤ k by omega) (ssz_1 hs) (ssz_1 ht), most2 h.c_most_of (show 2 ≤ k by omega) (ssz_2 hs) (ssz_2 ht), sp_mk]
/-- what both have -/
def commonD (s t : Span) : D := if min s.2 t.2 < max s.1 t.1 then .non else sp (max s.1 t.1, min s.2 t.2)
theorem ev_common_by (h : H_common_by T) (hm : 3 ≤ m) {s t : Span} (hs : ssz s ≤ 4000) (ht : ssz t ≤ 4000) : callN T 1000 m i_common_by [sp s, sp t] st = .ok (commonD s t) st := by
  refine callN_do hm h.look rfl fun k hk => ?_
  have z1 := sz_min s.2 t.2
  have z2 := sz_max s.1 t.1
  have a1 := ssz_1 hs
  have a2 := ssz_2 hs
  have b1 := ssz_1 ht
  have b2 := ssz_2 ht
  simp [d_common_by, c_common_by, least2 h.c_least_of hk a2 b2, most2 h.c_most_of hk a1 b1, ev_below h.c_below (show 1 ≤ k by omega) (show sz (min s.2 t.2) ≤ 4000 by omega) (show sz (max s.1 t.1) ≤ 4000 by omega), iteR_dec, sp_mk]
  unfold commonD
  split <;> simp
theorem ev_common (h : H_common T) (hm : 6 ≤ m) {s t : Span} (hs : ssz s ≤ 4000) (ht : ssz t ≤ 4000) (ls : Sok s) (lt : Sok t) : callN T 1000 m i_common [sp s, sp t] st = .ok (commonD s t) st := by
  refine callN_do hm h.look rfl fun k hk => ?_
  simp [d_common, c_common, ev_both_from h.c_both_from hk hs ht ls lt, ev_common_by h.c_common_by (show 3 ≤ k by omega) hs ht]
theorem ev_is_within (h : H_is_within T) (hm : 2 ≤ m) {s t : Span} (hs : ssz s ≤ 4000) (ht : ssz t ≤ 4000) : callN T 1000 m i_is_within [sp s, sp t] st = .ok (.bl (decide (t.1 ≤ s.1 ∧ s.2 ≤ t.2))) st := by
  refine callN_do hm h.look rfl fun k hk => ?_
  have a1 := ssz_1 hs
  have a2 := ssz_2 hs
  have b1 := ssz_1 ht
  have b2 := ssz_2 ht
  by_cases c1 : s.1 < t.1 <;> by_cases c2 : t.2 < s.2 <;> simp [d_is_within, c_is_within, ev_below h.c_below hk a1 b1, ev_below h.c_below hk b2 a2, c1, c2] <;> grind
theorem ev_within (h : H_within T) (hm : 6 ≤ m) {s t : Span} (hs : ssz s ≤ 4000) (ht : ssz t ≤ 4000) (ls : Sok s) (lt : Sok t) : callN T 1000 m i_within [sp s, sp t] st = .ok (.bl (decide (t.1 ≤ s.1 ∧ s.2 ≤ t.2))) st := by
  refine callN_do hm h.look rfl fun k hk => ?_
  simp [d_within, c_within, ev_both_from h.c_both_from hk hs ht ls lt, ev_is_within h.c_is_within (show 2 ≤ k by omega) hs ht]
theorem ev_has (h : H_has T) (hm : 2 ≤ m) {s : Span} {a : Rat} (hs : ssz s ≤ 4000) (ha : sz a ≤ 4000) : callN T 1000 m i_has [sp s, rt a] st = .ok (.bl (decide (s.1 ≤ a ∧ a ≤ s.2))) st := by
  refine callN_do hm h.look rfl fun k hk => ?_
  have a1 := ssz_1 hs
  have a2 := ssz_2 hs
  by_cases c1 : a < s.1 <;> by_cases c2 : s.2 < a <;> simp [d_has, c_has, ev_below h.c_below hk ha a1, ev_below h.c_below hk a2 ha, c1, c2] <;> grind
end
end G

set_option linter.all false
set_option maxRecDepth 100000
set_option maxHeartbeats 1000000
/-! V3: models, points, kinds. -/
namespace G
open PySem L2
/-- what is to be known of a class -/
structure HC (T : Tab) (c : Nat) (k : ClsD) : Prop where
  cls : T.clss.lookup c = some k
  self : T.isi.lookup (.cls c, .cls c) = some true
  ty : ∀ b : BT, b ≠ .non → T.isi.lookup (.cls c, .ty b) = some false
  of : ∀ b : BT, T.isi.lookup (.ty b, .cls c) = some false
structure Rule where
  name : Str
  row : List Span
  eq : Bool
  right : Span
def kindD (b : Bool) : D := .str (if b then "is" else "most")
def rowD (r : List Span) : D := .tup (r.map sp)
def ruleD (r : Rule) : D := .tup [.str r.name, rowD r.row, kindD r.eq, sp r.right]
structure Mdl where
  names : List Str
  rules : List Rule
  costs : List D
  asks : List D
def mdlD (M : Mdl) : D := .obj k_Model [a_unknowns, a_rules, a_costs, a_asks] [.tup (M.names.map .str), .tup (M.rules.map ruleD), .tup M.costs, .tup M.asks]
def pt (p : List Rat) : D := .tup (p.map rt)
theorem pt_ok : EncOk pt 2 := EncOk.tup rt_ok
theorem rowD_ok : EncOk rowD 3 := EncOk.tup sp_ok
section
variable {T : Tab} {st : Store} {m : Nat}
@[simp] theorem pt_eq (a b : List Rat) : eqD st (pt a) (pt b) = some (decide (a = b)) := pt_ok.eq (by decide) st a b
@[simp] theorem pt_items (a : List Rat) : items? st (pt a) = some (a.map rt) := (rfl)
@[simp] theorem rowD_items (a : List Span) : items? st (rowD a) = some (a.map sp) := (rfl)
@[simp] theorem rule_0 (r : Rule) : ixD st (ruleD r) (.int 0) = some (.str r.name) := by simp [ruleD]
@[simp] theorem rule_1 (r : Rule) : ixD st (ruleD r) (.int 1) = some (rowD r.row) := by simp [ruleD]
@[simp] theorem rule_2 (r : Rule) : ixD st (ruleD r) (.int 2) = some (kindD r.eq) := by simp [ruleD]
@[simp] theorem rule_3 (r : Rule) : ixD st (ruleD r) (.int 3) = some (sp r.right) := by simp [ruleD]
@[simp] theorem kind_is (b : Bool) : eqD st (kindD b) (.str "is") = some b := by
  have h1 : PyData.strOk ("is" : Str) = true := by decide +kernel
  have h2 : PyData.strOk ("most" : Str) = true := by decide +kernel
  have h3 : ¬ ("most" : Str) = "is" := by decide +kernel
  cases b
  · show eqD st (.str "most") (.str "is") = _
    rw [eqD_str h2 h1, decide_eq_false h3]
  · show eqD st (.str "is") (.str "is") = _
    rw [eqD_str h1 h1, decide_eq_true rfl]
theorem attr_unknowns (hM : HC T k_Model kc_Model) (M : Mdl) : attrD T st (mdlD M) a_unknowns = some (.tup (M.names.map .str)) := by
  unfold mdlD
  rw [attrD_obj hM.cls (by decide)]
  rfl
theorem attr_rules (hM : HC T k_Model kc_Model) (M : Mdl) : attrD T st (mdlD M) a_rules = some (.tup (M.rules.map ruleD)) := by
  unfold mdlD
  rw [attrD_obj hM.cls (by decide)]
  rfl
theorem isi_model (hM : HC T k_Model kc_Model) (M : Mdl) : isiD T st (mdlD M) (.cls k_Model) = some true := by
  simp [mdlD, isiD, tyOf, tyD, isiTy, hM.self]
theorem ev_need_model (h : H_need_model T) (hm : 1 ≤ m) (hM : HC T k_Model kc_Model) (M : Mdl) : callN T 1000 m i_need_model [mdlD M] st = .ok .non st := by
  refine callN_do hm h.look rfl fun k hk => ?_
  simp [d_need_model, c_need_model, isi_model hM]
theorem ev_need_number (h : H_need_number T) (hm : 2 ≤ m) {what : D} {l : List D} {i : Int} (h0 : 0 ≤ i) (h1 : i < l.length) : callN T 1000 m i_need_number [what, .tup l, .int i] st = .ok .non st := by
  refine callN_do hm h.look rfl fun k hk => ?_
  simp [d_need_number, c_need_number, ev_is_whole_int h.c_is_whole hk, h0, h1]
inductive Wd where
  | some | held | bears | steers
  deriving DecidableEq
def Wd.str : Wd → Str
  | .some => "some"
  | .held => "held"
  | .bears => "bears"
  | .steers => "steers"
def Wd.byC : Wd → Int
  | .some => 1
  | .held => -1
  | .bears => -1
  | .steers => 1
def Wd.byR : Wd → Int
  | .some => 1
  | .held => -1
  | .bears => 1
  | .steers => -1
@[simp] theorem kix_c (w : Wd) : kixR ["some", "held", "bears", "steers"] [.int 1, .int (-1), .int (-1), .int 1] (.str w.str) st = .ok (.int w.byC) st := by
  have : lookS w.str ["some", "held", "bears", "steers"] [.int 1, .int (-1), .int (-1), .int 1] = some (.int w.byC) := by cases w <;> rfl
  simp [kixR, this]
@[simp] theorem kix_r (w : Wd) : kixR ["some", "held", "bears", "steers"] [.int 1, .int (-1), .int 1, .int (-1)] (.str w.str) st = .ok (.int w.byR) st := by
  have : lookS w.str ["some", "held", "bears", "steers"] [.int 1, .int (-1), .int 1, .int (-1)] = some (.int w.byR) := by cases w <;> rfl
  simp [kixR, this]
theorem in_words (w : Wd) : inD st (.str w.str) (.tup [.str "some", .str "held", .str "bears", .str "steers"]) = some true := by
  have := inD_strs (st := st) w.str ["some", "held", "bears", "steers"]
  have e : (["some", "held", "bears", "steers"] : List Str).any (fun b => decide (b = w.str)) = true := by cases w <;> decide +kernel
  rw [e] at this
  exact this
theorem ev_need_word (h : H_need_word T) (hm : 1 ≤ m) (w : Wd) : callN T 1000 m i_need_word [.str w.str] st = .ok .non st := by
  refine callN_do hm h.look rfl fun k hk => ?_
  simp [d_need_word, c_need_word, in_words]
theorem ev_row_from (h : H_row_from T) (hm : 4 ≤ m) {l : List Rat} (hs : ∀ q ∈ l, sz q ≤ 4000) (hl : l.length ≤ LIM) : callN T 1000 m i_row_from [pt l, .int l.length] st = .ok (pt l) st := by
  obtain ⟨j, rfl⟩ : ∃ j, m = j + 1 := ⟨m - 1, by omega⟩
  refine callN_do (n := j) (Nat.le_refl _) h.look rfl fun k hk => ?_
  unfold pt
  have e0 : callN T 1000 k i_in_tuples [.tup (l.map rt)] st = .ok (.tup (l.map rt)) st := ev_in_tuples_row h.c_in_tuples (by omega) hl
  have l1 : ∀ a b u, ev T (callN T 1000 k) (.lc false [3] (.call i_is_ratio [.var 3]) (.nm 3) .one [.var 2] []) [a, b, some (.tup (l.map rt)), u] st = .ok (.lst (l.map fun _ => D.bl true)) st := fun a b u =>
    lc_pure (xs := l) (enc := rt) _ (ds := [.tup (l.map rt)]) (by simp) (by simp) hl (fun p hp => by simp [turnR, wipeD, ev_is_ratio_P h.c_is_ratio (show 3 ≤ k by omega) (Ptold.rt (Nat.le_trans (hs p hp) (by decide)))])
  have l2 : ∀ a b u, ev T (callN T 1000 k) (.lc false [3] (.call i_told [.var 3]) (.nm 3) .one [.var 2] []) [a, b, some (.tup (l.map rt)), u] st = .ok (.lst (l.map rt)) st := fun a b u =>
    lc_pure (xs := l) (enc := rt) _ (ds := [.tup (l.map rt)]) (by simp) (by simp) hl (fun p hp => by simp [turnR, wipeD, ev_told_P h.c_told (show 3 ≤ k by omega) (Ptold.rt (Nat.le_trans (hs p hp) (by decide)))])
  simp [d_row_from, c_row_from, e0, ev_is_tuple_of h.c_is_tuple_of (show 1 ≤ k by omega), l1, l2]
theorem ev_point_from (h : H_point_from T) (hm : 5 ≤ m) (hM : HC T k_Model kc_Model) {M : Mdl} {l : List Rat} (hn : M.names.length = l.length) (hs : ∀ q ∈ l, sz q ≤ 4000) (hl : l.length ≤ LIM) : callN T 1000 m i_point_from [mdlD M, pt l] st = .ok (pt l) st := by
  refine callN_do hm h.look rfl fun k hk => ?_
  simp [d_point_from, c_point_from, attr_unknowns hM, hn, ev_row_from h.c_row_from hk hs hl]
/-- the reach of a row at a point -/
def reachS (row : List Span) (p : List Rat) : Span := (row.zip p).foldl (fun s x => (s.1 + (smul x.1 (x.2, x.2)).1, s.2 + (smul x.1 (x.2, x.2)).2)) (0, 0)
def reachK (k l n : Nat) : Nat := 1 + n * (k + l + 1)
theorem ssz_reach (k l : Nat) : ∀ (z : List (Span × Rat)) (s : Span) (c : Nat), (∀ x ∈ z, ssz x.1 ≤ k ∧ sz x.2 ≤ l) → ssz s ≤ c → ssz (z.foldl (fun s x => (s.1 + (smul x.1 (x.2, x.2)).1, s.2 + (smul x.1 (x.2, x.2)).2)) s) ≤ c + z.length * (k + l + 1)
  | [], s, c, _, hs => by simpa using hs
  | x :: z, s, c, h, hs => by
    obtain ⟨h1, h2⟩ := h x List.mem_cons_self
    have h3 := ssz_smul (t := (x.2, x.2)) h1 (ssz_mk h2 h2)
    have a1 := sz_add s.1 (smul x.1 (x.2, x.2)).1
    have a2 := sz_add s.2 (smul x.1 (x.2, x.2)).2
    have a3 := ssz_1 h3
    have a4 := ssz_2 h3
    have a5 := ssz_1 hs
    have a6 := ssz_2 hs
    have := ssz_reach k l z (s.1 + (smul x.1 (x.2, x.2)).1, s.2 + (smul x.1 (x.2, x.2)).2) (c + (k + l + 1)) (fun y hy => h y (List.mem_cons_of_mem _ hy)) (ssz_mk (by omega) (by omega))
    simp only [List.foldl_cons, List.length_cons, Nat.add_mul, Nat.one_mul]
    omega
theorem zip_sizes {row : List Span} {p : List Rat} {k l : Nat} (hr : ∀ s ∈ row, ssz s ≤ k) (hp : ∀ q ∈ p, sz q ≤ l) : ∀ x ∈ row.zip p, ssz x.1 ≤ k ∧ sz x.2 ≤ l := fun x hx => ⟨hr _ (List.of_mem_zip hx).1, hp _ (List.of_mem_zip hx).2⟩
theorem ssz_zero : ssz (0, 0) ≤ 1 := by unfold ssz; simp only [sz_zero]; omega
theorem ssz_reachS {row : List Span} {p : List Rat} {k l : Nat} (hr : ∀ s ∈ row, ssz s ≤ k) (hp : ∀ q ∈ p, sz q ≤ l) : ssz (reachS row p) ≤ 1 + p.length * (k + l + 1) := by
  have := ssz_reach k l (row.zip p) (0, 0) 1 (zip_sizes hr hp) ssz_zero
  have h2 : (row.zip p).length * (k + l + 1) ≤ p.length * (k + l + 1) := Nat.mul_le_mul_right _ (by simp; omega)
  unfold reachS
  omega
theorem itList_zipE {α β : Type} {e1 : α → D} {e2 : β → D} {a b : D} {x : List α} {y : List β} (h : items? st a = some (x.map e1)) (k : items? st b = some (y.map e2)) : itList st .zip [a, b] = some ((x.zip y).map fun p => .tup [e1 p.1, e2 p.2]) := by
  rw [itList_zip h k]
  congr 1
  rw [List.zip_map, List.map_map]
  rfl
theorem ev_reach_by (h : H_reach_by T) (hm : 4 ≤ m) {r : Rule} {p : List Rat} {k l : Nat} (hr : ∀ s ∈ r.row, ssz s ≤ k) (hp : ∀ q ∈ p, sz q ≤ l) (hk : k ≤ 500) (hl : l ≤ 500) (hb : p.length * (k + l + 1) ≤ 1800) : callN T 1000 m i_reach_by [ruleD r, pt p] st = .ok (sp (reachS r.row p)) st := by
  refine R.eq_of_sat (callN_sat hm h.look rfl fun n hn => ?_)
  simp [d_reach_by, c_reach_by]
  refine for_sat (ds := [rowD r.row, pt p]) (l := (r.row.zip p).map fun x => .tup [sp x.1, rt x.2]) (fun j ρ st' => st' = st ∧ ∃ u v, ρ = [some (ruleD r), some (pt p), some (sp (((r.row.zip p).take j).foldl (fun s x => (s.1 + (smul x.1 (x.2, x.2)).1, s.2 + (smul x.1 (x.2, x.2)).2)) (0, 0))), u, v]) (by simp) (fun j ρ st' _ => itList_zipE (by simp) (by simp)) ⟨rfl, none, none, by simp [rt01, sp_mk]⟩ ?_ ?_
  · rintro j ρ st' hj ⟨rfl, u, v, rfl⟩
    have hj' : j < (r.row.zip p).length := by simpa using hj
    have z := zip_sizes hr hp
    obtain ⟨z1, z2⟩ := z _ (List.getElem_mem hj')
    have z3 := ssz_reach k l ((r.row.zip p).take j) (0, 0) 1 (fun x hx => z x (List.mem_of_mem_take hx)) ssz_zero
    have z4 : ((r.row.zip p).take j).length * (k + l + 1) ≤ p.length * (k + l + 1) := Nat.mul_le_mul_right _ (by simp; omega)
    have z5 := ssz_smul (t := ((r.row.zip p)[j].2, (r.row.zip p)[j].2)) z1 (ssz_mk z2 z2)
    rw [List.getElem_map, List.take_succ_eq_append_getElem hj', List.foldl_append]
    generalize hx : (r.row.zip p)[j] = x at *
    generalize hs : ((r.row.zip p).take j).foldl (fun s x => (s.1 + (smul x.1 (x.2, x.2)).1, s.2 + (smul x.1 (x.2, x.2)).2)) (0, 0) = s at *
    simp [sp_mk, ev_product_by h.c_product_by (show 3 ≤ n by omega) (show ssz x.1 ≤ 2000 by omega) (show ssz (x.2, x.2) ≤ 2000 from ssz_mk (by omega) (by omega)), ev_sum_by h.c_sum_by (show 3 ≤ n by omega) (show ssz s ≤ 4000 by omega) (show ssz (smul x.1 (x.2, x.2)) ≤ 4000 by omega)]
  · rintro ρ st' ⟨rfl, u, v, rfl⟩
    simp [reachS]
    rw [List.take_of_length_le (by simp)]
theorem ev_reach (h : H_reach T) (hm : 6 ≤ m) (hM : HC T k_Model kc_Model) {M : Mdl} {i : Nat} (hi : i < M.rules.length) {p : List Rat} {k l : Nat} (hn : M.names.length = p.length) (hr : ∀ s ∈ (M.rules[i]).row, ssz s ≤ k) (hp : ∀ q ∈ p, sz q ≤ l) (hk : k ≤ 500) (hl : l ≤ 500) (hb : p.length * (k + l + 1) ≤ 1800) : callN T 1000 m i_reach [mdlD M, .int i, pt p] st = .ok (sp (reachS (M.rules[i]).row p)) st := by
  refine callN_do hm h.look rfl fun n hn' => ?_
  have hlen : p.length ≤ 1800 := Nat.le_trans (Nat.le_mul_of_pos_right _ (by omega)) hb
  simp [d_reach, c_reach, ev_need_model h.c_need_model (show 1 ≤ n by omega) hM, attr_rules hM, ev_need_number h.c_need_number (show 2 ≤ n by omega) (l := M.rules.map ruleD) (i := i) (by omega) (by simpa using hi), ixD_tup, atI_nat (l := M.rules.map ruleD) (n := i) (by simpa using hi),
    ev_point_from h.c_point_from (show 5 ≤ n by omega) hM hn (fun q hq => Nat.le_trans (hp q hq) (by omega)) (Nat.le_trans hlen (by decide)), ev_reach_by h.c_reach_by (show 4 ≤ n by omega) hr hp hk hl hb]
/-- sizes of a rule -/
def RuleSz (r : Rule) (k : Nat) : Prop := (∀ s ∈ r.row, ssz s ≤ k) ∧ ssz r.right ≤ k
def mid (s : Span) : Rat := (s.1 + s.2) * (1 / 2)
def wid (s : Span) : Rat := (s.2 - s.1) * (1 / 2)
theorem sz_mid {s : Span} {k : Nat} (h : ssz s ≤ k) : sz (mid s) ≤ 2 * k + 3 := by
  have h1 := ssz_1 h
  have h2 := ssz_2 h
  have h3 := sz_add s.1 s.2
  have h4 := sz_mul (s.1 + s.2) (1 / 2)
  have h5 := sz_half
  unfold mid
  omega
theorem sz_wid {s : Span} {k : Nat} (h : ssz s ≤ k) : sz (wid s) ≤ 2 * k + 3 := by
  have h1 := ssz_1 h
  have h2 := ssz_2 h
  have h3 := sz_sub s.2 s.1
  have h4 := sz_mul (s.2 - s.1) (1 / 2)
  have h5 := sz_half
  unfold wid
  omega
theorem sz_byC (w : Wd) : sz (w.byC : Rat) ≤ 1 := by cases w <;> decide +kernel
theorem sz_byR (w : Wd) : sz (w.byR : Rat) ≤ 1 := by cases w <;> decide +kernel
def roomQ (w : Wd) (r : Rule) (p : List Rat) : Rat :=
  (if r.eq then -(mid r.right - mid (reachS r.row p)).abs else mid r.right - mid (reachS r.row p)) + ((w.byC : Rat) * wid (reachS r.row p) + (w.byR : Rat) * wid r.right)
theorem ev_room_by (h : H_room_by T) (hm : 5 ≤ m) (w : Wd) {r : Rule} {p : List Rat} {k l : Nat} (hr : RuleSz r k) (hp : ∀ q ∈ p, sz q ≤ l) (hk : k ≤ 100) (hl : l ≤ 500) (hb : p.length * (k + l + 1) ≤ 400) : callN T 1000 m i_room_by [.str w.str, ruleD r, pt p] st = .ok (rt (roomQ w r p)) st := by
  refine callN_do hm h.look rfl fun n hn => ?_
  have z0 := ssz_reachS hr.1 hp
  have z1 := hr.2
  have y1 := sz_mid (k := 401) (s := reachS r.row p) (by omega)
  have y2 := sz_wid (k := 401) (s := reachS r.row p) (by omega)
  have y3 := sz_mid (k := 100) (s := r.right) (by omega)
  have y4 := sz_wid (k := 100) (s := r.right) (by omega)
  have y5 := sz_sub (mid r.right) (mid (reachS r.row p))
  have y6 := sz_mul (w.byC : Rat) (wid (reachS r.row p))
  have y7 := sz_mul (w.byR : Rat) (wid r.right)
  have y8 := sz_byC w
  have y9 := sz_byR w
  have x1 := sz_add ((w.byC : Rat) * wid (reachS r.row p)) ((w.byR : Rat) * wid r.right)
  have e1 : callN T 1000 n i_middle_by [sp r.right] st = .ok (rt (mid r.right)) st := ev_middle_by h.c_middle_by (by omega) (by omega)
  have e2 : callN T 1000 n i_middle_by [sp (reachS r.row p)] st = .ok (rt (mid (reachS r.row p))) st := ev_middle_by h.c_middle_by (by omega) (by omega)
  have e3 : callN T 1000 n i_width_by [sp r.right] st = .ok (rt (wid r.right)) st := ev_width_by h.c_width_by (by omega) (by omega)
  have e4 : callN T 1000 n i_width_by [sp (reachS r.row p)] st = .ok (rt (wid (reachS r.row p))) st := ev_width_by h.c_width_by (by omega) (by omega)
  have s1 := sz_neg (mid r.right - mid (reachS r.row p)).abs
  have s2 := sz_abs (mid r.right - mid (reachS r.row p))
  unfold roomQ
  cases hq : r.eq <;>
  simp [d_room_by, c_room_by, ev_reach_by h.c_reach_by (show 4 ≤ n by omega) hr.1 hp (show k ≤ 500 by omega) hl (show p.length * (k + l + 1) ≤ 1800 by omega), e1, e2, e3, e4, rtInt, ev_scaled h.c_scaled (show 2 ≤ n by omega) (show sz (w.byC : Rat) ≤ 4000 by omega) (show sz (wid (reachS r.row p)) ≤ 4000 by omega), ev_scaled h.c_scaled (show 2 ≤ n by omega) (show sz (w.byR : Rat) ≤ 4000 by omega) (show sz (wid r.right) ≤ 4000 by omega),
    ev_lessened h.c_lessened (show 2 ≤ n by omega) (show sz (mid r.right) ≤ 4000 by omega) (show sz (mid (reachS r.row p)) ≤ 4000 by omega), hq, ev_size_of h.c_size_of (show 1 ≤ n by omega), ev_turned_sign h.c_turned_sign (show 1 ≤ n by omega),
    ev_summed h.c_summed (show 2 ≤ n by omega) (show sz ((w.byC : Rat) * wid (reachS r.row p)) ≤ 4000 by omega) (show sz ((w.byR : Rat) * wid r.right) ≤ 4000 by omega), ev_summed h.c_summed (show 2 ≤ n by omega) (show sz (-(mid r.right - mid (reachS r.row p)).abs) ≤ 4000 by omega) (show sz ((w.byC : Rat) * wid (reachS r.row p) + (w.byR : Rat) * wid r.right) ≤ 4000 by omega), ev_summed h.c_summed (show 2 ≤ n by omega) (show sz (mid r.right - mid (reachS r.row p)) ≤ 4000 by omega) (show sz ((w.byC : Rat) * wid (reachS r.row p) + (w.byR : Rat) * wid r.right) ≤ 4000 by omega)]
def isOf (w : Wd) (M : Mdl) (p : List Rat) : Bool := M.rules.all fun r => decide (0 ≤ roomQ w r p)
theorem ev_is_of (h : H_is_of T) (hm : 6 ≤ m) (hM : HC T k_Model kc_Model) (w : Wd) {M : Mdl} {p : List Rat} {k l : Nat} (hr : ∀ r ∈ M.rules, RuleSz r k) (hp : ∀ q ∈ p, sz q ≤ l) (hk : k ≤ 100) (hl : l ≤ 500) (hb : p.length * (k + l + 1) ≤ 400) (hn : M.rules.length ≤ LIM) : callN T 1000 m i_is_of [mdlD M, .str w.str, pt p] st = .ok (.bl (isOf w M p)) st := by
  refine callN_do hm h.look rfl fun n hn' => ?_
  simp [d_is_of, c_is_of]
  rw [lc_pure (xs := M.rules) (enc := ruleD) (fun r => D.bl (decide (0 ≤ roomQ w r p))) (ds := [.tup (M.rules.map ruleD)]) (by simp [attr_rules hM]) (by simp) hn (fun r hr' => by simp [turnR, wipeD, ev_room_by h.c_room_by hn' w (hr r hr') hp hk hl hb])]
  simp [isOf]
theorem ev_is_row_told (h : H_is_row_told T) (hm : 4 ≤ m) {p : List Rat} {n : Nat} (hl : p.length ≤ LIM) (hn : p.length = n) : callN T 1000 m i_is_row_told [pt p, .int n] st = .ok (.bl true) st := by
  refine callN_do hm h.look rfl fun k hk => ?_
  unfold pt
  have l1 : ∀ u v, ev T (callN T 1000 k) (.lc false [2] (.call i_is_told [.var 2]) (.nm 2) .one [.var 0] []) [some (.tup (p.map rt)), u, v] st = .ok (.lst (p.map fun _ => .bl true)) st := fun u v =>
    lc_pure (xs := p) (enc := rt) _ (ds := [.tup (p.map rt)]) (by simp) (by simp) hl (fun q hq => by simp [turnR, wipeD, ev_is_told_rt h.c_is_told (show 3 ≤ k by omega)])
  simp [d_is_row_told, c_is_row_told, ev_is_tuple_of h.c_is_tuple_of (show 1 ≤ k by omega), hn, l1]
theorem ev_is_point_of (h : H_is_point_of T) (hm : 7 ≤ m) (hM : HC T k_Model kc_Model) (w : Wd) {M : Mdl} {p : List Rat} {k l : Nat} (hnn : M.names.length = p.length) (hr : ∀ r ∈ M.rules, RuleSz r k) (hp : ∀ q ∈ p, sz q ≤ l) (hk : k ≤ 100) (hl : l ≤ 500) (hb : p.length * (k + l + 1) ≤ 400) (hn : M.rules.length ≤ LIM) : callN T 1000 m i_is_point_of [mdlD M, .str w.str, pt p] st = .ok (.bl (isOf w M p)) st := by
  refine callN_do hm h.look rfl fun n hn' => ?_
  have hlen : p.length ≤ 400 := Nat.le_trans (Nat.le_mul_of_pos_right _ (by omega)) hb
  simp [d_is_point_of, c_is_point_of, ev_need_model h.c_need_model (show 1 ≤ n by omega) hM, ev_need_word h.c_need_word (show 1 ≤ n by omega), attr_unknowns hM, hnn, ev_is_row_told h.c_is_row_told (show 4 ≤ n by omega) (p := p) (Nat.le_trans hlen (by decide)) rfl, ev_is_of h.c_is_of hn' hM w hr hp hk hl hb hn]
end
end G

set_option linter.all false
set_option maxRecDepth 100000
set_option maxHeartbeats 1000000
/-! L2: the pen. -/
namespace G
open PySem L2
abbrev pkeys : List Key := [.inr "cells", .inr "at", .inr "digits", .inr "count", .inr "fold"]
/-- a pen as it stands -/
def penO (cells : List Int) (a d c f : Int) : O := .dct pkeys [.lst (cells.map .int), .int a, .int d, .int c, .int f]
def Pn (k : Nat) (o : O) : Prop := ∃ cells a d c f, o = penO cells a d c f ∧ cells.length ≤ 63 ∧ 0 ≤ a ∧ 0 ≤ d ∧ 0 ≤ c ∧ c + k ≤ 1000000000 ∧ 0 ≤ f ∧ f < 2147482909
theorem Pn.mono {k l : Nat} {o : O} (h : Pn k o) (hl : l ≤ k) : Pn l o := by
  obtain ⟨cells, a, d, c, f, e, h1, h2, h3, h4, h5, h6⟩ := h
  exact ⟨cells, a, d, c, f, e, h1, h2, h3, h4, by omega, h6⟩
section
variable {Z : Store} {T : Tab} {m : Nat} {cells : List Int} {a d c f : Int}
@[simp] theorem pen_cells : ixD (penO cells a d c f :: Z) (.loc 0) (.str "cells") = some (.lst (cells.map .int)) := (rfl)
@[simp] theorem pen_at : ixD (penO cells a d c f :: Z) (.loc 0) (.str "at") = some (.int a) := (rfl)
@[simp] theorem pen_digits : ixD (penO cells a d c f :: Z) (.loc 0) (.str "digits") = some (.int d) := (rfl)
@[simp] theorem pen_count : ixD (penO cells a d c f :: Z) (.loc 0) (.str "count") = some (.int c) := (rfl)
@[simp] theorem pen_fold : ixD (penO cells a d c f :: Z) (.loc 0) (.str "fold") = some (.int f) := (rfl)
@[simp] theorem put_at (v : Int) (ρ : Env') : subPut (.int v) ρ (.loc 0) (.str "at") (penO cells a d c f :: Z) = .ok ρ (penO cells v d c f :: Z) := (rfl)
@[simp] theorem put_digits (v : Int) (ρ : Env') : subPut (.int v) ρ (.loc 0) (.str "digits") (penO cells a d c f :: Z) = .ok ρ (penO cells a v c f :: Z) := (rfl)
@[simp] theorem put_count (v : Int) (ρ : Env') : subPut (.int v) ρ (.loc 0) (.str "count") (penO cells a d c f :: Z) = .ok ρ (penO cells a d v f :: Z) := (rfl)
@[simp] theorem put_fold (v : Int) (ρ : Env') : subPut (.int v) ρ (.loc 0) (.str "fold") (penO cells a d c f :: Z) = .ok ρ (penO cells a d c v :: Z) := (rfl)
end
section
variable {Z : Store} {T : Tab} {m : Nat}
theorem leave_pen {o' : O} {d : D} {frz : Bool} : leave frz (Z.length + 1) d (o' :: Z) = .ok d (o' :: Z) := leave_same (st := o' :: Z)
theorem pow18 {st : Store} : binD st .Pow (.int 10) (.int 18) = some (.int 1000000000000000000) := by
  rw [binD_pow (by decide) (by decide) (by decide +kernel)]; rfl
theorem draw_sat (h : H__law_draw T) (hm : 1 ≤ m) {o : O} {k : Nat} (ho : Pn (k + 1) o) {many : Int} (h0 : 0 < many) (hs : many < 1000000000) {Q : D → Store → Prop} (q : ∀ d o', 0 ≤ d → d < many → Pn k o' → Q (.int d) (o' :: Z)) : (callN T 1000 m i__law_draw [.loc 0, .int many] (o :: Z)).sat Q := by
  obtain ⟨cells, a, d, c, f, rfl, h1, h2, h3, h4, h5, h6, h7⟩ := ho
  have bm : bl many.natAbs ≤ 9000 := by
    have : bl many.natAbs ≤ 30 := bl_le.mpr (by omega)
    omega
  refine callN_sat hm h.look rfl fun n hn => ?_
  have last : ∀ (f a d : Int) (x : Option D), 0 ≤ a → 0 ≤ d → 0 ≤ f → f < 2147482909 → (exs T (callN T 1000 n) 1000 [.ite (.cmp .Gt (.ix (.var 0) (.lit (.str "digits"))) (.lit (.int 0))) [.asg (.nm 3) (.bin .Mod (.bi .int [.ix (.var 0) (.lit (.str "digits"))]) (.var 1)), .asg (.sub (.var 0) (.lit (.str "digits"))) (.bin .FloorDiv (.ix (.var 0) (.lit (.str "digits"))) (.var 1)), .ret (.var 3)] [], .asg (.nm 4) (.bin .Add (.bin .Add (.ix (.var 0) (.lit (.str "fold"))) (.bin .Mult (.ix (.var 0) (.lit (.str "count"))) (.lit (.int 6317)))) (.lit (.int 191))), .ret (.bin .Mod (.bin .FloorDiv (.bi .int [.bin .Mod (.bin .Pow (.var 4) (.lit (.int 53))) (.lit (.int 2305843009213693951))]) (.lit (.int 2048))) (.var 1))] [some (.loc 0), some (.int many), x, none, none] (penO cells a d (c + 1) f :: Z)).sat fun f st' => (endR true (Z.length + 1) f st').sat Q := by
    intro f a d x ha hd hf hf'
    have em := fun st i => @binD_mod st i many h0
    have ed := fun st i => @binD_fdiv st i many h0 bm
    by_cases hd0 : 0 < d
    · simp [hd0, em, ed, leave_pen]
      exact q _ _ (Int.emod_nonneg _ (by omega)) (Int.emod_lt_of_pos _ h0) ⟨cells, a, d / many, c + 1, f, rfl, h1, ha, Int.ediv_nonneg hd (by omega), by omega, by omega, hf, hf'⟩
    · have e1 := fun st i => @binD_muls st i 6317 (by decide +kernel)
      have e2 := fun st (i : Int) (hi : i.natAbs < 2 ^ 64) => @binD_pow st i 53 (by decide) (by decide) hi
      have e3 := fun st i => @binD_mod st i 2305843009213693951 (by decide)
      have e4 := fun st i => @binD_fdiv st i 2048 (by decide) (by decide +kernel)
      simp [hd0, e1, e3, e4, em, e2 _ (f + (c + 1) * 6317 + 191) (by omega), leave_pen]
      exact q _ _ (Int.emod_nonneg _ (by omega)) (Int.emod_lt_of_pos _ h0) ⟨cells, a, d, c + 1, f, rfl, h1, ha, hd, by omega, by omega, hf, hf'⟩
  have e1 := fun st i => @binD_muls st i 31013 (by decide +kernel)
  have e2 := fun st i => @binD_mod st i 2147482909 (by decide)
  by_cases hd0 : d = 0
  · by_cases ha : a < cells.length
    · have hix : ixD (penO cells a d (c + 1) f :: Z) (.lst (cells.map .int)) (.int a) = some (.int (cells[a.toNat]'(by omega))) := by
        rw [ixD_lst, atI_int h2 (by simp; omega), List.getElem_map]
      generalize hcell : cells[a.toNat]'(by omega) = cell at hix
      by_cases hc : 1000000000000000000 ≤ cell
      · have := last f (a + 1) (cell - 1000000000000000000) (some (.int cell)) (by omega) (by omega) h6 h7
        subst hd0
        simpa [d__law_draw, c__law_draw, ha, hix, pow18, hc] using this
      · have := last ((f * 31013 + cell) % 2147482909) (a + 1) d (some (.int cell)) (by omega) h3 (Int.emod_nonneg _ (by omega)) (Int.emod_lt_of_pos _ (by omega))
        subst hd0
        simpa [d__law_draw, c__law_draw, ha, hix, pow18, hc, e1, e2] using this
    · have := last f a d none h2 h3 h6 h7
      subst hd0
      simpa [d__law_draw, c__law_draw, ha] using this
  · have := last f a d none h2 h3 h6 h7
    simpa [d__law_draw, c__law_draw, hd0] using this
theorem pick_sat {α : Type} (h : H__law_pick T) (hm : 2 ≤ m) {o : O} {k : Nat} (ho : Pn (k + 1) o) {xs : List α} {enc : α → D} (h0 : xs ≠ []) (hl : xs.length ≤ 1000) {Q : D → Store → Prop} (q : ∀ x ∈ xs, ∀ o', Pn k o' → Q (enc x) (o' :: Z)) : (callN T 1000 m i__law_pick [.loc 0, .lst (xs.map enc)] (o :: Z)).sat Q := by
  refine callN_sat hm h.look rfl fun n hn => ?_
  simp [d__law_pick, c__law_pick]
  have : 0 < xs.length := List.length_pos_iff.mpr h0
  refine draw_sat h.c__law_draw hn ho (by omega) (by omega) fun d o' h1 h2 h3 => ?_
  have hd : d.toNat < xs.length := by omega
  have e : ixD (o' :: Z) (.lst (xs.map enc)) (.int d) = some (enc xs[d.toNat]) := by
    rw [ixD_lst, atI_int h1 (by simpa using hd), List.getElem_map]
  simp [e, leave_pen]
  exact q _ (List.getElem_mem hd) _ h3
/-- a pen is made -/
theorem pen_sat (h : H__law_pen T) (hm : 1 ≤ m) {ns : List Int} (hl : ns.length ≤ 63) {Q : D → Store → Prop} (q : ∀ o, Pn 1000000000 o → Q (.loc 0) [o]) : (callN T 1000 m i__law_pen [.ro (ns.map D.int)] []).sat Q := by
  refine callN_sat hm h.look rfl fun n hn => ?_
  simp [d__law_pen, c__law_pen]
  have e1 := fun st i => @binD_muls st i 193 (by decide +kernel)
  have e2 := fun st i => @binD_mod st i 999999131 (by decide)
  refine for_sat (ds := [.ro (ns.map D.int)]) (l := ns.map .int) (fun j ρ st' => st' = [] ∧ ∃ f u, ρ = [some (.ro (ns.map D.int)), some (.int f), u] ∧ 0 ≤ f ∧ f < 999999131) (by simp) (by simp) ⟨rfl, 0, none, rfl, by omega, by omega⟩ ?_ ?_
  · rintro j ρ st' hj ⟨rfl, f, u, rfl, h0, h1⟩
    simp [e1, e2]
    exact ⟨Int.emod_nonneg _ (by omega), Int.emod_lt_of_pos _ (by omega)⟩
  · rintro ρ st' ⟨rfl, f, u, rfl, h0, h1⟩
    have hn : pkeys.Nodup := by decide +kernel
    simp [hn]
    rw [show leave false 0 (.loc 0) [O.dct pkeys [D.lst (List.map D.int ns), D.int 0, D.int 0, D.int 0, D.int f]] = .ok (.loc 0) [O.dct pkeys [D.lst (List.map D.int ns), D.int 0, D.int 0, D.int 0, D.int f]] from rfl, R.sat_ok]
    exact q _ ⟨ns, 0, 0, 0, f, rfl, hl, by omega, by omega, by omega, by omega, h0, by omega⟩
end
/-! ### closed trees -/
def Cl (d : D) : Prop := ∀ n, below n d = true
def Cls (l : List D) : Prop := ∀ d ∈ l, Cl d
theorem belows_of {n : Nat} : ∀ {l : List D}, (∀ d ∈ l, below n d = true) → belows n l = true
  | [], _ => rfl
  | d :: l, h => by simp only [belows, Bool.and_eq_true]; exact ⟨h d List.mem_cons_self, belows_of fun e he => h e (List.mem_cons_of_mem _ he)⟩
theorem Cl.int (i : Int) : Cl (.int i) := fun _ => rfl
theorem Cl.str (s : Str) : Cl (.str s) := fun _ => rfl
theorem Cl.non : Cl .non := fun _ => rfl
theorem Cl.bl (b : Bool) : Cl (.bl b) := fun _ => rfl
theorem Cl.tup {l : List D} (h : Cls l) : Cl (.tup l) := fun n => by simp only [below]; exact belows_of fun d hd => h d hd n
theorem Cl.lst {l : List D} (h : Cls l) : Cl (.lst l) := fun n => by simp only [below]; exact belows_of fun d hd => h d hd n
theorem Cl.dct {ks : List Key} {l : List D} (h : Cls l) : Cl (.dct ks l) := fun n => by simp only [below]; exact belows_of fun d hd => h d hd n
theorem Cl.obj {c : Nat} {ns : List Nat} {l : List D} (h : Cls l) : Cl (.obj c ns l) := fun n => by simp only [below]; exact belows_of fun d hd => h d hd n
theorem Cls.nil : Cls [] := fun _ h => nomatch h
theorem Cls.cons {d : D} {l : List D} (h : Cl d) (k : Cls l) : Cls (d :: l) := fun e he => by
  rcases List.mem_cons.mp he with rfl | he
  · exact h
  · exact k e he
theorem Cls.map {α : Type} {l : List α} {f : α → D} (h : ∀ x ∈ l, Cl (f x)) : Cls (l.map f) := fun d hd => by
  obtain ⟨x, hx, rfl⟩ := List.mem_map.mp hd
  exact h x hx
theorem Cls.append {l k : List D} (h : Cls l) (h' : Cls k) : Cls (l ++ k) := fun d hd => (List.mem_append.mp hd).elim (h d) (h' d)
theorem Cl.rt (q : Rat) : Cl (rt q) := .tup (.cons (.int _) (.cons (.int _) .nil))
theorem mapM_id {f : D → Option D} : ∀ {l : List D}, (∀ d ∈ l, f d = some d) → l.mapM f = some l
  | [], _ => rfl
  | d :: l, h => by rw [List.mapM_cons, h d List.mem_cons_self, mapM_id fun e he => h e (List.mem_cons_of_mem _ he)]; rfl
theorem belows_mem {n : Nat} : ∀ {l : List D}, belows n l = true → ∀ d ∈ l, below n d = true
  | [], _, d, h => nomatch h
  | e :: l, h, d, hd => by
    simp only [belows, Bool.and_eq_true] at h
    rcases List.mem_cons.mp hd with rfl | hd
    · exact h.1
    · exact belows_mem h.2 d hd
theorem freeze_below {st : Store} {n : Nat} : ∀ (f : Nat) (d : D), below n d = true → freeze st n f d = some d
  | 0, d, h => by cases d <;> simp [freeze, h]
  | f + 1, d, h => by
    cases d with
    | tup l => simp only [freeze]; rw [mapM_id fun e he => freeze_below f e (belows_mem h e he)]; rfl
    | lst l => simp only [freeze]; rw [mapM_id fun e he => freeze_below f e (belows_mem h e he)]; rfl
    | obj c ns l => simp only [freeze]; rw [mapM_id fun e he => freeze_below f e (belows_mem h e he)]; rfl
    | dct ks l => simp only [freeze]; rw [mapM_id fun e he => freeze_below f e (belows_mem h e he)]; rfl
    | loc k => simp only [freeze]; rw [if_pos (by simpa [below] using h)]
    | _ => simp [freeze, h]
/-- a store that names nothing behind it -/
def StOk (st : Store) : Prop := st.all (belowO st.length) = true
theorem StOk.nil : StOk [] := rfl
theorem pn_ok {k : Nat} {o : O} (h : Pn k o) : StOk [o] := by
  obtain ⟨cells, a, d, c, f, rfl, _⟩ := h
  have : Cls (cells.map D.int) := Cls.map fun x _ => .int x
  have h2 : Cls [D.lst (cells.map D.int), .int a, .int d, .int c, .int f] := .cons (.lst this) (.cons (.int _) (.cons (.int _) (.cons (.int _) (.cons (.int _) .nil))))
  simp only [StOk, penO, List.all_cons, List.all_nil, Bool.and_true, belowO]
  exact belows_of fun d hd => h2 d hd _
theorem leave_lst {st : Store} (h : StOk st) {l : List D} {more : Store} (hl : Cls l) : leave true st.length (.loc st.length) (st ++ .lst l :: more) = .ok (.lst l) st := by
  unfold leave
  rw [if_neg (by simp), if_pos rfl]
  have e : freeze (st ++ .lst l :: more) st.length 12 (.loc st.length) = some (.lst l) := by
    simp only [freeze]
    rw [if_neg (Nat.lt_irrefl _)]
    simp only [List.getElem?_append_right (Nat.le_refl _), Nat.sub_self, List.getElem?_cons_zero]
    rw [mapM_id fun d hd => freeze_below 11 d (hl d hd _)]
    rfl
  rw [e]
  simp only [List.take_left]
  rw [if_pos (show st.all (belowO st.length) = true from h)]
theorem leave_dct {st : Store} (h : StOk st) {ks : List Key} {l : List D} {more : Store} (hl : Cls l) : leave true st.length (.loc st.length) (st ++ .dct ks l :: more) = .ok (.dct ks l) st := by
  unfold leave
  rw [if_neg (by simp), if_pos rfl]
  have e : freeze (st ++ .dct ks l :: more) st.length 12 (.loc st.length) = some (.dct ks l) := by
    simp only [freeze]
    rw [if_neg (Nat.lt_irrefl _)]
    simp only [List.getElem?_append_right (Nat.le_refl _), Nat.sub_self, List.getElem?_cons_zero]
    rw [mapM_id fun d hd => freeze_below 11 d (hl d hd _)]
    rfl
  rw [e]
  simp only [List.take_left]
  rw [if_pos (show st.all (belowO st.length) = true from h)]
theorem leave_cl {st : Store} (h : StOk st) {d : D} {more : Store} (hd : Cl d) : leave true st.length d (st ++ more) = .ok d st := by
  by_cases hm : more = []
  · subst hm; simp [leave]
  · unfold leave
    rw [if_neg (by simp; exact hm), if_pos rfl, freeze_below 12 d (hd _)]
    simp only [List.take_left]
    rw [if_pos (show st.all (belowO st.length) = true from h)]
end G

set_option linter.all false
set_option maxRecDepth 100000
set_option maxHeartbeats 1000000
/-! L3: drawn ratios, spans, rules, books. -/
namespace G
open PySem L2
section
variable {Z : Store} {T : Tab} {m : Nat}
theorem sz_divInt_le {a b : Int} {k : Nat} (ha : bl a.natAbs ≤ k) (hb : bl b.natAbs ≤ k) (h1 : 1 ≤ k) : sz (Rat.divInt a b) ≤ k := by
  have := sz_divInt a b
  omega
theorem ratio_sat (h : H__law_ratio T) (hm : 3 ≤ m) {o : O} {k : Nat} (ho : Pn (k + 2) o) {most : Nat} (h1 : most ≤ 7) {Q : D → Store → Prop} (q : ∀ r o', sz r ≤ 3 → Pn k o' → Q (rt r) (o' :: Z)) : (callN T 1000 m i__law_ratio [.loc 0, .int most] (o :: Z)).sat Q := by
  refine callN_sat hm h.look rfl fun n hn => ?_
  simp [d__law_ratio, c__law_ratio, binD_muls' (i := 2) (j := (most : Int)) (by decide +kernel)]
  refine draw_sat h.c__law_draw (by omega) ho (by omega) (by omega) fun d o1 d0 d1 ho1 => ?_
  simp
  refine pick_sat h.c__law_pick hn ho1 (xs := [(1 : Int), 1, 1, 2, 3]) (enc := D.int) (by simp) (by simp) fun c hc o2 ho2 => ?_
  have hc' : 1 ≤ c ∧ c ≤ 3 := by simp at hc; omega
  have b1 : bl (d - most).natAbs ≤ 3 := bl_le.mpr (by omega)
  have b2 : bl c.natAbs ≤ 3 := bl_le.mpr (by omega)
  simp [ev_law_q h.c__law_q hn (a := d - most) (b := c) (by omega) (by omega), leave_pen]
  exact q _ _ (sz_divInt_le b1 b2 (by omega)) ho2
def Sk (k : Nat) (s : Span) : Prop := Sok s ∧ ssz s ≤ k
theorem span_sat (h : H__law_span T) (hm : 4 ≤ m) {o : O} {k : Nat} (ho : Pn (k + 3) o) {Q : D → Store → Prop} (q : ∀ s o', Sk 6 s → Pn k o' → Q (sp s) (o' :: Z)) : (callN T 1000 m i__law_span [.loc 0, .bl true] (o :: Z)).sat Q := by
  refine callN_sat hm h.look rfl fun n hn => ?_
  simp [d__law_span, c__law_span]
  refine draw_sat h.c__law_draw (by omega) ho (by omega) (by omega) fun d o1 d0 d1 ho1 => ?_
  simp
  refine pick_sat h.c__law_pick (by omega) ho1 (xs := [(1 : Int), 1, 2]) (enc := D.int) (by simp) (by simp) fun c hc o2 ho2 => ?_
  have hc' : 1 ≤ c ∧ c ≤ 2 := by simp at hc; omega
  have b1 : bl (d - 3).natAbs ≤ 2 := bl_le.mpr (by omega)
  have b2 : bl c.natAbs ≤ 2 := bl_le.mpr (by omega)
  simp [ev_law_q h.c__law_q (show 2 ≤ n by omega) (a := d - 3) (b := c) (by omega) (by omega)]
  have b3 := sz_divInt_le b1 b2 (by omega)
  generalize Rat.divInt (d - 3) c = lo at *
  simp only [rt01, rt12, rt11, rtInt]
  refine pick_sat h.c__law_pick (by omega) ho2 (xs := [(0 : Rat), 0, 1 / 2, 1, ((2 : Int) : Rat)]) (enc := rt) (by simp) (by simp) fun w hw o3 ho3 => ?_
  have hw' : 0 ≤ w ∧ sz w ≤ 2 := by
    simp at hw
    rcases hw with rfl | rfl | rfl | rfl <;> constructor <;> decide +kernel
  simp [ev_law_plus h.c__law_plus hn (a := lo) (b := w) (by omega) (by omega), leave_pen]
  have := sz_add lo w
  refine q (lo, lo + w) _ ⟨?_, ssz_mk (by omega) (by omega)⟩ ho3
  show lo ≤ lo + w
  grind
/-- a comprehension that draws: what it holds of each turn -/
theorem lc_draw {α : Type} {call : Call} {ρ : Env'} {own : List Nat} {elt : C} {tg : Tg} {k : IK} {es : List C} {ds : List D} {o : O} {xs : List α} {enc : α → D} {Q : D → Store → Prop} {K c : Nat} {P : Nat → D → Prop} {st : Store}
    (h1 : evs T call es ρ st = .ok ds (o :: Z)) (hl : ∀ st', itList st' k ds = some (xs.map enc)) (h5 : xs.length ≤ LIM) (ho : Pn (K + xs.length * c) o)
    (hs : ∀ j (h : j < xs.length) o' K', Pn (K' + c) o' → (turnR T call own elt tg ρ (enc xs[j]) (o' :: Z)).sat fun y st' => ∃ o'', st' = (o'' :: Z) ∧ Pn K' o'' ∧ P j y)
    (q : ∀ (ys : List D) o', ys.length = xs.length → (∀ j (h : j < ys.length), P j ys[j]) → Pn K o' → Q (.lst ys) (o' :: Z)) : (ev T call (.lc false own elt tg k es []) ρ st).sat Q := by
  refine lc_sat (l := xs.map enc) (fun j acc st' => ∃ o', st' = (o' :: Z) ∧ Pn (K + (xs.length - j) * c) o' ∧ acc.length = j ∧ ∀ i (h : i < acc.length), P i acc[i]) h1 (fun j acc st' _ => hl st') (by simpa using h5) ⟨o, rfl, ho, rfl, fun i h => nomatch h⟩ ?_ ?_
  · rintro j acc st' hj ⟨o', rfl, ho', hacc, hP⟩
    have hj' : j < xs.length := by simpa using hj
    rw [List.getElem_map]
    refine (hs j hj' o' (K + (xs.length - (j + 1)) * c) ?_).imp ?_
    · have : (xs.length - j) * c = (xs.length - (j + 1)) * c + c := by
        rw [show xs.length - j = xs.length - (j + 1) + 1 by omega, Nat.add_mul, Nat.one_mul]
      exact ho'.mono (by omega)
    · rintro y st' ⟨o'', rfl, ho'', hy⟩
      refine ⟨o'', rfl, ho'', by simp [hacc], fun i hi => ?_⟩
      by_cases c : i < acc.length
      · rw [List.getElem_append_left c]; exact hP i c
      · have : i = acc.length := by simp at hi; omega
        subst this
        rw [List.getElem_append_right (Nat.le_refl _)]
        simp only [Nat.sub_self, List.getElem_cons_zero, hacc]
        exact hy
  · rintro acc st' ⟨o', rfl, ho', hacc, hP⟩
    simp only [List.length_map] at ho' hacc
    exact q acc o' hacc hP (ho'.mono (by omega))
theorem lc_evs {call : Call} {ρ : Env'} {st : Store} {b : Bool} {own : List Nat} {elt : C} {tg : Tg} {k : IK} {es ifs : List C} {Q : D → Store → Prop} (P : List D → Store → Prop) (h : (evs T call es ρ st).sat P)
    (q : ∀ ds st1, evs T call es ρ st = .ok ds st1 → P ds st1 → (ev T call (.lc b own elt tg k es ifs) ρ st).sat Q) : (ev T call (.lc b own elt tg k es ifs) ρ st).sat Q := by
  obtain ⟨⟨ds, st1, e, p⟩⟩ := h
  exact q ds st1 e p
theorem itList_rangeN {st : Store} {n : Nat} (h : n < 2 ^ 62) : itList st .range [.int n] = some ((List.range n).map fun i : Nat => D.int (i : Int)) := by
  rw [itList_range (by omega) (by omega)]
  simp [rangeL]
/-- all of a list's items are of a kind, so it is a map -/
theorem all_map {α : Type} {enc : α → D} {P : α → Prop} : ∀ {ys : List D}, (∀ j (h : j < ys.length), ∃ x, ys[j] = enc x ∧ P x) → ∃ xs : List α, ys = xs.map enc ∧ ∀ x ∈ xs, P x
  | [], _ => ⟨[], rfl, fun _ h => nomatch h⟩
  | y :: ys, h => by
    obtain ⟨x, e, p⟩ := h 0 (by simp)
    obtain ⟨xs, e', p'⟩ := all_map (ys := ys) fun j hj => by
      have := h (j + 1) (by simpa using hj)
      simpa using this
    simp at e
    refine ⟨x :: xs, by rw [e, e']; rfl, fun z hz => ?_⟩
    rcases List.mem_cons.mp hz with rfl | hz
    · exact p
    · exact p' z hz
structure RuleOk (n : Nat) (r : Rule) : Prop where
  len : r.row.length = n
  row : ∀ s ∈ r.row, Sk 6 s
  right : Sk 6 r.right
theorem rangeL_len (a : Int) (n : Nat) : (rangeL a n).length = n := by simp [rangeL]
def eqA : Option Bool → D
  | none => .non
  | some b => kindD b
theorem rule_sat (h : H__law_rule T) (hm : 5 ≤ m) {o : O} {k n : Nat} {name : Str} {kd : Option Bool} (hn : n ≤ 10) (ho : Pn (k + 40) o) {Q : D → Store → Prop} (q : ∀ r o', RuleOk n r → r.name = name → (∀ b, kd = some b → r.eq = b) → Pn k o' → Q (ruleD r) (o' :: Z)) : (callN T 1000 m i__law_rule [.loc 0, .str name, .int n, eqA kd] (o :: Z)).sat Q := by
  refine callN_sat hm h.look rfl fun u hu => ?_
  have part2 : ∀ (b : Bool) o1, (∀ c, kd = some c → b = c) → Pn (k + 39) o1 → (exs T (callN T 1000 u) 1000 [.ret (.tup [.var 1, .bi .tuple [.lc false [5] (.call i__law_span [.var 0, .lit (.bl true)]) (.nm 5) .range [.var 2] []], .var 4, .call i__law_span [.var 0, .lit (.bl true)]])] [some (.loc 0), some (.str name), some (.int n), some (eqA kd), some (kindD b), none] (o1 :: Z)).sat fun f st' => (endR true (Z.length + 1) f st').sat Q := by
    intro b o1 hb ho1
    simp
    refine lc_draw (Z := Z) (o := o1) (xs := rangeL 0 n) (enc := D.int) (ds := [.int n]) (K := k + 5) (c := 3) (P := fun _ y => ∃ s, y = sp s ∧ Sk 6 s) (by simp) (fun st' => by rw [itList_range (by omega) (by omega)]; rfl) (by simp [rangeL_len, LIM]; omega) (ho1.mono (by simp [rangeL_len]; omega)) ?_ ?_
    · intro j hj o' K' ho'
      simp [turnR, wipeD, -Prod.exists]
      exact span_sat h.c__law_span hu ho' fun s o2 hs ho2 => ⟨o2, rfl, ho2, s, rfl, hs⟩
    · intro ys o2 hlen hP ho2
      obtain ⟨row, rfl, hrow⟩ := all_map hP
      simp [rangeL_len] at hlen
      simp
      refine span_sat h.c__law_span hu (ho2.mono (show 2 + 3 + k ≤ k + 5 by omega) |>.mono (show k + 2 + 3 ≤ _ by omega)) fun s o3 hs ho3 => ?_
      simp [leave_pen]
      exact q ⟨name, row, b, s⟩ _ ⟨hlen, hrow, hs⟩ rfl (fun c hc => hb c hc) (ho3.mono (by omega))
  cases kd with
  | none =>
    simp only [d__law_rule, c__law_rule, eqA, exs_cons, ex_asg, ev_ite, ev_cmp, ev_var, getVar_zero, getVar_succ, List.map_cons, List.map_nil, List.cons_append, List.nil_append, R.of_some, R.bind_ok, ev_lit, cmpD_is, isB_non, isNon_non, iteR_tt, R.sat_bind]
    simp
    refine pick_sat h.c__law_pick (by omega) (ho.mono (show k + 39 + 1 ≤ _ by omega)) (xs := [true, true, false]) (enc := kindD) (by simp) (by simp) fun b hb o1 ho1 => ?_
    have := part2 b o1 (by simp) ho1
    simpa [eqA] using this
  | some b =>
    have := part2 b o (by simp) (ho.mono (by omega))
    simpa [d__law_rule, c__law_rule, eqA, kindD, isNon] using this
end
end G

set_option linter.all false
set_option maxRecDepth 100000
set_option maxHeartbeats 2000000
/-! L4: drawn books. -/
namespace G
open PySem L2
section
variable {Z : Store} {T : Tab} {m : Nat} {st : Store}
def nstr (j : Nat) : Str := Str.ofString (toString (j : Int))
def nm (p : Str) (j : Nat) : Str := p ++ nstr j
theorem biD_str_nat {j : Nat} (h : j < 100) : biD T st .str [.int j] = some (.str (nstr j)) := by
  have e : biD T st .str [.int (j : Int)] = if (j : Int).natAbs.log2 < 1920 then some (.str (nstr j)) else none := rfl
  rw [e, if_pos]
  have : (j : Int).natAbs.log2 ≤ (j : Int).natAbs := Nat.log2_le_self _
  omega
theorem len_all : (List.range 100).all (fun j => decide ((nstr j).length ≤ 10)) = true := by decide +kernel
theorem len_nat {j : Nat} (h : j < 100) : (nstr j).length ≤ 10 := of_decide_eq_true (List.all_eq_true.mp len_all j (List.mem_range.mpr h))
theorem binD_nm {p : Str} {j : Nat} (hp : p.length ≤ 10) (h : j < 100) : binD st .Add (.str p) (.str (nstr j)) = some (.str (nm p j)) := by
  have e : binD st .Add (.str p) (.str (nstr j)) = if p.length + (nstr j).length ≤ LIM then some (.str (p ++ nstr j)) else none := rfl
  rw [e, if_pos]
  · rfl
  · have := len_nat h
    have : p.length + (nstr j).length ≤ 20 := by omega
    exact Nat.le_trans this (by decide)
/-- what is alike to no items -/
theorem eq_nil {l : List D} (h : ∀ d ∈ l, ∃ x, toPy st 11 d = some x ∧ x.canLay0 = true ∧ x.depth ≤ 20) : eqD st (.lst l) (.lst []) = some (decide (l = [])) := by
  have hm : l.mapM (toPy st 11) = some (l.map fun d => (toPy st 11 d).getD .none) := mapM_some fun d hd => by
    obtain ⟨x, e, _⟩ := h d hd
    rw [e]; rfl
  have e1 : toPy st 12 (.lst l) = some (.list (l.map fun d => (toPy st 11 d).getD .none)) := by simp only [toPy, hm, Option.map_some]
  have e2 : toPy st 12 (.lst []) = some (.list []) := rfl
  have s1 : SeqAt.shaped (.list (l.map fun d => (toPy st 11 d).getD .none)) = true := by
    have q1 : PyData.canLay0 (.list (l.map fun d => (toPy st 11 d).getD .none)) = true := by
      simp only [PyData.canLay0]
      exact layAll fun x hx => by
        obtain ⟨d, hd, rfl⟩ := List.mem_map.mp hx
        obtain ⟨x, e, a, b⟩ := h d hd
        rw [e]; exact a
    have q2 : PyData.depth (.list (l.map fun d => (toPy st 11 d).getD .none)) ≤ 64 := by
      have := depthAll_le (l := l.map fun d => (toPy st 11 d).getD .none) (k := 20) fun x hx => by
        obtain ⟨d, hd, rfl⟩ := List.mem_map.mp hx
        obtain ⟨x, e, a, b⟩ := h d hd
        rw [e]; exact b
      simp only [PyData.depth]
      omega
    unfold SeqAt.shaped
    rw [q1, decide_eq_true q2]; rfl
  have s2 : SeqAt.shaped (.list []) = true := by decide
  unfold eqD
  rw [e1, e2]
  simp only [s1, s2, Bool.and_self, if_true, PyData.eqv]
  cases l <;> simp [PyData.eqvAll]
/-- what a cost is -/
def costD (c : Str × List Span) : D := .tup [.str c.1, rowD c.2]
theorem costD_py {c : Str × List Span} (h : PyData.strOk c.1 = true) : ∃ x, toPy st 11 (costD c) = some x ∧ x.canLay0 = true ∧ x.depth ≤ 20 := by
  obtain ⟨f, h1, h2, h3⟩ := rowD_ok.py
  refine ⟨.tuple [.str c.1, f c.2], ?_, ?_, ?_⟩
  · have := h1 st 10 c.2 (by omega)
    simp [costD, toPy, this]
  · simp [PyData.canLay0, PyData.canLayAll0, h, (h2 c.2).1]
  · have := (h2 c.2).2
    simp only [PyData.depth, PyData.depthAll]; omega
abbrev bkeys : List Key := [.inr "unknowns", .inr "rules", .inr "costs", .inr "asks"]
/-- a book's texts -/
structure Book where
  names : List Str
  rules : List D
  costs : List D
  asks : List D
def bookL (b : Book) : List D := [.tup (b.names.map .str), .lst b.rules, .lst b.costs, .lst b.asks]
def bookD (b : Book) : D := .dct bkeys (bookL b)
@[simp] theorem book_unknowns (b : Book) : ixD st (bookD b) (.str "unknowns") = some (.tup (b.names.map .str)) := (rfl)
@[simp] theorem book_rules (b : Book) : ixD st (bookD b) (.str "rules") = some (.lst b.rules) := (rfl)
@[simp] theorem book_costs (b : Book) : ixD st (bookD b) (.str "costs") = some (.lst b.costs) := (rfl)
@[simp] theorem book_asks (b : Book) : ixD st (bookD b) (.str "asks") = some (.lst b.asks) := (rfl)
theorem some_ask_sat (h : H__law_some_ask T) (hm : 3 ≤ m) {o : O} {k : Nat} (ho : Pn (k + 3) o) {b : Book} {bd : D} (hb1 : ∀ o, ixD (o :: Z) bd (.str "unknowns") = some (.tup (b.names.map .str))) (hb2 : ∀ o, ixD (o :: Z) bd (.str "costs") = some (.lst b.costs)) (hn : b.names ≠ []) (hn' : b.names.length ≤ 1000) (hc' : b.costs.length ≤ 1000) (hc : ∀ st, ∀ d ∈ b.costs, ∃ x, toPy st 11 d = some x ∧ x.canLay0 = true ∧ x.depth ≤ 20)
    {Q : D → Store → Prop} (q : ∀ d o', Cl d → Pn k o' → Q d (o' :: Z)) : (callN T 1000 m i__law_some_ask [.loc 0, bd] (o :: Z)).sat Q := by
  have q' : ∀ d o', Cl d → Pn k o' → (leave true (Z.length + 1) d (o' :: Z)).sat Q := fun d o' h1 h2 => by rw [leave_pen]; exact R.sat_eq rfl (q d o' h1 h2)
  have ca : ∀ l : List Str, Cl (.tup (l.map .str)) := fun l => .tup (.map fun _ _ => .str _)
  have ok : ∀ w ∈ (["some", "held", "bears", "steers", "each", "regular", "inverse", "range", "range", "least", "worst"] : List Str), PyData.strOk w = true := by decide +kernel
  refine callN_sat hm h.look rfl fun n hn0 => ?_
  simp [d__law_some_ask, c__law_some_ask]
  refine pick_sat h.c__law_pick (by omega) ho (xs := (["some", "held", "bears", "steers", "each", "regular", "inverse", "range", "range", "least", "worst"] : List Str)) (enc := D.str) (by simp) (by simp) fun w hw o1 ho1 => ?_
  refine pick_sat h.c__law_pick (by omega) ho1 (xs := (["some", "some", "held", "bears", "steers"] : List Str)) (enc := D.str) (by simp) (by simp) fun v hv o2 ho2 => ?_
  have e1 := fun st => @eqD_str st w "range" (ok w hw) (by decide +kernel)
  have e2 := fun st => @eqD_str st w "least" (ok w hw) (by decide +kernel)
  have e3 := fun st => @eqD_str st w "worst" (ok w hw) (by decide +kernel)
  have hl : 0 < b.names.length := List.length_pos_iff.mpr hn
  have dr : ∀ {l : Nat}, 0 < l → l ≤ 1000 → ∀ F : Int → D, (∀ i, Cl (F i)) → (callN T 1000 n i__law_draw [.loc 0, .int l] (o2 :: Z)).sat fun a st => ∃ i, a = .int i ∧ ∃ o3, st = o3 :: Z ∧ Pn k o3 := fun h0 h1 F hF => draw_sat h.c__law_draw (by omega) ho2 (by omega) (by omega) fun d o3 _ _ ho3 => ⟨d, rfl, o3, rfl, ho3⟩
  by_cases c1 : w = "range"
  · subst c1
    simp [e1, hb1]
    refine (dr hl hn' (fun i => .int i) fun i => .int i).imp ?_
    rintro _ _ ⟨i, rfl, o3, rfl, ho3⟩
    exact q' _ _ (.tup (.cons (.str _) (.cons (.int _) (.cons (.str _) .nil)))) ho3
  · have e4 := eq_nil (hc (o2 :: Z))
    have n1 : ¬ ("least" : Str) = "range" := by decide +kernel
    have n2 : ¬ ("worst" : Str) = "range" := by decide +kernel
    have n3 : ¬ ("worst" : Str) = "least" := by decide +kernel
    have n4 : ¬ ("least" : Str) = "worst" := by decide +kernel
    have fin : ∀ o3, Pn k o3 → ((ev T (callN T 1000 n) (.ite (.cmp .NotIn (.var 2) (.tup [.lit (.str "least"), .lit (.str "worst")])) (.tup [.var 2]) (.tup [.lit (.str "some")])) [some (.loc 0), some bd, some (.str w), some (.str v)] (o3 :: Z)).sat fun a st => (leave true (Z.length + 1) a st).sat Q) := by
      intro o3 ho3
      have e : ∃ x, inD (o3 :: Z) (.str w) (.tup [.str "least", .str "worst"]) = some x := ⟨_, rfl⟩
      obtain ⟨x, e⟩ := e
      cases x <;> simp [e]
      · exact q' _ _ (ca [w]) ho3
      · exact q' _ _ (ca ["some"]) ho3
    by_cases c4 : b.costs = []
    · have e5 : eqD (o2 :: Z) (.lst b.costs) (.lst []) = some true := by rw [e4, decide_eq_true c4]
      by_cases c2 : w = "least"
      · subst c2
        simpa [e1, e2, e3, n1, n4, hb2, e5] using fin o2 (ho2.mono (by omega))
      · by_cases c3 : w = "worst"
        · subst c3
          simpa [e1, e2, e3, n2, n3, hb2, e5] using fin o2 (ho2.mono (by omega))
        · simpa [e1, e2, e3, c1, c2, c3, hb2, e5] using fin o2 (ho2.mono (by omega))
    · have e5 : eqD (o2 :: Z) (.lst b.costs) (.lst []) = some false := by rw [e4, decide_eq_false c4]
      have hl' : 0 < b.costs.length := List.length_pos_iff.mpr c4
      by_cases c2 : w = "least"
      · subst c2
        simp [e1, e2, e3, n1, n4, hb2, e5]
        refine (dr hl' hc' (fun i => .int i) fun i => .int i).imp ?_
        rintro _ _ ⟨i, rfl, o3, rfl, ho3⟩
        exact q' _ _ (.tup (.cons (.str _) (.cons (.int _) (.cons (.str _) .nil)))) ho3
      · by_cases c3 : w = "worst"
        · subst c3
          simp [e1, e2, e3, n2, n3, hb2, e5]
          refine (dr hl' hc' (fun i => .int i) fun i => .int i).imp ?_
          rintro _ _ ⟨i, rfl, o3, rfl, ho3⟩
          exact q' _ _ (.tup (.cons (.str _) (.cons (.int _) .nil))) ho3
        · simpa [e1, e2, e3, c1, c2, c3, hb2, e5] using fin o2 (ho2.mono (by omega))
/-! ### books -/
@[simp] theorem get_last (x : O) : (st ++ [x])[st.length]? = some x := by simp
@[simp] theorem set_last (x y : O) : (st ++ [x]).set st.length y = st ++ [y] := by simp
theorem ev_copied_tup (h : H_copied T) (hm : 1 ≤ m) (l : List D) : callN T 1000 m i_copied [.tup l] st = .ok (.tup l) st := by
  refine callN_do hm h.look rfl fun k hk => ?_
  simp [d_copied, c_copied]
theorem attrPut_at {c f n : Nat} {k : ClsD} (hk : T.clss.lookup c = some k) (hf : k.flds.contains f = true) {d : D} {ρ : Env'} {ns : List Nat} {l : List D} (hs : st[n]? = some (.ins c ns l)) (hn : ns.length < 900) : attrPut T f d ρ (.loc n) st = .ok ρ (st.set n (.ins c (putA f d ns l).1 (putA f d ns l).2)) := by
  unfold attrPut
  dsimp only
  rw [hs]
  dsimp only
  rw [if_pos ⟨hn, has_of hk hf⟩]
theorem ev_model_init (h : H_Model___init__ T) (hm : 2 ≤ m) (hM : T.clss.lookup k_Model = some kc_Model) (a b c d : List D) : callN T 1000 m i_Model___init__ [.loc st.length, .tup a, .tup b, .tup c, .tup d] (st ++ [.ins k_Model [] []]) = .ok .non (st ++ [.ins k_Model [a_unknowns, a_rules, a_costs, a_asks] [.tup a, .tup b, .tup c, .tup d]]) := by
  refine callN_do hm h.look rfl fun k hk => ?_
  have e : ∀ {f : Nat} (_ : kc_Model.flds.contains f = true) (d : D) (ρ : Env') (ns : List Nat) (l : List D) (_ : ns.length < 900), attrPut T f d ρ (.loc st.length) (st ++ [.ins k_Model ns l]) = .ok ρ (st ++ [.ins k_Model (putA f d ns l).1 (putA f d ns l).2]) := fun hf d ρ ns l hn => by
    rw [attrPut_at hM hf (get_last _) hn, set_last]
  have e1 := e (f := a_unknowns) (by decide)
  have e2 := e (f := a_rules) (by decide)
  have e3 := e (f := a_costs) (by decide)
  have e4 := e (f := a_asks) (by decide)
  have lv : ∀ x : O, leave true (st.length + 1) .non (st ++ [x]) = .ok .non (st ++ [x]) := fun x => by simp [leave]
  have n12 : ¬ a_unknowns = a_rules := by decide
  have n13 : ¬ a_unknowns = a_costs := by decide
  have n14 : ¬ a_unknowns = a_asks := by decide
  have n23 : ¬ a_rules = a_costs := by decide
  have n24 : ¬ a_rules = a_asks := by decide
  have n34 : ¬ a_costs = a_asks := by decide
  simp [d_Model___init__, c_Model___init__, ev_copied_tup h.c_copied hk, e1, e2, e3, e4, putA, lv, n12, n13, n14, n23, n24, n34]
theorem mkObj_of {call : Call} {c i : Nat} {k : ClsD} {ds : List D} {ns : List Nat} {l : List D} (hst : StOk st) (hc : T.clss.lookup c = some k) (hi : k.init = some i) (hf : k.frz = true) (hl : Cls l) (e : call i (.loc st.length :: ds) (st ++ [.ins c [] []]) = .ok .non (st ++ [.ins c ns l])) : mkObj T call c ds st = .ok (.obj c ns l) st := by
  unfold mkObj
  rw [hc]
  dsimp only
  rw [hi]
  dsimp only
  rw [e]
  simp only [R.bind_ok, isNon_non, if_true, hf, List.length_append, List.length_cons, List.length_nil, Bool.true_and]
  rw [if_pos (by simp)]
  simp only [get_last, List.take_left]
  rw [if_pos ⟨trivial, belows_of fun d hd => hl d hd _, hst⟩]
theorem ev_law_built (h : H__law_built T) (hm : 3 ≤ m) (hM : HC T k_Model kc_Model) (hst : StOk st) {b : Book} {rs : List Rule} (hr : b.rules = rs.map ruleD) (hc : Cls (bookL b)) : callN T 1000 m i__law_built [bookD b] st = .ok (mdlD ⟨b.names, rs, b.costs, b.asks⟩) st := by
  refine callN_do hm h.look rfl fun k hk => ?_
  have h1 : Cls [D.tup (b.names.map .str), .tup b.rules, .tup b.costs, .tup b.asks] := by
    have q : ∀ l, Cl (.lst l) → Cl (.tup l) := fun l z n => z n
    exact .cons (hc _ (by simp [bookL])) (.cons (q _ (hc _ (by simp [bookL]))) (.cons (q _ (hc _ (by simp [bookL]))) (.cons (q _ (hc _ (by simp [bookL]))) .nil)))
  have e := mkObj_of (call := callN T 1000 k) hst hM.cls rfl rfl h1 (ev_model_init h.c_Model___init__ hk hM.cls (b.names.map .str) b.rules b.costs b.asks)
  rw [hr] at e
  simp [d__law_built, c__law_built, e, mdlD, hr]
theorem Cls.putK {ks : List Key} {l : List D} {k : Key} {d : D} (h : Cls l) (hd : Cl d) : Cls (putK' k d ks l).2 := by
  have h2 : ∀ (ks : List Key) (l : List D), Cls l → Cls (putL k d ks l) := by
    intro ks
    induction ks with
    | nil => intro l h; cases l <;> exact h
    | cons k' ks ih =>
      intro l h
      cases l with
      | nil => exact h
      | cons e l =>
        simp only [putL]
        refine .cons ?_ (ih l fun x hx => h x (List.mem_cons_of_mem _ hx))
        split
        · exact hd
        · exact h e List.mem_cons_self
  unfold putK'
  split
  · exact h2 ks l h
  · exact h.append (.cons hd .nil)
theorem ev_law_with (h : H__law_with T) (hm : 1 ≤ m) (hst : StOk st) {ks : List Key} {l : List D} {w : Str} {d : D} (hk : ks.length ≤ 100) (hl : Cls l) (hd : Cl d) : callN T 1000 m i__law_with [.dct ks l, .str w, d] st = .ok (.dct (putK' (.inr w) d ks l).1 (putK' (.inr w) d ks l).2) st := by
  refine callN_do hm h.look rfl fun k hk' => ?_
  have e1 : ∀ ρ, subPut d ρ (.loc st.length) (.str w) (st ++ [.dct ks l]) = .ok ρ (st ++ [.dct (putK' (.inr w) d ks l).1 (putK' (.inr w) d ks l).2]) := fun ρ => by
    unfold subPut
    simp only [get_last, keyOf, set_last]
    rw [if_pos (Nat.lt_of_le_of_lt hk (by decide))]
  have e2 := leave_dct hst (ks := (putK' (.inr w) d ks l).1) (more := []) (hl.putK (ks := ks) (k := .inr w) hd)
  simp [d__law_with, c__law_with, biO, dict?, e1, e2]
theorem with_asks (b : Book) (l : List D) : D.dct (putK' (.inr "asks") (.lst l) bkeys (bookL b)).1 (putK' (.inr "asks") (.lst l) bkeys (bookL b)).2 = bookD { b with asks := l } := (rfl)
theorem with_costs (b : Book) (l : List D) : D.dct (putK' (.inr "costs") (.lst l) bkeys (bookL b)).1 (putK' (.inr "costs") (.lst l) bkeys (bookL b)).2 = bookD { b with costs := l } := (rfl)
theorem with_rules (b : Book) (l : List D) : D.dct (putK' (.inr "rules") (.lst l) bkeys (bookL b)).1 (putK' (.inr "rules") (.lst l) bkeys (bookL b)).2 = bookD { b with rules := l } := (rfl)
end
end G

set_option linter.all false
set_option maxRecDepth 100000
set_option maxHeartbeats 2000000
/-! L5: drawn books, whole. -/
namespace G
open PySem L2
section
variable {T : Tab} {m : Nat}
theorem Cl.sp (s : Span) : Cl (sp s) := .tup (.cons (.rt _) (.cons (.rt _) .nil))
theorem Cl.rowD (r : List Span) : Cl (rowD r) := .tup (.map fun s _ => .sp s)
theorem Cl.kindD (b : Bool) : Cl (kindD b) := .str _
theorem Cl.ruleD (r : Rule) : Cl (ruleD r) := .tup (.cons (.str _) (.cons (.rowD _) (.cons (.kindD _) (.cons (.sp _) .nil))))
theorem Cl.costD (c : Str × List Span) : Cl (costD c) := .tup (.cons (.str _) (.cons (.rowD _) .nil))
theorem Cl.pt (p : List Rat) : Cl (pt p) := .tup (.map fun q _ => .rt q)
def xnames (n : Nat) : List Str := (List.range n).map (nm "x")
theorem xnames_len (n : Nat) : (xnames n).length = n := by simp [xnames]
/-- a drawn book -/
structure BookOk (size many : Nat) (b : Book) (n : Nat) (rs : List Rule) : Prop where
  n1 : 1 ≤ n
  n2 : n ≤ size
  names : b.names = xnames n
  rules : b.rules = rs.map ruleD
  rs1 : 1 ≤ rs.length
  rs2 : rs.length ≤ many
  ok : ∀ r ∈ rs, RuleOk n r
  nms : ∀ j (h : j < rs.length), rs[j].name = nm "r" j
  cl : Cls (bookL b)
theorem strOk_nm_all : (List.range 100).all (fun j => PyData.strOk (nm "c" j) && PyData.strOk (nm "r" j) && PyData.strOk (nm "x" j)) = true := by decide +kernel
theorem strOk_nm {j : Nat} (h : j < 100) : PyData.strOk (nm "c" j) = true ∧ PyData.strOk (nm "r" j) = true ∧ PyData.strOk (nm "x" j) = true := by
  have := List.all_eq_true.mp strOk_nm_all j (List.mem_range.mpr h)
  simp only [Bool.and_eq_true] at this
  exact ⟨this.1.1, this.1.2, this.2⟩
theorem all_mapI {α : Type} {enc : α → D} {P : Nat → α → Prop} {ys : List D} (h : ∀ j (h : j < ys.length), ∃ x, ys[j] = enc x ∧ P j x) : ∃ xs : List α, ys = xs.map enc ∧ ∀ j (h : j < xs.length), P j xs[j] := by
  induction ys generalizing P with
  | nil => exact ⟨[], rfl, fun j h => nomatch h⟩
  | cons y ys ih =>
    obtain ⟨x, e, p⟩ := h 0 (by simp)
    obtain ⟨xs, e', p'⟩ := ih (P := fun j => P (j + 1)) fun j hj => by
      have := h (j + 1) (by simpa using hj)
      simpa using this
    simp at e
    refine ⟨x :: xs, by rw [e, e']; rfl, fun j hj => ?_⟩
    cases j with
    | zero => exact p
    | succ j => simpa using p' j (by simpa using hj)
theorem book_sat (h : H__law_book T) (hm : 6 ≤ m) {o : O} {k size many most : Nat} (hs : 1 ≤ size) (hs' : size ≤ 5) (hmy : 1 ≤ many) (hmy' : many ≤ 9) (hmo : 1 ≤ most) (hmo' : most ≤ 20) (ho : Pn (k + 1000) o) {Q : D → Store → Prop}
    (q : ∀ b n rs o', BookOk size many b n rs → Pn k o' → Q (bookD b) [o']) : (callN T 1000 m i__law_book [.loc 0, .int size, .int many, .int most] [o]).sat Q := by
  refine callN_sat hm h.look rfl fun u hu => ?_
  simp [d__law_book, c__law_book]
  -- names
  refine lc_evs (fun ds st1 => ∃ n o1, ds = [.int (n : Nat)] ∧ st1 = [o1] ∧ 1 ≤ n ∧ n ≤ size ∧ Pn (k + 999) o1) ?_ ?_
  · simp
    refine draw_sat (Z := []) h.c__law_draw (by omega) ho (by omega) (by omega) fun d o1 d0 d1 ho1 => ?_
    simp
    exact ⟨1 + d.toNat, by omega, by omega, by omega, ho1⟩
  rintro _ _ e ⟨n, o1, rfl, rfl, n1, n2, ho1⟩
  refine R.sat_eq (lc_pureG (xs := List.range n) (enc := fun i : Nat => D.int (i : Int)) (fun i => .str (nm "x" i)) e (itList_rangeN (by omega)) (by simp [LIM]; omega) fun i hi => ?_) ?_
  · have hi' : i < 100 := by have := List.mem_range.mp hi; omega
    simp [turnR, wipeD, biD_str_nat hi', binD_nm (p := "x") (by decide +kernel) hi']
  have en : (List.range n).map (fun i => D.str (nm "x" i)) = (xnames n).map .str := by simp [xnames]
  rw [en]
  simp
  -- rules
  refine lc_evs (fun ds st1 => ∃ n o2, ds = [.int (n : Nat)] ∧ st1 = [o2] ∧ 1 ≤ n ∧ n ≤ many ∧ Pn (k + 998) o2) ?_ ?_
  · simp
    refine draw_sat (Z := []) h.c__law_draw (by omega) ho1 (by omega) (by omega) fun d o2 d0 d1 ho2 => ?_
    simp
    exact ⟨1 + d.toNat, by omega, by omega, by omega, ho2⟩
  rintro _ _ e2 ⟨nr, o2, rfl, rfl, r1, r2, ho2⟩
  refine lc_draw (Z := []) (xs := List.range nr) (enc := fun i : Nat => D.int (i : Int)) (K := k + 500) (c := 40) (P := fun j y => ∃ r : Rule, y = ruleD r ∧ RuleOk n r ∧ r.name = nm "r" j) e2 (fun st' => itList_rangeN (by omega)) (by simp [LIM]; omega) (ho2.mono (by simp; omega)) ?_ ?_
  · intro j hj o' K' ho'
    simp at hj
    simp [turnR, wipeD, biD_str_nat (show j < 100 by omega), binD_nm (p := "r") (by decide +kernel) (show j < 100 by omega), xnames_len]
    exact rule_sat (kd := none) (n := n) h.c__law_rule hu (by omega) ho' fun r o3 h1 h2 h3 ho3 => ⟨o3, rfl, ho3, r, rfl, h1, h2⟩
  rintro ys o3 hlen hP ho3
  simp at hlen
  obtain ⟨rs, rfl, hrs⟩ := all_mapI hP
  simp at hlen
  -- costs
  refine lc_evs (fun ds st1 => ∃ n o4, ds = [.int (n : Nat)] ∧ st1 = [o4] ∧ n ≤ 2 ∧ Pn (k + 499) o4) ?_ ?_
  · simp
    refine draw_sat (Z := []) h.c__law_draw (by omega) ho3 (by omega) (by omega) fun d o4 d0 d1 ho4 => ?_
    simp
    exact ⟨d.toNat, by omega, by omega, ho4⟩
  rintro _ _ e4 ⟨nc, o4, rfl, rfl, c2, ho4⟩
  refine lc_draw (Z := []) (xs := List.range nc) (enc := fun i : Nat => D.int (i : Int)) (K := k + 400) (c := 30) (P := fun j y => ∃ r : List Span, y = costD (nm "c" j, r)) e4 (fun st' => itList_rangeN (by omega)) (by simp [LIM]; omega) (ho4.mono (by simp; omega)) ?_ ?_
  · intro j hj o' K' ho'
    simp at hj
    simp [turnR, wipeD, biD_str_nat (show j < 100 by omega), binD_nm (p := "c") (by decide +kernel) (show j < 100 by omega)]
    refine lc_draw (Z := []) (st := [o']) (o := o') (xs := xnames n) (enc := D.str) (ds := [.tup ((xnames n).map .str)]) (K := K') (c := 3) (P := fun _ y => ∃ s : Span, y = sp s ∧ Sk 6 s) (by simp) (fun st' => by simp) (by simp [xnames_len, LIM]; omega) (ho'.mono (by simp [xnames_len]; omega)) ?_ ?_
    · intro j hj o5 K5 ho5
      simp [turnR, wipeD, -Prod.exists]
      exact span_sat h.c__law_span (by omega) ho5 fun s o6 hs ho6 => ⟨o6, rfl, ho6, s, rfl, hs⟩
    · rintro ys o5 _ hP ho5
      obtain ⟨row, rfl, _⟩ := all_map hP
      simp
      exact ⟨ho5, row, rfl⟩
  rintro ys o5 hlc hPc ho5
  simp at hlc
  have ncl : Cls ys := fun d hd => by
    obtain ⟨j, hj, rfl⟩ := List.getElem_of_mem hd
    obtain ⟨r, e⟩ := hPc j hj
    rw [e]; exact .costD _
  have npy : ∀ st, ∀ d ∈ ys, ∃ x, toPy st 11 d = some x ∧ x.canLay0 = true ∧ x.depth ≤ 20 := fun st d hd => by
    obtain ⟨j, hj, rfl⟩ := List.getElem_of_mem hd
    obtain ⟨r, e⟩ := hPc j hj
    rw [e]; exact costD_py (strOk_nm (show j < 100 by omega)).1
  have nd : bkeys.Nodup := by decide +kernel
  have nd' := nd
  simp at nd'
  simp [nd']
  rw [show O.dct [.inr "unknowns", .inr "rules", .inr "costs", .inr "asks"] [D.tup (List.map D.str (xnames n)), D.lst (List.map ruleD rs), D.lst ys, D.lst []] = .dct bkeys (bookL ⟨xnames n, rs.map ruleD, ys, []⟩) from rfl]
  refine lc_evs (fun ds st1 => ∃ (n0 : Nat) (o6 : O), ds = [.int (n0 : Nat)] ∧ st1 = o6 :: [.dct bkeys (bookL ⟨xnames n, rs.map ruleD, ys, []⟩)] ∧ n0 ≤ 20 ∧ Pn (k + 390) o6) ?_ ?_
  · simp
    refine draw_sat (Z := [.dct bkeys (bookL ⟨xnames n, rs.map ruleD, ys, []⟩)]) h.c__law_draw (by omega) (ho5.mono (show k + 390 + 1 ≤ _ by omega)) (by omega) (by omega) fun d o6 d0 d1 ho6 => ?_
    simp
    exact ⟨1 + d.toNat, by omega, by omega, ho6⟩
  rintro _ _ e6 ⟨na, o6, rfl, rfl, a2, ho6⟩
  refine lc_draw (Z := [.dct bkeys (bookL ⟨xnames n, rs.map ruleD, ys, []⟩)]) (xs := List.range na) (enc := fun i : Nat => D.int (i : Int)) (K := k) (c := 3) (P := fun j y => Cl y) e6 (fun st' => itList_rangeN (by omega)) (by simp [LIM]; omega) (ho6.mono (by simp; omega)) ?_ ?_
  · intro j hj o' K' ho'
    simp [turnR, wipeD]
    refine some_ask_sat (b := ⟨xnames n, rs.map ruleD, ys, []⟩) h.c__law_some_ask (by omega) ho' (fun o => rfl) (fun o => rfl) (by intro z; have := congrArg List.length z; simp [xnames_len] at this; omega) (by simp [xnames_len]; omega) (show ys.length ≤ 1000 by omega) npy fun d o7 hd ho7 => ⟨o7, rfl, ho7, hd⟩
  rintro zs o7 _ hz ho7
  have zcl : Cls zs := fun d hd => by
    obtain ⟨j, hj, rfl⟩ := List.getElem_of_mem hd
    exact hz j hj
  have put : ∀ ρ, subPut (.lst zs) ρ (.loc 1) (.str "asks") [o7, .dct bkeys (bookL ⟨xnames n, rs.map ruleD, ys, []⟩)] = .ok ρ [o7, .dct bkeys (bookL ⟨xnames n, rs.map ruleD, ys, zs⟩)] := fun ρ => rfl
  have bcl : Cls (bookL ⟨xnames n, rs.map ruleD, ys, zs⟩) := .cons (.tup (.map fun _ _ => .str _)) (.cons (.lst (.map fun _ _ => .ruleD _)) (.cons (.lst ncl) (.cons (.lst zcl) .nil)))
  have lv := leave_dct (st := [o7]) (pn_ok ho7) (ks := bkeys) (more := []) bcl
  simp only [List.length_cons, List.length_nil, Nat.zero_add, List.cons_append, List.nil_append] at lv
  simp [put, lv]
  exact q _ n rs _ ⟨n1, n2, rfl, rfl, by omega, by omega, fun r hr => by
    obtain ⟨j, hj, rfl⟩ := List.getElem_of_mem hr
    exact (hrs j hj).1, fun j hj => (hrs j hj).2, bcl⟩ ho7
theorem rules_sat (h : H__law_rules T) (hm : 7 ≤ m) {o : O} {k size many : Nat} (hs : 1 ≤ size) (hs' : size ≤ 5) (hmy : 1 ≤ many) (hmy' : many ≤ 9) (ho : Pn (k + 1000) o) {Q : D → Store → Prop}
    (q : ∀ b n rs o', BookOk size many b n rs → b.costs = [] → b.asks = [] → Pn k o' → Q (bookD b) [o']) : (callN T 1000 m i__law_rules [.loc 0, .int size, .int many] [o]).sat Q := by
  refine callN_sat hm h.look rfl fun u hu => ?_
  simp [d__law_rules, c__law_rules]
  refine book_sat h.c__law_book hu hs hs' hmy hmy' (show 1 ≤ 1 by omega) (by omega) ho fun b n rs o' hb ho' => ?_
  have c1 : Cls (bookL { b with asks := [] }) := .cons (hb.cl _ (by simp [bookL])) (.cons (hb.cl _ (by simp [bookL])) (.cons (hb.cl _ (by simp [bookL])) (.cons (.lst .nil) .nil)))
  have c2 : Cls (bookL { b with asks := [], costs := [] }) := .cons (hb.cl _ (by simp [bookL])) (.cons (hb.cl _ (by simp [bookL])) (.cons (.lst .nil) (.cons (.lst .nil) .nil)))
  have e1 := ev_law_with (st := [o']) (m := u) h.c__law_with (by omega) (pn_ok ho') (ks := bkeys) (w := "asks") (d := .lst []) (by decide) hb.cl (.lst .nil)
  have e2 := ev_law_with (st := [o']) (m := u) h.c__law_with (by omega) (pn_ok ho') (ks := bkeys) (w := "costs") (d := .lst []) (by decide) c1 (.lst .nil)
  rw [with_asks] at e1
  rw [with_costs] at e2
  have e1' : callN T 1000 u i__law_with [bookD b, .str "asks", .lst []] [o'] = .ok (bookD { b with asks := [] }) [o'] := e1
  have e2' : callN T 1000 u i__law_with [bookD { b with asks := [] }, .str "costs", .lst []] [o'] = .ok (bookD { b with asks := [], costs := [] }) [o'] := e2
  have lp : ∀ d, leave true 1 d [o'] = .ok d [o'] := fun d => leave_pen (Z := [])
  simp [e1', e2', lp]
  exact q _ n rs _ ⟨hb.n1, hb.n2, hb.names, hb.rules, hb.rs1, hb.rs2, hb.ok, hb.nms, c2⟩ rfl rfl ho'
theorem some_point_sat (h : H__law_some_point T) (hm : 4 ≤ m) {o : O} {k n : Nat} (hn : n ≤ 10) {b : Book} (hb : b.names.length = n) (ho : Pn (k + 30) o) {Q : D → Store → Prop}
    (q : ∀ (p : List Rat) o', p.length = n → (∀ x ∈ p, sz x ≤ 3) → Pn k o' → Q (pt p) [o']) : (callN T 1000 m i__law_some_point [.loc 0, bookD b] [o]).sat Q := by
  refine callN_sat hm h.look rfl fun u hu => ?_
  simp [d__law_some_point, c__law_some_point]
  refine lc_draw (Z := []) (o := o) (xs := b.names) (enc := D.str) (ds := [.tup (b.names.map .str)]) (K := k) (c := 2) (P := fun _ y => ∃ x, y = rt x ∧ sz x ≤ 3) (by simp) (by simp) (by rw [hb]; simp [LIM]; omega) (ho.mono (by rw [hb]; omega)) ?_ ?_
  · intro j hj o' K' ho'
    simp [turnR, wipeD]
    exact ratio_sat (most := 4) h.c__law_ratio hu ho' (by omega) fun r o2 hr ho2 => ⟨o2, rfl, ho2, r, rfl, hr⟩
  · rintro ys o' hl hP ho'
    obtain ⟨p, rfl, hp⟩ := all_map hP
    simp at hl
    have lp : ∀ d, leave true 1 d [o'] = .ok d [o'] := fun d => leave_pen (Z := [])
    simp [lp]
    exact q p o' (by omega) hp ho'
end
end G

set_option linter.all false
/-! M32: the mathematics of reaches (no program in sight). -/
namespace G
theorem smul_pt {s : Span} (h : Sok s) (q : Rat) : smul s (q, q) = if 0 ≤ q then (s.1 * q, s.2 * q) else (s.2 * q, s.1 * q) := by
  unfold Sok at h
  by_cases hq : 0 ≤ q
  · have h1 : s.1 * q ≤ s.2 * q := Rat.mul_le_mul_of_nonneg_right h hq
    simp [smul, qmin, qmax, qhd, hq, Rat.min_def, Rat.max_def, Rat.le_refl, h1]
  · have h1 : s.2 * q ≤ s.1 * q := by
      have := Rat.mul_le_mul_of_nonneg_right (c := -q) h (by grind)
      grind
    simp [smul, qmin, qmax, qhd, hq, Rat.min_def, Rat.max_def, Rat.le_refl, h1]
    grind
theorem smul_ok {s : Span} (h : Sok s) (q : Rat) : Sok (smul s (q, q)) := by
  rw [smul_pt h]
  unfold Sok at *
  by_cases hq : 0 ≤ q
  · rw [if_pos hq]; exact Rat.mul_le_mul_of_nonneg_right h hq
  · rw [if_neg hq]
    have := Rat.mul_le_mul_of_nonneg_right (c := -q) h (by grind)
    show s.2 * q ≤ s.1 * q
    grind
theorem wid_smul {s : Span} (h : Sok s) (q : Rat) : wid (smul s (q, q)) = wid s * q.abs := by
  rw [smul_pt h]
  unfold wid Rat.abs
  by_cases hq : 0 ≤ q
  · simp only [if_pos hq]; grind
  · simp only [if_neg hq]; grind
theorem mid_smul {s : Span} (h : Sok s) (q : Rat) : mid (smul s (q, q)) = mid s * q := by
  rw [smul_pt h]
  unfold mid
  by_cases hq : 0 ≤ q
  · simp only [if_pos hq]; grind
  · simp only [if_neg hq]; grind
def rstep (s : Span) (x : Span × Rat) : Span := (s.1 + (smul x.1 (x.2, x.2)).1, s.2 + (smul x.1 (x.2, x.2)).2)
theorem rstep_ok {s : Span} {x : Span × Rat} (h : Sok s) (k : Sok x.1) : Sok (rstep s x) := by
  have := smul_ok k x.2
  unfold Sok rstep at *
  grind
theorem rfold_ok : ∀ (z : List (Span × Rat)) (s : Span), (∀ x ∈ z, Sok x.1) → Sok s → Sok (z.foldl rstep s)
  | [], s, _, h => h
  | x :: z, s, h, hs => rfold_ok z _ (fun y hy => h y (List.mem_cons_of_mem _ hy)) (rstep_ok hs (h x List.mem_cons_self))
theorem rfold_wid : ∀ (z : List (Span × Rat)) (s : Span), (∀ x ∈ z, Sok x.1) → wid (z.foldl rstep s) = (z.map fun x => wid x.1 * x.2.abs).foldl (· + ·) (wid s)
  | [], s, _ => rfl
  | x :: z, s, h => by
    rw [List.foldl_cons, List.map_cons, List.foldl_cons, rfold_wid z _ fun y hy => h y (List.mem_cons_of_mem _ hy)]
    congr 1
    rw [← wid_smul (h x List.mem_cons_self)]
    unfold wid rstep
    grind
theorem rfold_mid : ∀ (z : List (Span × Rat)) (s : Span), (∀ x ∈ z, Sok x.1) → mid (z.foldl rstep s) = (z.map fun x => mid x.1 * x.2).foldl (· + ·) (mid s)
  | [], s, _ => rfl
  | x :: z, s, h => by
    rw [List.foldl_cons, List.map_cons, List.foldl_cons, rfold_mid z _ fun y hy => h y (List.mem_cons_of_mem _ hy)]
    congr 1
    rw [← mid_smul (h x List.mem_cons_self)]
    unfold mid rstep
    grind
theorem reachS_eq (row : List Span) (p : List Rat) : reachS row p = (row.zip p).foldl rstep (0, 0) := rfl
theorem zip_ok {row : List Span} {p : List Rat} (h : ∀ s ∈ row, Sok s) : ∀ x ∈ row.zip p, Sok x.1 := fun x hx => h _ (List.of_mem_zip hx).1
theorem reach_ok {row : List Span} {p : List Rat} (h : ∀ s ∈ row, Sok s) : Sok (reachS row p) := rfold_ok _ _ (zip_ok h) (Rat.le_refl)
theorem reach_wid {row : List Span} {p : List Rat} (h : ∀ s ∈ row, Sok s) : wid (reachS row p) = qsum ((row.zip p).map fun x => wid x.1 * x.2.abs) := by
  rw [reachS_eq, rfold_wid _ _ (zip_ok h)]
  have : wid (0, 0) = 0 := by decide +kernel
  rw [this]; rfl
theorem reach_mid {row : List Span} {p : List Rat} (h : ∀ s ∈ row, Sok s) : mid (reachS row p) = qsum ((row.zip p).map fun x => mid x.1 * x.2) := by
  rw [reachS_eq, rfold_mid _ _ (zip_ok h)]
  have : mid (0, 0) = 0 := by decide +kernel
  rw [this]; rfl
/-- rooms of equations, by ends -/
def room4 (m r : Span) : Wd → Bool
  | .some => !decide (min m.2 r.2 < max m.1 r.1)
  | .held => decide (wid m = 0) && decide (m = r)
  | .bears => decide (r.1 ≤ m.1) && decide (m.2 ≤ r.2)
  | .steers => decide (m.1 ≤ r.1) && decide (r.2 ≤ m.2)
def room4m (m r : Span) : Wd → Bool
  | .some => !decide (r.2 < m.1)
  | .held => !decide (r.1 < m.2)
  | .bears => !decide (r.2 < m.2)
  | .steers => !decide (r.1 < m.1)
theorem room_is (w : Wd) {r : Rule} {p : List Rat} (h1 : Sok (reachS r.row p)) (h2 : Sok r.right) (he : r.eq = true) : decide (0 ≤ roomQ w r p) = room4 (reachS r.row p) r.right w := by
  unfold roomQ
  rw [he, if_pos rfl]
  generalize reachS r.row p = m at *
  generalize r.right = d at *
  obtain ⟨a, b⟩ := m
  obtain ⟨c, e⟩ := d
  unfold Sok at h1 h2
  dsimp only at h1 h2
  cases w <;> simp only [room4, Wd.byC, Wd.byR, mid, wid, Rat.abs, Rat.min_def, Rat.max_def, Prod.mk.injEq] <;> grind
theorem room_most (w : Wd) {r : Rule} {p : List Rat} (h1 : Sok (reachS r.row p)) (h2 : Sok r.right) (he : r.eq = false) : decide (0 ≤ roomQ w r p) = room4m (reachS r.row p) r.right w := by
  unfold roomQ
  rw [he, if_neg Bool.false_ne_true]
  generalize reachS r.row p = m at *
  generalize r.right = d at *
  obtain ⟨a, b⟩ := m
  obtain ⟨c, e⟩ := d
  unfold Sok at h1 h2
  dsimp only at h1 h2
  cases w <;> simp only [room4m, Wd.byC, Wd.byR, mid, wid] <;> grind
end G

set_option linter.all false
set_option maxRecDepth 100000
set_option maxHeartbeats 4000000
/-! K32: the law of reaches by spans. -/
namespace G
open PySem L2
theorem EncOk.bl : EncOk D.bl 0 := ⟨PyData.bool, fun st n a h => by cases n <;> rfl, fun a => ⟨rfl, by simp [PyData.depth]⟩, fun a b => by simp only [PyData.eqv]; cases a <;> cases b <;> rfl⟩
section
variable {T : Tab} {m : Nat} {st : Store}
theorem bls_eq (a b : List Bool) : eqD st (.tup (a.map .bl)) (.tup (b.map .bl)) = some (decide (a = b)) := (EncOk.tup EncOk.bl).eq (by decide) st a b
theorem ev_law_dot (h : H__law_dot T) (hm : 5 ≤ m) {a : D} {x y : List Rat} (ha : items? st a = some (x.map rt)) {k l : Nat} (hx : ∀ q ∈ x, sz q ≤ k) (hy : ∀ q ∈ y, sz q ≤ l) (hk : k ≤ 1000) (hl : l ≤ 1000) (hn : y.length * (k + l + 1) ≤ 3000) : callN T 1000 m i__law_dot [a, pt y] st = .ok (rt (qsum ((x.zip y).map fun p => p.1 * p.2))) st := by
  refine callN_do hm h.look rfl fun n hn' => ?_
  have hlen : y.length ≤ 3000 := Nat.le_trans (Nat.le_mul_of_pos_right _ (by omega)) hn
  have e := lc_pure (T := T) (call := callN T 1000 n) (ρ := [some a, some (pt y), none, none]) (st := st) (own := [2, 3]) (elt := .call i__law_times [.var 2, .var 3]) (tg := .tup [.nm 2, .nm 3]) (k := .zip) (es := [.var 0, .var 1]) (ds := [a, pt y]) (xs := x.zip y) (enc := fun p => .tup [rt p.1, rt p.2]) (fun p => rt (p.1 * p.2)) (by simp) (itList_zipE ha (by simp)) (Nat.le_trans (by simp; omega) (show 3000 ≤ LIM by decide)) (fun p hp => by
    have h1 := hx _ (List.of_mem_zip hp).1
    have h2 := hy _ (List.of_mem_zip hp).2
    simp [turnR, wipeD, ev_law_times h.c__law_times (show 3 ≤ n by omega) (a := p.1) (b := p.2) (by omega) (by omega)])
  have e2 := ev_law_sum (st := st) (m := n) h.c__law_sum hn' (l := (x.zip y).map fun p => p.1 * p.2) (k := k + l) (fun q hq => by
    obtain ⟨p, hp, rfl⟩ := List.mem_map.mp hq
    have h1 := hx _ (List.of_mem_zip hp).1
    have h2 := hy _ (List.of_mem_zip hp).2
    have := sz_mul p.1 p.2
    omega) (Nat.le_trans (Nat.mul_le_mul_right _ (by simp; omega)) hn) (by omega)
  rw [List.map_map] at e2
  have e3 : (x.zip y).map (rt ∘ fun p => p.1 * p.2) = (x.zip y).map fun p => rt (p.1 * p.2) := rfl
  rw [e3] at e2
  simp [d__law_dot, c__law_dot, e, e2]
def forBody : S → List S
  | .for_ _ _ _ b => b
  | _ => []
def inner_k32 : List S := forBody ((forBody (c_law_k32.getD 1 .pass)).getD 1 .pass)
theorem iteR_and (a b : Bool) : iteR (fun st => R.ok (D.bl b) st) (fun st => R.ok (D.bl false) st) (.bl a) st = .ok (.bl (a && b)) st := by cases a <;> rfl
/-- one rule of one book -/
theorem turn_k32 (h : H_law_k32 T) (hM : HC T k_Model kc_Model) (hm : 7 ≤ m) {o : O} {k n : Nat} {b : Book} {rs : List Rule} {r : Rule} (hb : BookOk 3 3 b n rs) (hr : r ∈ rs) (ho : Pn (k + 30) o) (i : D) (s : D) (v2 v4 v5 v6 v7 v8 v9 v10 v11 v12 v13 : Option D) {Q : Fl → Store → Prop}
    (q : ∀ o' u6 u7 u8 u9 u10 u11 u12 u13, Pn k o' → Q (.next [some s, some (.loc 0), v2, some (bookD b), some i, some (ruleD r), u6, u7, u8, u9, u10, u11, u12, u13]) [o']) :
    (((asgT T (callN T 1000 m) (.tup [.nm 4, .nm 5]) (.tup [i, ruleD r]) [some s, some (.loc 0), v2, some (bookD b), v4, v5, v6, v7, v8, v9, v10, v11, v12, v13] [o]).bind fun ρ st => exs T (callN T 1000 m) 1000 inner_k32 ρ st)).sat Q := by
  have R0 := hb.ok r hr
  have c1 : Cls (bookL { b with rules := [ruleD r] }) := .cons (hb.cl _ (by simp [bookL])) (.cons (.lst (.cons (.ruleD r) .nil)) (.cons (hb.cl _ (by simp [bookL])) (.cons (hb.cl _ (by simp [bookL])) .nil)))
  have e1 : callN T 1000 m i__law_with [bookD b, .str "rules", .lst [ruleD r]] [o] = .ok (bookD { b with rules := [ruleD r] }) [o] := by
    have := ev_law_with (st := [o]) (m := m) h.c__law_with (by omega) (pn_ok ho) (ks := bkeys) (w := "rules") (d := .lst [ruleD r]) (by decide) hb.cl (.lst (.cons (.ruleD r) .nil))
    rw [with_rules] at this
    exact this
  have e2 : callN T 1000 m i__law_built [bookD { b with rules := [ruleD r] }] [o] = .ok (mdlD ⟨b.names, [r], b.costs, b.asks⟩) [o] := ev_law_built h.c__law_built (by omega) hM (pn_ok ho) (b := { b with rules := [ruleD r] }) (rs := [r]) rfl c1
  have hnl : b.names.length = n := by rw [hb.names, xnames_len]
  have n1 := hb.n1
  have n2 := hb.n2
  simp [inner_k32, forBody, c_law_k32, e1, e2]
  refine some_point_sat h.c__law_some_point (by omega) (by omega) hnl ho fun p o1 hp hps ho1 => ?_
  have hrs : ∀ t ∈ r.row, Sok t ∧ ssz t ≤ 6 := R0.row
  have z0 : ∀ x ∈ r.row.zip p, (Sok x.1 ∧ ssz x.1 ≤ 6) ∧ sz x.2 ≤ 3 := fun x hx => ⟨hrs _ (List.of_mem_zip hx).1, hps _ (List.of_mem_zip hx).2⟩
  have hz : (r.row.zip p).length ≤ 3 := by simp [R0.len, hp]; omega
  have fs : ∀ j, ssz (((r.row.zip p).take j).foldl rstep (0, 0)) ≤ 100 := fun j => by
    have := ssz_reach 6 3 ((r.row.zip p).take j) (0, 0) 1 (fun x hx => ⟨(z0 x (List.mem_of_mem_take hx)).1.2, (z0 x (List.mem_of_mem_take hx)).2⟩) ssz_zero
    have h2 : ((r.row.zip p).take j).length ≤ 3 := by simp; omega
    have h3 : ((r.row.zip p).take j).length * (6 + 3 + 1) ≤ 3 * 10 := Nat.mul_le_mul_right _ h2
    unfold rstep
    omega
  have fo : ∀ j, Sok (((r.row.zip p).take j).foldl rstep (0, 0)) := fun j => rfold_ok _ _ (fun x hx => (z0 x (List.mem_of_mem_take hx)).1.1) Rat.le_refl
  have hrs1 : ∀ t ∈ r.row, Sok t := fun t ht => (hrs t ht).1
  have mo : Sok (reachS r.row p) := reach_ok hrs1
  have ms : ssz (reachS r.row p) ≤ 100 := by
    have := fs (r.row.zip p).length
    rw [List.take_length] at this
    exact this
  have ro : Sok r.right := R0.right.1
  have rs' : ssz r.right ≤ 6 := R0.right.2
  have er : callN T 1000 m i_reach [mdlD ⟨b.names, [r], b.costs, b.asks⟩, .int 0, pt p] [o1] = .ok (sp (reachS r.row p)) [o1] := by
    have := ev_reach (st := [o1]) (m := m) h.c_reach (by omega) hM (M := ⟨b.names, [r], b.costs, b.asks⟩) (i := 0) (by simp) (p := p) (k := 6) (l := 3) (by simp [hnl, hp]) (fun t ht => (hrs t (by simpa using ht)).2) hps (by omega) (by omega) (by omega)
    simpa using this
  have ep : ∀ w, callN T 1000 m i_is_point_of [mdlD ⟨b.names, [r], b.costs, b.asks⟩, .str (Wd.str w), pt p] [o1] = .ok (.bl (decide (0 ≤ roomQ w r p))) [o1] := fun w => by
    have := ev_is_point_of (st := [o1]) (m := m) h.c_is_point_of hm hM w (M := ⟨b.names, [r], b.costs, b.asks⟩) (p := p) (k := 6) (l := 3) (by simp [hnl, hp]) (fun t ht => by
      have : t = r := by simpa using ht
      subst this
      exact ⟨fun t ht => (hrs t ht).2, rs'⟩) hps (by omega) (by omega) (by omega) (by simp)
    simpa [isOf] using this
  have ew : ∀ s : Span, ssz s ≤ 100 → Sok s → callN T 1000 m i_width [sp s] [o1] = .ok (rt (wid s)) [o1] := fun s h1 h2 => ev_width h.c_width (by omega) (by omega) h2
  have em : ∀ s : Span, ssz s ≤ 100 → Sok s → callN T 1000 m i_middle [sp s] [o1] = .ok (rt (mid s)) [o1] := fun s h1 h2 => ev_middle h.c_middle (by omega) (by omega) h2
  have ewi : ∀ s t : Span, ssz s ≤ 100 → ssz t ≤ 100 → Sok s → Sok t → callN T 1000 m i_within [sp s, sp t] [o1] = .ok (.bl (decide (t.1 ≤ s.1 ∧ s.2 ≤ t.2))) [o1] := fun s t h1 h2 h3 h4 => ev_within h.c_within (by omega) (by omega) (by omega) h3 h4
  have ej := ev_joined (st := [o1]) (m := m) h.c_joined (by omega) (s := reachS r.row p) (t := r.right) (by omega) (by omega) mo ro
  have ec := ev_common (st := [o1]) (m := m) h.c_common (by omega) (s := reachS r.row p) (t := r.right) (by omega) (by omega) mo ro
  have el : ∀ a c : Rat, sz a ≤ 100 → sz c ≤ 100 → callN T 1000 m i__law_less [rt a, rt c] [o1] = .ok (.bl (decide (a < c))) [o1] := fun a c h1 h2 => ev_law_less h.c__law_less (by omega) (by omega) (by omega)
  generalize hMM : mdlD ⟨b.names, [r], b.costs, b.asks⟩ = M at *
  refine for_sat (ds := [rowD r.row, pt p]) (l := (r.row.zip p).map fun x => .tup [sp x.1, rt x.2]) (fun j ρ st' => st' = [o1] ∧ ∃ u9 u10, ρ = [some s, some (.loc 0), v2, some (bookD b), some i, some (ruleD r), some M, some (pt p), some (sp (((r.row.zip p).take j).foldl rstep (0, 0))), u9, u10, v11, v12, v13]) (by simp) (fun j ρ st' _ => itList_zipE (by simp) (by simp)) ⟨rfl, v9, v10, by simp [rt01, sp_mk]⟩ ?_ ?_
  · rintro j ρ st' hj ⟨rfl, u9, u10, rfl⟩
    have hj' : j < (r.row.zip p).length := by simpa using hj
    obtain ⟨⟨g1, g2⟩, g3⟩ := z0 _ (List.getElem_mem hj')
    have g4 := fs j
    have g5 := fo j
    rw [List.getElem_map, List.take_succ_eq_append_getElem hj', List.foldl_append]
    generalize (r.row.zip p)[j] = x at *
    generalize ((r.row.zip p).take j).foldl rstep (0, 0) = f at *
    have z5 := ssz_smul (t := (x.2, x.2)) g2 (ssz_mk g3 g3)
    have g6 : Sok (x.2, x.2) := Rat.le_refl
    simp [sp_mk, ev_times_spans h.c_times_spans (show 6 ≤ m by omega) (show ssz x.1 ≤ 2000 by omega) (show ssz (x.2, x.2) ≤ 2000 from ssz_mk (by omega) (by omega)) g1 g6, ev_plus_spans h.c_plus_spans (show 6 ≤ m by omega) (show ssz f ≤ 4000 by omega) (show ssz (smul x.1 (x.2, x.2)) ≤ 4000 by omega) g5 (smul_ok g1 x.2), rstep]
  · rintro ρ st' ⟨rfl, u9, u10, rfl⟩
    rw [List.length_map, List.take_length, ← reachS_eq]
    have l1 : ∀ (a c : Option D), ev T (callN T 1000 m) (.lc false [9, 10] (.call i__law_times [.call i_width [.var 9], .call i__law_size [.var 10]]) (.tup [.nm 9, .nm 10]) .zip [.ix (.var 5) (.lit (.int 1)), .var 7] []) [some s, some (.loc 0), v2, some (bookD b), some i, some (ruleD r), some M, some (pt p), some (sp (reachS r.row p)), a, c, v11, v12, v13] [o1] = .ok (.lst ((r.row.zip p).map fun x => rt (wid x.1 * x.2.abs))) [o1] := fun a c =>
      lc_pure (xs := r.row.zip p) (enc := fun x => .tup [sp x.1, rt x.2]) _ (ds := [rowD r.row, pt p]) (by simp) (itList_zipE (by simp) (by simp)) (Nat.le_trans hz (by decide)) (fun x hx => by
        obtain ⟨⟨g1, g2⟩, g3⟩ := z0 x hx
        have y1 := sz_wid g2
        have y2 := sz_abs x.2
        simp [turnR, wipeD, ew x.1 (by omega) g1, ev_law_size h.c__law_size (show 1 ≤ m by omega), ev_law_times h.c__law_times (show 3 ≤ m by omega) (show sz (wid x.1) ≤ 4000 by omega) (show sz x.2.abs ≤ 4000 by omega)])
    have e5 := ev_law_sum (st := [o1]) (m := m) h.c__law_sum (by omega) (l := (r.row.zip p).map fun x => wid x.1 * x.2.abs) (k := 20) (fun q hq => by
      obtain ⟨x, hx, rfl⟩ := List.mem_map.mp hq
      obtain ⟨⟨g1, g2⟩, g3⟩ := z0 x hx
      have y1 := sz_wid g2
      have y2 := sz_abs x.2
      have y3 := sz_mul (wid x.1) x.2.abs
      omega) (by rw [List.length_map]; omega) (by omega)
    rw [List.map_map] at e5
    have e5' : callN T 1000 m i__law_sum [.lst ((r.row.zip p).map fun x => rt (wid x.1 * x.2.abs))] [o1] = .ok (rt (wid (reachS r.row p))) [o1] := by
      rw [reach_wid hrs1]; exact e5
    have l2 : ∀ (a c : Option D), ev T (callN T 1000 m) (.lc false [9] (.call i_middle [.var 9]) (.nm 9) .one [.ix (.var 5) (.lit (.int 1))] []) [some s, some (.loc 0), v2, some (bookD b), some i, some (ruleD r), some M, some (pt p), some (sp (reachS r.row p)), a, c, v11, v12, v13] [o1] = .ok (.lst (r.row.map fun x => rt (mid x))) [o1] := fun a c =>
      lc_pure (xs := r.row) (enc := sp) _ (ds := [rowD r.row]) (by simp) (by simp) (Nat.le_trans (by rw [R0.len]; omega) (show 3 ≤ LIM by decide)) (fun x hx => by
        obtain ⟨g1, g2⟩ := hrs x hx
        simp [turnR, wipeD, em x (by omega) g1])
    have e6 := ev_law_dot (st := [o1]) (m := m) h.c__law_dot (by omega) (a := .lst (r.row.map fun x => rt (mid x))) (x := r.row.map mid) (y := p) (by simp) (k := 20) (l := 3) (fun q hq => by
      obtain ⟨x, hx, rfl⟩ := List.mem_map.mp hq
      have := sz_mid (hrs x hx).2
      omega) hps (by omega) (by omega) (by omega)
    have e6' : callN T 1000 m i__law_dot [.lst (r.row.map fun x => rt (mid x)), pt p] [o1] = .ok (rt (mid (reachS r.row p))) [o1] := by
      rw [e6, reach_mid hrs1]
      have : ((r.row.map mid).zip p).map (fun p => p.1 * p.2) = (r.row.zip p).map fun x => mid x.1 * x.2 := by rw [List.zip_map_left, List.map_map]; rfl
      rw [this]
    have lp : ∀ (a c : Option D) (f : Wd → Bool), (∀ w, decide (0 ≤ roomQ w r p) = f w) → ev T (callN T 1000 m) (.lc false [13] (.call i_is_point_of [.var 6, .var 13, .var 7]) (.nm 13) .one [.tup [.lit (.str "some"), .lit (.str "held"), .lit (.str "bears"), .lit (.str "steers")]] []) [some s, some (.loc 0), v2, some (bookD b), some i, some (ruleD r), some M, some (pt p), some (sp (reachS r.row p)), u9, u10, a, c, v13] [o1] = .ok (.lst ([Wd.some, .held, .bears, .steers].map fun w => .bl (f w))) [o1] := fun a c f hf =>
      lc_pure (xs := [Wd.some, .held, .bears, .steers]) (enc := fun w => .str w.str) _ (ds := [.tup ([Wd.some, .held, .bears, .steers].map fun w => .str w.str)]) (by simp [Wd.str]) (by simp) (by simp) (fun w _ => by simp [turnR, wipeD, ep w, hf w])
    have w1 : decide (min (reachS r.row p).1 r.right.1 ≤ (reachS r.row p).1 ∧ (reachS r.row p).2 ≤ max (reachS r.row p).2 r.right.2) = true := decide_eq_true (by rw [Rat.min_def, Rat.max_def]; grind)
    have w2 : decide (min (reachS r.row p).1 r.right.1 ≤ r.right.1 ∧ r.right.2 ≤ max (reachS r.row p).2 r.right.2) = true := decide_eq_true (by rw [Rat.min_def, Rat.max_def]; grind)
    have j1 := sz_min (reachS r.row p).1 r.right.1
    have j2 := sz_max (reachS r.row p).2 r.right.2
    have a1 := ssz_1 ms
    have a2 := ssz_2 ms
    have a3 := ssz_1 rs'
    have a4 := ssz_2 rs'
    have jo : Sok (min (reachS r.row p).1 r.right.1, max (reachS r.row p).2 r.right.2) := by
      unfold Sok at mo ro ⊢
      rw [Rat.min_def, Rat.max_def]; grind
    have js : ssz (min (reachS r.row p).1 r.right.1, max (reachS r.row p).2 r.right.2) ≤ 100 := ssz_mk (by omega) (by omega)
    have v1 := ewi _ _ ms js mo jo
    have v2' := ewi _ _ (show ssz r.right ≤ 100 by omega) js ro jo
    dsimp only at v1 v2'
    rw [w1] at v1
    rw [w2] at v2'
    have x1 := ewi _ _ ms (show ssz r.right ≤ 100 by omega) mo ro
    have x2 := ewi _ _ (show ssz r.right ≤ 100 by omega) ms ro mo
    simp [er, ew _ ms mo, l1, e5', em _ ms mo, l2, e6']
    cases hq : r.eq with
    | true =>
      have lp' := fun a c => lp a c (room4 (reachS r.row p) r.right) fun w => room_is w mo ro hq
      simp only [List.map_cons, List.map_nil] at lp'
      have cn : isNon (commonD (reachS r.row p) r.right) = decide (min (reachS r.row p).2 r.right.2 < max (reachS r.row p).1 r.right.1) := by
        unfold commonD
        split <;> simp [*]
      have rr : [room4 (reachS r.row p) r.right .some, room4 (reachS r.row p) r.right .held, room4 (reachS r.row p) r.right .bears, room4 (reachS r.row p) r.right .steers] = [!decide (min (reachS r.row p).2 r.right.2 < max (reachS r.row p).1 r.right.1), decide (wid (reachS r.row p) = 0) && decide (reachS r.row p = r.right), decide (r.right.1 ≤ (reachS r.row p).1) && decide ((reachS r.row p).2 ≤ r.right.2), decide ((reachS r.row p).1 ≤ r.right.1) && decide (r.right.2 ≤ (reachS r.row p).2)] := rfl
      have eqb := fun st => bls_eq (st := st) [room4 (reachS r.row p) r.right .some, room4 (reachS r.row p) r.right .held, room4 (reachS r.row p) r.right .bears, room4 (reachS r.row p) r.right .steers] [!decide (min (reachS r.row p).2 r.right.2 < max (reachS r.row p).1 r.right.1), decide (wid (reachS r.row p) = 0) && decide (reachS r.row p = r.right), decide (r.right.1 ≤ (reachS r.row p).1) && decide ((reachS r.row p).2 ≤ r.right.2), decide ((reachS r.row p).1 ≤ r.right.1) && decide (r.right.2 ≤ (reachS r.row p).2)]
      rw [decide_eq_true rr] at eqb
      simp only [List.map_cons, List.map_nil] at eqb
      simp [ec, cn, rt01, x1, x2, lp', v1, v2', ej, ew _ ms mo, iteR_and, eqb, q, ho1]
    | false =>
      have lp' := fun a c => lp a c (room4m (reachS r.row p) r.right) fun w => room_most w mo ro hq
      simp only [List.map_cons, List.map_nil] at lp'
      have eqb := fun st => bls_eq (st := st) [room4m (reachS r.row p) r.right .some, room4m (reachS r.row p) r.right .held, room4m (reachS r.row p) r.right .bears, room4m (reachS r.row p) r.right .steers] [room4m (reachS r.row p) r.right .some, room4m (reachS r.row p) r.right .held, room4m (reachS r.row p) r.right .bears, room4m (reachS r.row p) r.right .steers]
      simp only [List.map_cons, List.map_nil, decide_true, room4m] at eqb
      simp only [room4m] at lp'
      have y1 := el _ _ (show sz r.right.2 ≤ 100 by omega) a1
      have y2 := el _ _ (show sz r.right.1 ≤ 100 by omega) a2
      have y3 := el _ _ (show sz r.right.2 ≤ 100 by omega) a2
      have y4 := el _ _ (show sz r.right.1 ≤ 100 by omega) a1
      simp [y1, y2, y3, y4, lp', v1, v2', ej, eqb, q, ho1]
theorem says_k32 (h : H_law_k32 T) (hM : HC T k_Model kc_Model) (ns : List Int) (hns : ns.length ≤ 63) : ∃ st, callN T 1000 24 i_law_k32 [.ro (ns.map D.int)] [] = .ok (.bl true) st := by
  have key : (callN T 1000 24 i_law_k32 [.ro (ns.map D.int)] []).sat fun d _ => d = .bl true := by
    refine callN_sat (n := 23) (by omega) h.look rfl fun m hm => ?_
    simp [d_law_k32, c_law_k32]
    refine pen_sat h.c__law_pen (by omega) hns fun o ho => ?_
    refine for_sat (ds := [.int (3 : Nat)]) (l := (List.range 3).map fun i : Nat => D.int (i : Int)) (fun j ρ st' => ∃ o v2 v3 v4 v5 v6 v7 v8 v9 v10 v11 v12 v13, st' = [o] ∧ Pn (100000 * (3 - j)) o ∧ ρ = [some (.ro (ns.map D.int)), some (.loc 0), v2, v3, v4, v5, v6, v7, v8, v9, v10, v11, v12, v13]) (by simp) (fun j ρ st' _ => itList_rangeN (by omega)) ⟨o, none, none, none, none, none, none, none, none, none, none, none, none, rfl, ho.mono (by omega), rfl⟩ ?_ ?_
    · rintro j ρ st' hj ⟨o1, v2, v3, v4, v5, v6, v7, v8, v9, v10, v11, v12, v13, rfl, ho1, rfl⟩
      simp at hj
      have hj3 : 100000 * (3 - j) = 100000 * (3 - (j + 1)) + 99000 + 1000 := by omega
      rw [hj3] at ho1
      simp
      refine rules_sat (size := 3) (many := 3) h.c__law_rules (by omega) (by omega) (by omega) (by omega) (by omega) ho1 fun b n rs o2 hb _ _ ho2 => ?_
      have hrl := hb.rs2
      have hrules := hb.rules
      refine for_sat (ds := [.lst (rs.map ruleD)]) (l := (rs.map ruleD |> enumL)) (fun i ρ st' => ∃ o v4 v5 v6 v7 v8 v9 v10 v11 v12 v13, st' = [o] ∧ Pn (100000 * (3 - (j + 1)) + 1000 * (3 - i)) o ∧ ρ = [some (.ro (ns.map D.int)), some (.loc 0), some (.int j), some (bookD b), v4, v5, v6, v7, v8, v9, v10, v11, v12, v13]) (by simp [hrules]) (by simp) ⟨o2, v4, v5, v6, v7, v8, v9, v10, v11, v12, v13, rfl, ho2.mono (by omega), rfl⟩ ?_ ?_
      · rintro i ρ st' hi ⟨o3, v4, v5, v6, v7, v8, v9, v10, v11, v12, v13, rfl, ho3, rfl⟩
        have hi' : i < rs.length := by simpa [enumL] using hi
        have e : (rs.map ruleD |> enumL)[i] = .tup [.int i, ruleD rs[i]] := by simp [enumL]
        rw [e]
        refine turn_k32 h hM (by omega) hb (List.getElem_mem hi') (ho3.mono (show 100000 * (3 - (j + 1)) + 1000 * (3 - (i + 1)) + 30 ≤ _ by omega)) _ _ _ _ _ _ _ _ _ _ _ _ _ fun o4 u6 u7 u8 u9 u10 u11 u12 u13 ho4 => ?_
        exact ⟨o4, _, _, u6, u7, u8, u9, u10, u11, u12, u13, rfl, ho4, rfl⟩
      · rintro ρ st' ⟨o3, v4, v5, v6, v7, v8, v9, v10, v11, v12, v13, rfl, ho3, rfl⟩
        simp
        exact ho3.mono (by omega)
    · rintro ρ st' ⟨o1, v2, v3, v4, v5, v6, v7, v8, v9, v10, v11, v12, v13, rfl, ho1, rfl⟩
      simp
      exact R.sat_eq (show leave true 0 (.bl true) [o1] = .ok (.bl true) [] from rfl) rfl
  obtain ⟨⟨d, st, e, rfl⟩⟩ := key
  exact ⟨st, e⟩
end
end G

set_option linter.all false
set_option maxRecDepth 100000
set_option maxHeartbeats 2000000
/-! V4: kinds of points, choices found. -/
namespace G
open PySem L2
def wd (w : Wd) : D := .str w.str
theorem wd_ok : EncOk wd 0 := ⟨fun w => .str w.str, fun st n a h => by cases n <;> rfl, fun a => ⟨by cases a <;> decide +kernel, by simp [PyData.depth]⟩, fun a b => by cases a <;> cases b <;> decide +kernel⟩
theorem wds_ok : EncOk (fun l : List Wd => D.tup (l.map wd)) 1 := EncOk.tup wd_ok
def allW : List Wd := [.some, .held, .bears, .steers]
def kindsW (M : Mdl) (p : List Rat) : List Wd := allW.filter fun w => isOf w M p
section
variable {T : Tab} {st : Store} {m : Nat}
theorem wds_eq (a b : List Wd) : eqD st (.tup (a.map wd)) (.tup (b.map wd)) = some (decide (a = b)) := wds_ok.eq (by decide) st a b
theorem filterMap_if {α β : Type} (p : α → Bool) (f : α → β) (l : List α) : l.filterMap (fun x => if p x = true then some (f x) else none) = (l.filter p).map f := by
  induction l with
  | nil => rfl
  | cons x l ih => by_cases h : p x = true <;> simp [h, ih]
theorem ev_kinds_of (h : H_kinds_of T) (hm : 7 ≤ m) (hM : HC T k_Model kc_Model) {M : Mdl} {p : List Rat} {k l : Nat} (hnn : M.names.length = p.length) (hr : ∀ r ∈ M.rules, RuleSz r k) (hp : ∀ q ∈ p, sz q ≤ l) (hk : k ≤ 100) (hl : l ≤ 500) (hb : p.length * (k + l + 1) ≤ 400) (hn : M.rules.length ≤ LIM) : callN T 1000 m i_kinds_of [mdlD M, pt p] st = .ok (.tup ((kindsW M p).map wd)) st := by
  refine callN_do hm h.look rfl fun n hn' => ?_
  have hlen : p.length ≤ 400 := Nat.le_trans (Nat.le_mul_of_pos_right _ (by omega)) hb
  have e1 := ev_point_from (st := st) (m := n) h.c_point_from (by omega) hM hnn (fun q hq => Nat.le_trans (hp q hq) (by omega)) (Nat.le_trans hlen (by decide))
  have l1 : ev T (callN T 1000 n) (.lc false [3] (.var 3) (.nm 3) .one [.lit (.tup [.str "some", .str "held", .str "bears", .str "steers"])] [.call i_is_of [.var 0, .var 3, .var 2]]) [some (mdlD M), some (pt p), some (pt p), none] st = .ok (.lst (allW.filterMap fun w => if isOf w M p = true then some (wd w) else none)) st :=
    lci_pure (xs := allW) (enc := wd) _ (ds := [.tup [.str "some", .str "held", .str "bears", .str "steers"]]) (by simp) (by simp [allW, wd, Wd.str]) (by simp [allW]) (fun w _ => by
      have e := ev_is_of (st := st) (m := n) h.c_is_of hn' hM w hr hp hk hl hb hn
      simp [turnI, wipeD, wd, e]
      cases isOf w M p <;> simp)
  rw [filterMap_if] at l1
  simp [d_kinds_of, c_kinds_of, ev_need_model h.c_need_model (show 1 ≤ n by omega) hM, e1, l1, kindsW]
theorem ev_room (h : H_room T) (hm : 6 ≤ m) (hM : HC T k_Model kc_Model) (w : Wd) {M : Mdl} {i : Nat} (hi : i < M.rules.length) {p : List Rat} {k l : Nat} (hnn : M.names.length = p.length) (hr : RuleSz M.rules[i] k) (hp : ∀ q ∈ p, sz q ≤ l) (hk : k ≤ 100) (hl : l ≤ 500) (hb : p.length * (k + l + 1) ≤ 400) : callN T 1000 m i_room [mdlD M, .str w.str, .int i, pt p] st = .ok (rt (roomQ w M.rules[i] p)) st := by
  refine callN_do hm h.look rfl fun n hn' => ?_
  have hlen : p.length ≤ 400 := Nat.le_trans (Nat.le_mul_of_pos_right _ (by omega)) hb
  have e1 := ev_point_from (st := st) (m := n) h.c_point_from (by omega) hM hnn (fun q hq => Nat.le_trans (hp q hq) (by omega)) (Nat.le_trans hlen (by decide))
  simp [d_room, c_room, ev_need_model h.c_need_model (show 1 ≤ n by omega) hM, ev_need_word h.c_need_word (show 1 ≤ n by omega), attr_rules hM, ev_need_number h.c_need_number (show 2 ≤ n by omega) (l := M.rules.map ruleD) (i := i) (by omega) (by simpa using hi), ixD_tup, atI_nat (l := M.rules.map ruleD) (n := i) (by simpa using hi), e1, ev_room_by h.c_room_by hn' w hr hp hk hl hb]
/-! ### rows at ends, dots -/
def endRow (row : List Span) (p : List Rat) (high : Bool) : List Rat := (row.zip p).map fun x => if decide (0 < x.2) = high then x.1.2 else x.1.1
theorem bl_eq (a b : Bool) : eqD st (.bl a) (.bl b) = some (decide (a = b)) := by
  cases a <;> cases b <;> rfl
theorem ev_end_row (h : H_end_row T) (hm : 1 ≤ m) {r : Rule} {p : List Rat} (hn : p.length ≤ LIM) (high : Bool) : callN T 1000 m i_end_row [ruleD r, pt p, .bl high] st = .ok (pt (endRow r.row p high)) st := by
  refine callN_do hm h.look rfl fun n hn' => ?_
  simp [d_end_row, c_end_row]
  rw [lc_pure (xs := r.row.zip p) (enc := fun x => .tup [sp x.1, rt x.2]) (fun x => rt (if decide (0 < x.2) = high then x.1.2 else x.1.1)) (ds := [rowD r.row, pt p]) (by simp) (itList_zipE (by simp) (by simp)) (Nat.le_trans (by simp; omega) hn) (fun x _ => by
    have e : decide (0 < x.2.num) = decide (0 < x.2) := by
      rw [decide_eq_decide]
      have h1 := Rat.lt_iff 0 x.2
      simp at h1
      exact h1.symm
    by_cases c : decide (0 < x.2) = high
    · simp [turnR, wipeD, bl_eq, e, c]
    · simp [turnR, wipeD, bl_eq, e, c])]
  simp [pt, endRow]
def qdot (a b : List Rat) : Rat := qsum ((a.zip b).map fun p => p.1 * p.2)
theorem num_ne (q : Rat) : decide (q.num = 0) = decide (q = 0) := by rw [decide_eq_decide]; exact Rat.num_eq_zero
theorem qfold_zero (x : Rat × Rat) (f : Rat) (h : x.1 = 0 ∨ x.2 = 0) : f + x.1 * x.2 = f := by
  rcases h with h | h <;> rw [h] <;> grind
theorem sz_dotfold {a b : List Rat} {k l : Nat} (ha : ∀ q ∈ a, sz q ≤ k) (hb : ∀ q ∈ b, sz q ≤ l) (j : Nat) : sz ((((a.zip b).take j).map fun p => p.1 * p.2).foldl (· + ·) 0) ≤ 1 + b.length * (k + l + 1) := by
  have h1 : ∀ q ∈ (a.zip b).map (fun p => p.1 * p.2), sz q ≤ k + l := fun q hq => by
    obtain ⟨x, hx, rfl⟩ := List.mem_map.mp hq
    have h1 := ha _ (List.of_mem_zip hx).1
    have h2 := hb _ (List.of_mem_zip hx).2
    have := sz_mul x.1 x.2
    omega
  have h2 := qsum_take (j := j) h1
  rw [← List.map_take] at h2
  have h3 : ((a.zip b).map fun p => p.1 * p.2).length * (k + l + 1) ≤ b.length * (k + l + 1) := Nat.mul_le_mul_right _ (by simp; omega)
  omega
theorem ev_dot_of (h : H_dot_of T) (hm : 3 ≤ m) {a b : List Rat} {k l : Nat} (ha : ∀ q ∈ a, sz q ≤ k) (hb : ∀ q ∈ b, sz q ≤ l) (hk : k ≤ 1000) (hl : l ≤ 1000) (hn : b.length * (k + l + 1) ≤ 3000) : callN T 1000 m i_dot_of [pt a, pt b] st = .ok (rt (qdot a b)) st := by
  refine R.eq_of_sat (callN_sat hm h.look rfl fun n hn' => ?_)
  simp [d_dot_of, c_dot_of]
  refine for_sat (ds := [pt a, pt b]) (l := (a.zip b).map fun x => .tup [rt x.1, rt x.2]) (fun j ρ st' => st' = st ∧ ∃ u v, ρ = [some (pt a), some (pt b), some (rt ((((a.zip b).take j).map fun p => p.1 * p.2).foldl (· + ·) 0)), u, v]) (by simp) (fun j ρ st' _ => itList_zipE (by simp) (by simp)) ⟨rfl, none, none, by simp [rt01]⟩ ?_ ?_
  · rintro j ρ st' hj ⟨rfl, u, v, rfl⟩
    have hj' : j < (a.zip b).length := by simpa using hj
    have g1 : sz (a.zip b)[j].1 ≤ k := ha _ (List.of_mem_zip (List.getElem_mem hj')).1
    have g2 : sz (a.zip b)[j].2 ≤ l := hb _ (List.of_mem_zip (List.getElem_mem hj')).2
    have g3 := sz_dotfold ha hb j
    rw [List.getElem_map, List.take_succ_eq_append_getElem hj', List.map_append, List.foldl_append]
    simp only [List.map_cons, List.map_nil, List.foldl_cons, List.foldl_nil]
    generalize (a.zip b)[j] = x at *
    generalize (((a.zip b).take j).map fun p => p.1 * p.2).foldl (· + ·) 0 = f at *
    have g4 := sz_mul x.1 x.2
    by_cases c1 : x.1 = 0
    · rw [qfold_zero x f (.inl c1)]
      simp [c1, iteR_b]
    · by_cases c2 : x.2 = 0
      · rw [qfold_zero x f (.inr c2)]
        simp [num_ne, c1, c2, iteR_b]
      · simp [num_ne, c1, c2, ev_scaled h.c_scaled (show 2 ≤ n by omega) (show sz x.1 ≤ 4000 by omega) (show sz x.2 ≤ 4000 by omega), ev_summed h.c_summed (show 2 ≤ n by omega) (show sz f ≤ 4000 by omega) (show sz (x.1 * x.2) ≤ 4000 by omega)]
  · rintro ρ st' ⟨rfl, u, v, rfl⟩
    rw [List.length_map, List.take_length]
    simp [qdot, qsum]
theorem rt_inv_pos {q : Rat} (h : 0 < q) : D.tup [.int q.den, .int q.num] = rt q⁻¹ := by
  have hn : 0 < q.num := by
    have h1 := Rat.lt_iff 0 q
    simp at h1
    exact h1.mp h
  refine rt_lit _ _ _ ⟨?_, ?_⟩
  · rw [Rat.num_inv, Int.sign_eq_one_of_pos hn]; omega
  · rw [Rat.den_inv, if_neg (by omega)]; omega
theorem ev_turned_ratio (h : H_turned_ratio T) (hm : 1 ≤ m) {q : Rat} (hq : 0 < q) : callN T 1000 m i_turned_ratio [rt q] st = .ok (rt q⁻¹) st := by
  refine callN_do hm h.look rfl fun n hn => ?_
  have hn : 0 < q.num := by
    have h1 := Rat.lt_iff 0 q
    simp at h1
    exact h1.mp hq
  simp [d_turned_ratio, c_turned_ratio, hn, rt_inv_pos hq]
theorem endRow_sz {row : List Span} {p : List Rat} {k : Nat} (h : ∀ s ∈ row, ssz s ≤ k) (high : Bool) : ∀ q ∈ endRow row p high, sz q ≤ k := fun q hq => by
  obtain ⟨x, hx, rfl⟩ := List.mem_map.mp hq
  have := h _ (List.of_mem_zip hx).1
  split
  · exact ssz_2 this
  · exact ssz_1 this
theorem qdot_sz {a b : List Rat} {k l : Nat} (ha : ∀ q ∈ a, sz q ≤ k) (hb : ∀ q ∈ b, sz q ≤ l) : sz (qdot a b) ≤ 1 + b.length * (k + l + 1) := by
  have := sz_dotfold ha hb (a.zip b).length
  rw [List.take_length] at this
  exact this
theorem pt_map {α : Type} (f : α → Rat) (l : List α) : pt (l.map f) = .tup (l.map fun x => rt (f x)) := by rw [pt, List.map_map]; rfl
/-- the row that comes to a sum -/
def rowFor (row : List Span) (p : List Rat) (due : Rat) : List Rat :=
  let lo := endRow row p false
  let hi := endRow row p true
  if qdot lo p = qdot hi p then lo else (lo.zip hi).map fun x => x.1 + (due - qdot lo p) * (qdot hi p - qdot lo p)⁻¹ * (x.2 - x.1)
theorem ev_row_for (h : H_row_for T) (hm : 4 ≤ m) {r : Rule} {p : List Rat} {k l : Nat} {due : Rat} (hr : ∀ s ∈ r.row, ssz s ≤ k) (hp : ∀ q ∈ p, sz q ≤ l) (hk : k ≤ 300) (hl : l ≤ 300) (hn : p.length * (k + l + 1) ≤ 300) (hd : sz due ≤ 300) (hlt : qdot (endRow r.row p false) p ≤ qdot (endRow r.row p true) p) : callN T 1000 m i_row_for [ruleD r, pt p, rt due] st = .ok (pt (rowFor r.row p due)) st := by
  refine callN_do hm h.look rfl fun n hn' => ?_
  have hlen : p.length ≤ 300 := Nat.le_trans (Nat.le_mul_of_pos_right _ (by omega)) hn
  have e1 := fun b => ev_end_row (st := st) (m := n) (r := r) (p := p) h.c_end_row (by omega) (Nat.le_trans hlen (by decide)) b
  have sl := endRow_sz (p := p) hr false
  have sh := endRow_sz (p := p) hr true
  have e2 := ev_dot_of (st := st) (m := n) h.c_dot_of (by omega) sl hp (by omega) (by omega) (by omega)
  have e3 := ev_dot_of (st := st) (m := n) h.c_dot_of (by omega) sh hp (by omega) (by omega) (by omega)
  have z1 := qdot_sz sl hp
  have z2 := qdot_sz sh hp
  unfold rowFor
  generalize hlo : endRow r.row p false = lo at *
  generalize hhi : endRow r.row p true = hi at *
  by_cases c : qdot lo p = qdot hi p
  · simp [d_row_for, c_row_for, e1, hlo, hhi, e2, e3, c]
  · simp only [if_neg c]
    rw [pt_map]
    have hpos : 0 < qdot hi p - qdot lo p := by grind
    have y1 := sz_sub due (qdot lo p)
    have y2 := sz_sub (qdot hi p) (qdot lo p)
    have y3 := sz_inv (qdot hi p - qdot lo p)
    have y4 := sz_mul (due - qdot lo p) (qdot hi p - qdot lo p)⁻¹
    generalize hsh : (due - qdot lo p) * (qdot hi p - qdot lo p)⁻¹ = share at *
    have l1 : ∀ u v, ev T (callN T 1000 n) (.lc false [8, 9] (.call i_summed [.var 8, .call i_scaled [.var 7, .call i_lessened [.var 9, .var 8]]]) (.tup [.nm 8, .nm 9]) .zip [.var 3, .var 4] []) [some (ruleD r), some (pt p), some (rt due), some (pt lo), some (pt hi), some (rt (qdot lo p)), some (rt (qdot hi p)), some (rt share), u, v] st = .ok (.lst ((lo.zip hi).map fun x => rt (x.1 + share * (x.2 - x.1)))) st := fun u v =>
      lc_pure (xs := lo.zip hi) (enc := fun x => .tup [rt x.1, rt x.2]) _ (ds := [pt lo, pt hi]) (by simp) (itList_zipE (by simp) (by simp)) (Nat.le_trans (by rw [← hlo]; simp [endRow]; omega) (show 300 ≤ LIM by decide)) (fun x hx => by
        have g1 := sl _ (List.of_mem_zip hx).1
        have g2 := sh _ (List.of_mem_zip hx).2
        have g3 := sz_sub x.2 x.1
        have g4 := sz_mul share (x.2 - x.1)
        simp [turnR, wipeD, ev_lessened h.c_lessened (show 2 ≤ n by omega) (show sz x.2 ≤ 4000 by omega) (show sz x.1 ≤ 4000 by omega), ev_scaled h.c_scaled (show 2 ≤ n by omega) (show sz share ≤ 4000 by omega) (show sz (x.2 - x.1) ≤ 4000 by omega), ev_summed h.c_summed (show 2 ≤ n by omega) (show sz x.1 ≤ 4000 by omega) (show sz (share * (x.2 - x.1)) ≤ 4000 by omega)])
    have e4 := ev_scaled (st := st) (m := n) h.c_scaled (by omega) (a := due - qdot lo p) (b := (qdot hi p - qdot lo p)⁻¹) (by omega) (by omega)
    rw [hsh] at e4
    simp [d_row_for, c_row_for, e1, hlo, hhi, e2, e3, c, ev_lessened h.c_lessened (show 2 ≤ n by omega) (show sz due ≤ 4000 by omega) (show sz (qdot lo p) ≤ 4000 by omega), ev_lessened h.c_lessened (show 2 ≤ n by omega) (show sz (qdot hi p) ≤ 4000 by omega) (show sz (qdot lo p) ≤ 4000 by omega), ev_turned_ratio h.c_turned_ratio (show 1 ≤ n by omega) hpos, e4, l1]
theorem zip_again {α β γ : Type} (f : α × β → γ) : ∀ (a : List α) (b : List β), ((a.zip b).map f).zip b = (a.zip b).map fun x => (f x, x.2)
  | [], _ => by simp
  | _ :: _, [] => by simp
  | x :: a, y :: b => by simp [zip_again f a b]
theorem fold_pair {α : Type} (f g : α → Rat) : ∀ (l : List α) (s : Span), l.foldl (fun s x => (s.1 + f x, s.2 + g x)) s = ((l.map f).foldl (· + ·) s.1, (l.map g).foldl (· + ·) s.2)
  | [], s => rfl
  | x :: l, s => by simp only [List.foldl_cons, List.map_cons]; exact fold_pair f g l _
theorem reach_ends {row : List Span} {p : List Rat} (h : ∀ s ∈ row, Sok s) : reachS row p = (qdot (endRow row p false) p, qdot (endRow row p true) p) := by
  unfold reachS qdot endRow qsum
  rw [zip_again, zip_again, List.map_map, List.map_map]
  have e := fold_pair (fun x : Span × Rat => (smul x.1 (x.2, x.2)).1) (fun x => (smul x.1 (x.2, x.2)).2) (row.zip p) (0, 0)
  refine e.trans ?_
  refine Prod.ext (congrArg (fun l => List.foldl (· + ·) 0 l) ?_) (congrArg (fun l => List.foldl (· + ·) 0 l) ?_)
  · refine List.map_congr_left fun x hx => ?_
    have := h _ (List.of_mem_zip hx).1
    simp only [smul_pt this, Function.comp]
    by_cases c : 0 < x.2
    · have : 0 ≤ x.2 := by grind
      simp [c, this]
    · by_cases c0 : x.2 = 0
      · simp [c0]
      · have : ¬ 0 ≤ x.2 := by grind
        simp [c, this]
  · refine List.map_congr_left fun x hx => ?_
    have := h _ (List.of_mem_zip hx).1
    simp only [smul_pt this, Function.comp]
    by_cases c : 0 < x.2
    · have : 0 ≤ x.2 := by grind
      simp [c, this]
    · by_cases c0 : x.2 = 0
      · simp [c0]
      · have : ¬ 0 ≤ x.2 := by grind
        simp [c, this]
def pairFor (r : Rule) (p : List Rat) : Option (List Rat × Rat) :=
  if r.eq then (if min (reachS r.row p).2 r.right.2 < max (reachS r.row p).1 r.right.1 then none else some (rowFor r.row p (max (reachS r.row p).1 r.right.1), max (reachS r.row p).1 r.right.1))
  else if r.right.2 < (reachS r.row p).1 then none else some (endRow r.row p false, r.right.2)
def pairD : Option (List Rat × Rat) → D
  | none => .non
  | some x => .tup [pt x.1, rt x.2]
theorem commonD_eq (s t : Span) : commonD s t = if min s.2 t.2 < max s.1 t.1 then .non else sp (max s.1 t.1, min s.2 t.2) := rfl
theorem ev_pair_for (h : H_pair_for T) (hm : 5 ≤ m) {r : Rule} {p : List Rat} {k l : Nat} (hr : RuleSz r k) (hp : ∀ q ∈ p, sz q ≤ l) (hk : k ≤ 90) (hl : l ≤ 300) (hn : p.length * (k + l + 1) ≤ 200) (ho : ∀ s ∈ r.row, Sok s) : callN T 1000 m i_pair_for [ruleD r, pt p] st = .ok (pairD (pairFor r p)) st := by
  refine callN_do hm h.look rfl fun n hn' => ?_
  have hlen : p.length ≤ 300 := Nat.le_trans (Nat.le_mul_of_pos_right _ (by omega)) (show p.length * (k + l + 1) ≤ 300 by omega)
  have z0 := ssz_reachS hr.1 hp
  have e1 := ev_reach_by (st := st) (m := n) h.c_reach_by (by omega) hr.1 hp (by omega) (by omega) (by omega)
  have z1 := ssz_1 z0
  have z2 := ssz_2 z0
  have z3 := ssz_1 hr.2
  have z4 := ssz_2 hr.2
  have z5 := sz_max (reachS r.row p).1 r.right.1
  have e2 := ev_common_by (st := st) (m := n) h.c_common_by (by omega) (s := reachS r.row p) (t := r.right) (by omega) (Nat.le_trans hr.2 (by omega))
  have hlt : qdot (endRow r.row p false) p ≤ qdot (endRow r.row p true) p := by
    have := reach_ok (p := p) ho
    rw [reach_ends ho] at this
    exact this
  have e3 := ev_row_for (st := st) (m := n) h.c_row_for (by omega) (r := r) (p := p) (due := max (reachS r.row p).1 r.right.1) hr.1 hp (by omega) (by omega) (by omega) (by omega) hlt
  have e4 := ev_end_row (st := st) (m := n) (r := r) (p := p) h.c_end_row (by omega) (Nat.le_trans hlen (by decide)) false
  unfold pairFor
  rw [commonD_eq] at e2
  cases hq : r.eq with
  | true =>
    by_cases c : min (reachS r.row p).2 r.right.2 < max (reachS r.row p).1 r.right.1
    · rw [if_pos c] at e2
      simp [d_pair_for, c_pair_for, e1, hq, e2, c, pairD]
    · rw [if_neg c] at e2
      simp [d_pair_for, c_pair_for, e1, hq, e2, c, pairD, e3]
  | false =>
    have e5 := ev_below (st := st) (m := n) h.c_below (by omega) (a := r.right.2) (b := (reachS r.row p).1) (by omega) (by omega)
    by_cases c : r.right.2 < (reachS r.row p).1
    · simp [d_pair_for, c_pair_for, e1, hq, e5, c, pairD]
    · simp [d_pair_for, c_pair_for, e1, hq, e5, c, pairD, e4]
def choiceD (x : List (List Rat × Rat)) : D := .tup [.tup (x.map fun y => pt y.1), pt (x.map (·.2))]
theorem ev_split (h : H_split T) (hm : 1 ≤ m) {x : List (List Rat × Rat)} (hn : x.length ≤ LIM) : callN T 1000 m i_split [.lst (x.map fun y => pairD (some y))] st = .ok (choiceD x) st := by
  refine callN_do hm h.look rfl fun n hn' => ?_
  have l1 : ∀ u v, ev T (callN T 1000 n) (.lc false [1, 2] (.var 1) (.tup [.nm 1, .nm 2]) .one [.var 0] []) [some (.lst (x.map fun y => pairD (some y))), u, v] st = .ok (.lst (x.map fun y => pt y.1)) st := fun u v =>
    lc_pure (xs := x) (enc := fun y => pairD (some y)) _ (ds := [.lst (x.map fun y => pairD (some y))]) (by simp) (by simp) hn (fun y _ => by simp [turnR, wipeD, pairD])
  have l2 : ∀ u v, ev T (callN T 1000 n) (.lc false [1, 2] (.var 2) (.tup [.nm 1, .nm 2]) .one [.var 0] []) [some (.lst (x.map fun y => pairD (some y))), u, v] st = .ok (.lst (x.map fun y => rt y.2)) st := fun u v =>
    lc_pure (xs := x) (enc := fun y => pairD (some y)) _ (ds := [.lst (x.map fun y => pairD (some y))]) (by simp) (by simp) hn (fun y _ => by simp [turnR, wipeD, pairD])
  simp [d_split, c_split, l1, l2, choiceD, pt_map]
def choiceFor (M : Mdl) (p : List Rat) : Option (List (List Rat × Rat)) := M.rules.mapM fun r => pairFor r p
def choiceOD : Option (List (List Rat × Rat)) → D
  | none => .non
  | some x => choiceD x
theorem mapM_none {α β : Type} {f : α → Option β} {l : List α} (h : l.mapM f = none) : ∃ x ∈ l, f x = none := by
  induction l with
  | nil => simp at h
  | cons a l ih =>
    rw [List.mapM_cons] at h
    cases e : f a with
    | none => exact ⟨a, List.mem_cons_self, e⟩
    | some b =>
      rw [e] at h
      cases e2 : l.mapM f with
      | none =>
        obtain ⟨x, h1, h2⟩ := ih e2
        exact ⟨x, List.mem_cons_of_mem _ h1, h2⟩
      | some c => rw [e2] at h; simp at h
theorem mapM_some' {α β : Type} {f : α → Option β} : ∀ {l : List α} {m : List β}, l.mapM f = some m → l.map f = m.map some
  | [], m, h => by simp at h; subst h; rfl
  | a :: l, m, h => by
    rw [List.mapM_cons] at h
    cases e : f a with
    | none => rw [e] at h; simp at h
    | some b =>
      rw [e] at h
      cases e2 : l.mapM f with
      | none => rw [e2] at h; simp at h
      | some c =>
        rw [e2] at h
        simp at h
        subst h
        simp [e, mapM_some' e2]
theorem ev_choice_for (h : H_choice_for T) (hm : 6 ≤ m) (hM : HC T k_Model kc_Model) {M : Mdl} {p : List Rat} {k l : Nat} (hnn : M.names.length = p.length) (hr : ∀ r ∈ M.rules, RuleSz r k) (ho : ∀ r ∈ M.rules, ∀ s ∈ r.row, Sok s) (hp : ∀ q ∈ p, sz q ≤ l) (hk : k ≤ 90) (hl : l ≤ 300) (hn : p.length * (k + l + 1) ≤ 200) (hrl : M.rules.length ≤ LIM) : callN T 1000 m i_choice_for [mdlD M, pt p] st = .ok (choiceOD (choiceFor M p)) st := by
  refine callN_do hm h.look rfl fun n hn' => ?_
  have hlen : p.length ≤ 300 := Nat.le_trans (Nat.le_mul_of_pos_right _ (by omega)) (show p.length * (k + l + 1) ≤ 300 by omega)
  have e1 := ev_point_from (st := st) (m := n) h.c_point_from (by omega) hM hnn (fun q hq => Nat.le_trans (hp q hq) (by omega)) (Nat.le_trans hlen (by decide))
  have l1 : ∀ u v, ev T (callN T 1000 n) (.lc false [4] (.call i_pair_for [.var 4, .var 2]) (.nm 4) .one [.attr (.var 0) a_rules] []) [some (mdlD M), some (pt p), some (pt p), none, u, v] st = .ok (.lst (M.rules.map fun r => pairD (pairFor r p))) st := fun u v =>
    lc_pure (xs := M.rules) (enc := ruleD) _ (ds := [.tup (M.rules.map ruleD)]) (by simp [attr_rules hM]) (by simp) hrl (fun r hr' => by simp [turnR, wipeD, ev_pair_for h.c_pair_for hn' (hr r hr') hp hk hl hn (ho r hr')])
  have np : ∀ x, isNon (pairD x) = x.isNone := fun x => by cases x <;> rfl
  have l2 : ∀ u v, ev T (callN T 1000 n) (.lc false [5] (.cmp .Is (.var 5) (.lit (.non))) (.nm 5) .one [.var 3] []) [some (mdlD M), some (pt p), some (pt p), some (.lst (M.rules.map fun r => pairD (pairFor r p))), u, v] st = .ok (.lst (M.rules.map fun r => .bl ((pairFor r p).isNone))) st := fun u v =>
    lc_pure (xs := M.rules) (enc := fun r => pairD (pairFor r p)) _ (ds := [.lst (M.rules.map fun r => pairD (pairFor r p))]) (by simp) (by simp) hrl (fun r hr' => by simp [turnR, wipeD, np])
  unfold choiceFor
  cases hc : M.rules.mapM fun r => pairFor r p with
  | none =>
    have : (M.rules.any fun r => (pairFor r p).isNone) = true := by
      obtain ⟨x, h1, h2⟩ := mapM_none hc
      exact List.any_eq_true.mpr ⟨x, h1, by rw [h2]; rfl⟩
    simp only [choiceOD]
    simp [d_choice_for, c_choice_for, ev_need_model h.c_need_model (show 1 ≤ n by omega) hM, e1, l1, l2, this]
  | some x =>
    have e3 := mapM_some' hc
    have : (M.rules.any fun r => (pairFor r p).isNone) = false := by
      rw [List.any_eq_false]
      intro r hr'
      have : pairFor r p ∈ x.map some := by rw [← e3]; exact List.mem_map.mpr ⟨r, hr', rfl⟩
      obtain ⟨y, _, e⟩ := List.mem_map.mp this
      rw [← e]; simp
    have e4 : (M.rules.map fun r => pairD (pairFor r p)) = x.map fun y => pairD (some y) := by
      have := congrArg (List.map pairD) e3
      rw [List.map_map, List.map_map] at this
      exact this
    have hxl : x.length ≤ LIM := by
      have := congrArg List.length e3
      simp at this
      omega
    have e5 := ev_split (st := st) (m := n) h.c_split (by omega) hxl
    rw [← e4] at e5
    simp only [choiceOD]
    simp [d_choice_for, c_choice_for, ev_need_model h.c_need_model (show 1 ≤ n by omega) hM, e1, l1, l2, this, e5]
end
end G

set_option linter.all false
set_option maxRecDepth 100000
set_option maxHeartbeats 2000000
/-! L6: books led over. -/
namespace G
open PySem L2
section
variable {T : Tab} {m : Nat} {st : Store}
mutual
theorem below_mono {n k : Nat} (hk : n ≤ k) : ∀ d : D, below n d = true → below k d = true
  | .tup l, h => by simp only [below] at h ⊢; exact belows_mono hk l h
  | .lst l, h => by simp only [below] at h ⊢; exact belows_mono hk l h
  | .ro l, h => by simp only [below] at h ⊢; exact belows_mono hk l h
  | .obj _ _ l, h => by simp only [below] at h ⊢; exact belows_mono hk l h
  | .dct _ l, h => by simp only [below] at h ⊢; exact belows_mono hk l h
  | .loc j, h => by simp only [below, decide_eq_true_eq] at h ⊢; omega
  | .non, _ => rfl
  | .bl _, _ => rfl
  | .int _, _ => rfl
  | .str _, _ => rfl
  | .fn _, _ => rfl
  | .cls _, _ => rfl
  | .ty _, _ => rfl
theorem belows_mono {n k : Nat} (hk : n ≤ k) : ∀ l : List D, belows n l = true → belows k l = true
  | [], _ => rfl
  | d :: l, h => by
    simp only [belows, Bool.and_eq_true] at h ⊢
    exact ⟨below_mono hk d h.1, belows_mono hk l h.2⟩
end
theorem belowO_mono {n k : Nat} (hk : n ≤ k) (o : O) (h : belowO n o = true) : belowO k o = true := by
  cases o <;> exact belows_mono hk _ h
theorem StOk.push {o : O} (h : StOk st) (ho : belowO (st.length + 1) o = true) : StOk (st ++ [o]) := by
  simp only [StOk, List.all_append, List.length_append, List.length_cons, List.length_nil, Nat.zero_add, List.all_cons, List.all_nil, Bool.and_true, Bool.and_eq_true] at h ⊢
  exact ⟨List.all_eq_true.mpr fun x hx => belowO_mono (Nat.le_succ _) x (List.all_eq_true.mp h x hx), ho⟩
theorem putK_below {n : Nat} {ks : List Key} {l : List D} {k : Key} {d : D} (h : belows n l = true) (hd : below n d = true) : belows n (putK' k d ks l).2 = true := by
  refine belows_of fun e he => ?_
  have h2 : ∀ (ks : List Key) (l : List D), (∀ e ∈ l, below n e = true) → ∀ e ∈ putL k d ks l, below n e = true := by
    intro ks
    induction ks with
    | nil => intro l h e he; cases l <;> exact h e he
    | cons k' ks ih =>
      intro l h e he
      cases l with
      | nil => exact h e he
      | cons x l =>
        simp only [putL] at he
        rcases List.mem_cons.mp he with rfl | he
        · split
          · exact hd
          · exact h x List.mem_cons_self
        · exact ih l (fun y hy => h y (List.mem_cons_of_mem _ hy)) e he
  unfold putK' at he
  split at he
  · exact h2 ks l (belows_mem h) e he
  · rcases List.mem_append.mp he with he | he
    · exact belows_mem h e he
    · rw [List.mem_singleton.mp he]; exact hd
theorem leave_dctB (h : StOk st) {ks : List Key} {l : List D} {more : Store} (hl : belows st.length l = true) : leave true st.length (.loc st.length) (st ++ .dct ks l :: more) = .ok (.dct ks l) st := by
  unfold leave
  rw [if_neg (by simp), if_pos rfl]
  have e : freeze (st ++ .dct ks l :: more) st.length 12 (.loc st.length) = some (.dct ks l) := by
    simp only [freeze]
    rw [if_neg (Nat.lt_irrefl _)]
    simp only [List.getElem?_append_right (Nat.le_refl _), Nat.sub_self, List.getElem?_cons_zero]
    rw [mapM_id fun d hd => freeze_below 11 d (belows_mem hl d hd)]
    rfl
  rw [e]
  simp only [List.take_left]
  rw [if_pos (show st.all (belowO st.length) = true from h)]
theorem ev_law_withB (h : H__law_with T) (hm : 1 ≤ m) (hst : StOk st) {ks : List Key} {l : List D} {w : Str} {d : D} (hk : ks.length ≤ 100) (hl : belows st.length l = true) (hd : below st.length d = true) : callN T 1000 m i__law_with [.dct ks l, .str w, d] st = .ok (.dct (putK' (.inr w) d ks l).1 (putK' (.inr w) d ks l).2) st := by
  refine callN_do hm h.look rfl fun k hk' => ?_
  have e1 : ∀ ρ, subPut d ρ (.loc st.length) (.str w) (st ++ [.dct ks l]) = .ok ρ (st ++ [.dct (putK' (.inr w) d ks l).1 (putK' (.inr w) d ks l).2]) := fun ρ => by
    unfold subPut
    simp only [get_last, keyOf, set_last]
    rw [if_pos (Nat.lt_of_le_of_lt hk (by decide))]
  have e2 := leave_dctB hst (ks := (putK' (.inr w) d ks l).1) (more := []) (putK_below (ks := ks) (k := .inr w) hl hd)
  simp [d__law_with, c__law_with, biO, dict?, e1, e2]
theorem bm_append {l : List D} {d : D} (h : l.length < LIM) : bmD (st ++ [.lst l]) .append (.loc st.length) [d] = .ok .non (st ++ [.lst (l ++ [d])]) := by
  simp [bmD, h]
theorem bmTy_append {l : List D} : bmTy (st ++ [.lst l]) .append (.loc st.length) = true := by simp [bmTy, isLst]
/-- spans with another one added -/
def sadd (s t : Span) : Span := (s.1 + t.1, s.2 + t.2)
def mvRule (a b : Span) (r : Rule) : Rule := ⟨r.name, r.row.map fun s => sadd s a, r.eq, sadd r.right b⟩
theorem ruleD_mk (r : Rule) : D.tup [.str r.name, rowD r.row, kindD r.eq, sp r.right] = ruleD r := rfl
theorem asgT_rule {call : Call} {ρ : Env'} (i j k l : Nat) (r : Rule) : asgT T call (.tup [.nm i, .nm j, .nm k, .nm l]) (ruleD r) ρ st = asgT T call (.tup [.nm i, .nm j, .nm k, .nm l]) (.tup [.str r.name, rowD r.row, kindD r.eq, sp r.right]) ρ st := rfl
theorem sadd_ok {s t : Span} (h : Sok s) (k : Sok t) : Sok (sadd s t) := by unfold Sok sadd at *; grind
theorem sadd_sz {s t : Span} {k l : Nat} (h : ssz s ≤ k) (h' : ssz t ≤ l) : ssz (sadd s t) ≤ k + l + 1 := by
  have h1 := ssz_1 h
  have h2 := ssz_2 h
  have h3 := ssz_1 h'
  have h4 := ssz_2 h'
  have h5 := sz_add s.1 t.1
  have h6 := sz_add s.2 t.2
  exact ssz_mk (by omega) (by omega)
theorem ev_law_moved (h : H__law_moved T) (hm : 7 ≤ m) (hst : StOk st) {B : Book} {rs : List Rule} {a b : Span} (hB : B.rules = rs.map ruleD) (hc : Cls (bookL B)) (hr : ∀ r ∈ rs, (∀ s ∈ r.row, Sok s) ∧ Sok r.right ∧ RuleSz r 10) (hw : ∀ r ∈ rs, r.row.length ≤ 100) (hn : rs.length ≤ 100) (ha : Sok a) (hb : Sok b) (sa : ssz a ≤ 10) (sb : ssz b ≤ 10) : callN T 1000 m i__law_moved [bookD B, sp a, sp b] st = .ok (bookD { B with rules := (rs.map (mvRule a b)).map ruleD }) st := by
  refine R.eq_of_sat (callN_sat hm h.look rfl fun n hn' => ?_)
  simp [d__law_moved, c__law_moved]
  refine for_sat (st1 := st ++ [.lst []]) (ds := [.lst (rs.map ruleD)]) (l := rs.map ruleD) (fun j ρ st' => st' = st ++ [.lst (((rs.take j).map (mvRule a b)).map ruleD)] ∧ ∃ u4 u5 u6 u7 u8, ρ = [some (bookD B), some (sp a), some (sp b), some (.loc st.length), u4, u5, u6, u7, u8]) (by simp [hB]) (by simp) ⟨by simp, none, none, none, none, none, rfl⟩ ?_ ?_
  · rintro j ρ st' hj ⟨rfl, u4, u5, u6, u7, u8, rfl⟩
    have hj' : j < rs.length := by simpa using hj
    obtain ⟨g1, g2, g3, g4⟩ := hr _ (List.getElem_mem hj')
    have g5 := hw _ (List.getElem_mem hj')
    rw [List.getElem_map, List.take_succ_eq_append_getElem hj', List.map_append, List.map_append]
    have hl : (((rs.take j).map (mvRule a b)).map ruleD).length < LIM := by
      have : (((rs.take j).map (mvRule a b)).map ruleD).length ≤ 100 := by simp; omega
      exact Nat.lt_of_le_of_lt this (by decide)
    generalize ((rs.take j).map (mvRule a b)).map ruleD = acc at *
    generalize rs[j] = r at *
    have l1 : ev T (callN T 1000 n) (.lc false [8] (.call i_plus_spans [.var 8, .var 1]) (.nm 8) .one [.var 5] []) [some (bookD B), some (sp a), some (sp b), some (.loc st.length), some (.str r.name), some (rowD r.row), some (kindD r.eq), some (sp r.right), u8] (st ++ [.lst acc]) = .ok (.lst (r.row.map fun s => sp (sadd s a))) (st ++ [.lst acc]) :=
      lc_pure (xs := r.row) (enc := sp) _ (ds := [rowD r.row]) (by simp) (by simp) (Nat.le_trans g5 (by decide)) (fun s hs => by
        have := g3 s hs
        simp [turnR, wipeD, ev_plus_spans h.c_plus_spans (show 6 ≤ n by omega) (show ssz s ≤ 4000 by omega) (show ssz a ≤ 4000 by omega) (g1 s hs) ha, sadd])
    have e1 : callN T 1000 n i_plus_spans [sp r.right, sp b] (st ++ [.lst acc]) = .ok (sp (sadd r.right b)) (st ++ [.lst acc]) := ev_plus_spans h.c_plus_spans (by omega) (by omega) (by omega) g2 hb
    have e2 : D.tup [.str r.name, .tup (r.row.map fun s => sp (sadd s a)), kindD r.eq, sp (sadd r.right b)] = ruleD (mvRule a b r) := by
      unfold ruleD mvRule rowD
      rw [List.map_map]; rfl
    rw [asgT_rule]
    simp [bmTy_append, l1, e1, bm_append hl, e2]
  · rintro ρ st' ⟨rfl, u4, u5, u6, u7, u8, rfl⟩
    rw [List.length_map, List.take_length]
    have clr : Cls ((rs.map (mvRule a b)).map ruleD) := .map fun _ _ => .ruleD _
    rw [← List.map_map]
    generalize (rs.map (mvRule a b)).map ruleD = RS at *
    have ok2 : StOk (st ++ [.lst RS]) := hst.push (belows_of fun d hd => clr d hd _)
    have e1 := ev_law_withB (st := st ++ [.lst RS]) (m := n) h.c__law_with (by omega) ok2 (ks := bkeys) (l := bookL B) (w := "rules") (d := .loc st.length) (by decide) (belows_of fun d hd => hc d hd _) (by simp [below])
    have e2 : D.dct (putK' (.inr "rules") (.loc st.length) bkeys (bookL B)).1 (putK' (.inr "rules") (.loc st.length) bkeys (bookL B)).2 = .dct bkeys [.tup (B.names.map .str), .loc st.length, .lst B.costs, .lst B.asks] := rfl
    rw [e2] at e1
    have e1' : callN T 1000 n i__law_with [bookD B, .str "rules", .loc st.length] (st ++ [.lst RS]) = .ok (.dct bkeys [.tup (B.names.map .str), .loc st.length, .lst B.costs, .lst B.asks]) (st ++ [.lst RS]) := e1
    have lv : leave true st.length (.dct bkeys [.tup (B.names.map .str), .loc st.length, .lst B.costs, .lst B.asks]) (st ++ [.lst RS]) = .ok (bookD { B with rules := RS }) st := by
      unfold leave
      rw [if_neg (by simp), if_pos rfl]
      have f0 : freeze (st ++ [.lst RS]) st.length 11 (.loc st.length) = some (.lst RS) := by
        simp only [freeze]
        rw [if_neg (Nat.lt_irrefl _)]
        simp only [get_last]
        rw [mapM_id fun d hd => freeze_below 10 d (clr d hd _)]
        rfl
      have f1 := fun d (hd : Cl d) => freeze_below (st := st ++ [.lst RS]) (n := st.length) 11 d (hd _)
      have c1 : Cl (.tup (B.names.map .str)) := hc _ (by simp [bookL])
      have c2 : Cl (.lst B.costs) := hc _ (by simp [bookL])
      have c3 : Cl (.lst B.asks) := hc _ (by simp [bookL])
      have f2 : freeze (st ++ [.lst RS]) st.length 12 (.dct bkeys [.tup (B.names.map .str), .loc st.length, .lst B.costs, .lst B.asks]) = some (bookD { B with rules := RS }) := by
        show (List.mapM (freeze (st ++ [.lst RS]) st.length 11) [.tup (B.names.map .str), .loc st.length, .lst B.costs, .lst B.asks]).map (D.dct bkeys) = _
        simp only [List.mapM_cons, List.mapM_nil, f1 _ c1, f1 _ c2, f1 _ c3, f0]
        rfl
      rw [f2]
      simp only [List.take_left]
      rw [if_pos (show st.all (belowO st.length) = true from hst)]
    simp [e1', lv]
end
end G

set_option linter.all false
set_option maxRecDepth 100000
/-! M19: kinds and spans that are wider (no program in sight). -/
namespace G
def Sub (s t : Span) : Prop := t.1 ≤ s.1 ∧ s.2 ≤ t.2
/-- rooms by ends -/
def roomB (e : Bool) (m d : Span) (w : Wd) : Bool := if e then room4 m d w else room4m m d w
theorem room_b (w : Wd) {r : Rule} {p : List Rat} (h1 : Sok (reachS r.row p)) (h2 : Sok r.right) : decide (0 ≤ roomQ w r p) = roomB r.eq (reachS r.row p) r.right w := by
  cases he : r.eq with
  | true => exact room_is w h1 h2 he
  | false => exact room_most w h1 h2 he
theorem roomB_held {e : Bool} {m d : Span} (h1 : Sok m) (h2 : Sok d) (w : Wd) (h : roomB e m d .held = true) : roomB e m d w = true := by
  obtain ⟨a, b⟩ := m
  obtain ⟨c, k⟩ := d
  unfold Sok at h1 h2
  dsimp only at h1 h2
  cases e <;> cases w <;> simp only [roomB, room4, room4m, wid, Rat.min_def, Rat.max_def, Prod.mk.injEq, if_true, Bool.false_eq_true, if_false] at h ⊢ <;> grind
theorem roomB_some {e : Bool} {m d : Span} (h1 : Sok m) (h2 : Sok d) (w : Wd) (h : roomB e m d w = true) : roomB e m d .some = true := by
  obtain ⟨a, b⟩ := m
  obtain ⟨c, k⟩ := d
  unfold Sok at h1 h2
  dsimp only at h1 h2
  cases e <;> cases w <;> simp only [roomB, room4, room4m, wid, Rat.min_def, Rat.max_def, Prod.mk.injEq, if_true, Bool.false_eq_true, if_false] at h ⊢ <;> grind
theorem roomB_some_wide {e : Bool} {m d m' d' : Span} (hm : Sub m m') (hd : Sub d d') (h : roomB e m d .some = true) : roomB e m' d' .some = true := by
  obtain ⟨a, b⟩ := m
  obtain ⟨c, k⟩ := d
  obtain ⟨a', b'⟩ := m'
  obtain ⟨c', k'⟩ := d'
  unfold Sub at hm hd
  dsimp only at hm hd
  cases e <;> simp only [roomB, room4, room4m, Rat.min_def, Rat.max_def, if_true, Bool.false_eq_true, if_false] at h ⊢ <;> grind
theorem roomB_held_wide {e : Bool} {m d m' d' : Span} (h1 : Sok m) (h2 : Sok d) (hm : Sub m m') (hd : Sub d d') (h : roomB e m' d' .held = true) : roomB e m d .held = true := by
  obtain ⟨a, b⟩ := m
  obtain ⟨c, k⟩ := d
  obtain ⟨a', b'⟩ := m'
  obtain ⟨c', k'⟩ := d'
  unfold Sub at hm hd
  unfold Sok at h1 h2
  dsimp only at hm hd h1 h2
  cases e <;> simp only [roomB, room4, room4m, wid, Prod.mk.injEq, if_true, Bool.false_eq_true, if_false] at h ⊢ <;> grind
/-- wider coefs -/
theorem roomB_left {e : Bool} {m d m' : Span} (hm : Sub m m') : (roomB e m' d .bears = true → roomB e m d .bears = true) ∧ (roomB e m d .steers = true → roomB e m' d .steers = true) := by
  obtain ⟨a, b⟩ := m
  obtain ⟨c, k⟩ := d
  obtain ⟨a', b'⟩ := m'
  unfold Sub at hm
  dsimp only at hm
  cases e <;> simp only [roomB, room4, room4m, if_true, Bool.false_eq_true, if_false] <;> grind
theorem roomB_right {e : Bool} {m d d' : Span} (hd : Sub d d') : (roomB e m d .bears = true → roomB e m d' .bears = true) ∧ (roomB e m d' .steers = true → roomB e m d .steers = true) := by
  obtain ⟨a, b⟩ := m
  obtain ⟨c, k⟩ := d
  obtain ⟨c', k'⟩ := d'
  unfold Sub at hd
  dsimp only at hd
  cases e <;> simp only [roomB, room4, room4m, if_true, Bool.false_eq_true, if_false] <;> grind
theorem roomB_thin {e : Bool} {m d : Span} (hm : m.1 = m.2) (hd : d.1 = d.2) (w : Wd) : roomB e m d w = roomB e m d .some := by
  obtain ⟨a, b⟩ := m
  obtain ⟨c, k⟩ := d
  dsimp only at hm hd
  subst hm hd
  cases e <;> cases w <;> simp only [roomB, room4, room4m, wid, Rat.min_def, Rat.max_def, Prod.mk.injEq, if_true, Bool.false_eq_true, if_false] <;> grind
/-- the room of some in wider spans -/
theorem room_some_wide {r r' : Rule} {p : List Rat} (he : r'.eq = r.eq) (h1 : Sok (reachS r.row p)) (h2 : Sok r.right) (hm : Sub (reachS r.row p) (reachS r'.row p)) (hd : Sub r.right r'.right) : roomQ .some r p ≤ roomQ .some r' p := by
  unfold roomQ
  rw [he]
  generalize reachS r.row p = m at *
  generalize reachS r'.row p = m' at *
  generalize r.right = d at *
  generalize r'.right = d' at *
  obtain ⟨a, b⟩ := m
  obtain ⟨c, k⟩ := d
  obtain ⟨a', b'⟩ := m'
  obtain ⟨c', k'⟩ := d'
  unfold Sub at hm hd
  unfold Sok at h1 h2
  dsimp only at hm hd h1 h2
  cases r.eq <;> simp only [Wd.byC, Wd.byR, mid, wid, Rat.abs, if_true, Bool.false_eq_true, if_false] <;> grind
theorem sub_refl (s : Span) : Sub s s := ⟨Rat.le_refl, Rat.le_refl⟩
theorem sub_smul {s t : Span} (hs : Sok s) (ht : Sok t) (h : Sub s t) (q : Rat) : Sub (smul s (q, q)) (smul t (q, q)) := by
  rw [smul_pt hs, smul_pt ht]
  unfold Sub at *
  by_cases c : 0 ≤ q
  · simp only [if_pos c]
    exact ⟨Rat.mul_le_mul_of_nonneg_right h.1 c, Rat.mul_le_mul_of_nonneg_right h.2 c⟩
  · simp only [if_neg c]
    have c' : 0 ≤ -q := by grind
    have h1 := Rat.mul_le_mul_of_nonneg_right h.1 c'
    have h2 := Rat.mul_le_mul_of_nonneg_right h.2 c'
    constructor <;> grind
theorem sub_fold : ∀ (row : List Span) (f : Span → Span) (p : List Rat) (s t : Span), (∀ x ∈ row, Sok x ∧ Sok (f x) ∧ Sub x (f x)) → Sub s t → Sub ((row.zip p).foldl rstep s) (((row.map f).zip p).foldl rstep t)
  | [], f, p, s, t, _, h => by simpa using h
  | x :: row, f, [], s, t, _, h => by simpa using h
  | x :: row, f, q :: p, s, t, hr, h => by
    obtain ⟨h1, h2, h3⟩ := hr x List.mem_cons_self
    have := sub_smul h1 h2 h3 q
    simp only [List.map_cons, List.zip_cons_cons, List.foldl_cons]
    refine sub_fold row f p _ _ (fun y hy => hr y (List.mem_cons_of_mem _ hy)) ?_
    unfold Sub rstep at *
    dsimp only
    constructor <;> grind
theorem sub_reach {row : List Span} {f : Span → Span} {p : List Rat} (h : ∀ x ∈ row, Sok x ∧ Sok (f x) ∧ Sub x (f x)) : Sub (reachS row p) (reachS (row.map f) p) := sub_fold row f p _ _ h (sub_refl _)
theorem sub_reach' {row : List Span} {f : Span → Span} {p : List Rat} (h : ∀ x ∈ row, Sok x ∧ Sok (f x) ∧ Sub (f x) x) : Sub (reachS (row.map f) p) (reachS row p) := by
  have key : ∀ (row : List Span) (p : List Rat) (s t : Span), (∀ x ∈ row, Sok x ∧ Sok (f x) ∧ Sub (f x) x) → Sub s t → Sub (((row.map f).zip p).foldl rstep s) ((row.zip p).foldl rstep t) := by
    intro row
    induction row with
    | nil => intro p s t _ h; simpa using h
    | cons x row ih =>
      intro p s t hr h
      cases p with
      | nil => simpa using h
      | cons q p =>
        obtain ⟨h1, h2, h3⟩ := hr x List.mem_cons_self
        have := sub_smul h2 h1 h3 q
        simp only [List.map_cons, List.zip_cons_cons, List.foldl_cons]
        refine ih p _ _ (fun y hy => hr y (List.mem_cons_of_mem _ hy)) ?_
        unfold Sub rstep at *
        dsimp only
        constructor <;> grind
  exact key row p _ _ h (sub_refl _)
def thinS (s : Span) : Span := (mid s, mid s)
theorem thin_sub {s : Span} (h : Sok s) : Sub (thinS s) s := by
  unfold Sub thinS mid Sok at *
  dsimp only
  constructor <;> grind
theorem thin_ok (s : Span) : Sok (thinS s) := Rat.le_refl
theorem thin_reach {row : List Span} {p : List Rat} : (reachS (row.map thinS) p).1 = (reachS (row.map thinS) p).2 := by
  have key : ∀ (row : List Span) (p : List Rat) (s : Span), s.1 = s.2 → (((row.map thinS).zip p).foldl rstep s).1 = (((row.map thinS).zip p).foldl rstep s).2 := by
    intro row
    induction row with
    | nil => intro p s h; simpa using h
    | cons x row ih =>
      intro p s h
      cases p with
      | nil => simpa using h
      | cons q p =>
        simp only [List.map_cons, List.zip_cons_cons, List.foldl_cons]
        refine ih p _ ?_
        unfold rstep
        dsimp only
        rw [smul_pt (thin_ok x)]
        unfold thinS
        split <;> grind
  exact key row p _ rfl
theorem sadd_sub {s a : Span} (h1 : a.1 ≤ 0) (h2 : 0 ≤ a.2) : Sub s (sadd s a) := by
  unfold Sub sadd
  dsimp only
  constructor <;> grind
theorem sadd_zero (s : Span) : sadd s (0, 0) = s := by
  obtain ⟨a, b⟩ := s
  simp [sadd, Rat.add_zero]
end G

set_option linter.all false
set_option maxRecDepth 100000
set_option maxHeartbeats 8000000
/-! K19: the law of wider spans. -/
namespace G
open PySem L2
theorem rtm12 : D.tup [.int (-1), .int 2] = rt (-1 / 2) := rt_lit _ _ _ (by decide +kernel)
theorem rtm13 : D.tup [.int (-1), .int 3] = rt (-1 / 3) := rt_lit _ _ _ (by decide +kernel)
theorem rtm11 : D.tup [.int (-1), .int 1] = rt (-1) := rt_lit _ _ _ (by decide +kernel)
theorem rt21 : D.tup [.int 2, .int 1] = rt 2 := rt_lit _ _ _ (by decide +kernel)
/-- data among data -/
theorem EncOk.isin {α : Type} [DecidableEq α] {enc : α → D} {k : Nat} (h : EncOk enc k) (hk : k ≤ 12) (hf : ∀ a, flatD (enc a) = none) (st : Store) (a : α) (l : List α) : inD st (enc a) (.tup (l.map enc)) = some (l.any fun b => decide (b = a)) := by
  obtain ⟨f, h1, h2, h3⟩ := h.py
  have e0 : inD st (enc a) (.tup (l.map enc)) = match flatD (enc a), (l.map enc).mapM flatD with
      | some x, some ys => some (inV x ys)
      | _, _ => inDeep (toPy st 12 (enc a)) ((l.map enc).mapM (toPy st 12)) := rfl
  have e1 : (l.map enc).mapM (toPy st 12) = some (l.map f) := by
    rw [mapM_some (g := fun d => (toPy st 12 d).getD .none) (fun d hd => by
      obtain ⟨x, _, rfl⟩ := List.mem_map.mp hd
      rw [h1 st 12 x hk]; rfl), List.map_map]
    congr 1
    exact List.map_congr_left fun x _ => by simp [h1 st 12 x hk]
  have s : ∀ a, SeqAt.shaped (f a) = true := fun a => by
    simp only [SeqAt.shaped, Bool.and_eq_true, decide_eq_true_eq]
    exact ⟨(h2 a).1, by have := (h2 a).2; omega⟩
  have d : (f a).depth ≤ 60 := by have := (h2 a).2; omega
  rw [e0, hf a]
  dsimp only
  rw [h1 st 12 a hk, e1]
  unfold inDeep
  dsimp only
  rw [if_pos (by simp [s, d])]
  rw [List.any_map]
  congr 1
  exact congrArg (fun g => l.any g) (funext fun b => h3 b a)
theorem in_wd {st : Store} (w : Wd) (l : List Wd) : inD st (.str w.str) (.tup (l.map wd)) = some (l.contains w) := by
  have e : l.map wd = (l.map Wd.str).map .str := by rw [List.map_map]; rfl
  rw [e, inD_strs, List.any_map]
  congr 1
  rw [List.contains_eq_any_beq]
  refine congrArg (fun g => l.any g) (funext fun b => ?_)
  cases b <;> cases w <;> decide +kernel
section
variable {T : Tab} {m : Nat} {st : Store}
theorem in_held (l : List Wd) : inD st (.str "held") (.tup (l.map wd)) = some (l.contains .held) := in_wd .held l
theorem in_some (l : List Wd) : inD st (.str "some") (.tup (l.map wd)) = some (l.contains .some) := in_wd .some l
theorem in_bears (l : List Wd) : inD st (.str "bears") (.tup (l.map wd)) = some (l.contains .bears) := in_wd .bears l
theorem in_steers (l : List Wd) : inD st (.str "steers") (.tup (l.map wd)) = some (l.contains .steers) := in_wd .steers l
theorem wds4 (l : List Wd) : eqD st (.tup (l.map wd)) (.tup [.str "some", .str "held", .str "bears", .str "steers"]) = some (decide (l = allW)) := wds_eq l allW
theorem wds2a (l : List Wd) : eqD st (.tup (l.map wd)) (.tup [.str "some", .str "steers"]) = some (decide (l = [.some, .steers])) := wds_eq l [.some, .steers]
theorem wds2b (l : List Wd) : eqD st (.tup (l.map wd)) (.tup [.str "some", .str "bears"]) = some (decide (l = [.some, .bears])) := wds_eq l [.some, .bears]
theorem wds0 (l : List Wd) : eqD st (.tup (l.map wd)) (.tup []) = some (decide (l = [])) := wds_eq l []
theorem wds_in (l : List Wd) : inD st (.tup (l.map wd)) (.tup [.tup [], .tup [.str "some", .str "held", .str "bears", .str "steers"]]) = some (decide (l = [] ∨ l = allW)) := by
  have := wds_ok.isin (by decide) (fun _ => rfl) st l [[], allW]
  refine this.trans ?_
  congr 1
  by_cases h1 : l = []
  · subst h1; rfl
  · by_cases h2 : l = allW
    · subst h2; rfl
    · simp [h1, h2, Ne.symm h1, Ne.symm h2]
def mdl (b : Book) (rs : List Rule) : Mdl := ⟨b.names, rs, b.costs, b.asks⟩
theorem built_of (h : H__law_built T) (hm : 3 ≤ m) (hM : HC T k_Model kc_Model) (hst : StOk st) {b : Book} {rs : List Rule} (hc : Cls (bookL b)) : callN T 1000 m i__law_built [bookD { b with rules := rs.map ruleD }] st = .ok (mdlD (mdl b rs)) st :=
  ev_law_built h hm hM hst (b := { b with rules := rs.map ruleD }) (rs := rs) rfl (.cons (hc _ (by simp [bookL])) (.cons (.lst (.map fun _ _ => .ruleD _)) (.cons (hc _ (by simp [bookL])) (.cons (hc _ (by simp [bookL])) .nil))))
theorem isOf_iff {w : Wd} {b : Book} {rs : List Rule} {p : List Rat} (h : ∀ r ∈ rs, Sok (reachS r.row p) ∧ Sok r.right) : isOf w (mdl b rs) p = rs.all fun r => roomB r.eq (reachS r.row p) r.right w := by
  unfold isOf mdl
  dsimp only
  rw [Bool.eq_iff_iff, List.all_eq_true, List.all_eq_true]
  constructor
  · intro z r hr
    rw [← room_b w (h r hr).1 (h r hr).2]; exact z r hr
  · intro z r hr
    rw [room_b w (h r hr).1 (h r hr).2]; exact z r hr
theorem kindsW_mem {M : Mdl} {p : List Rat} {w : Wd} : (kindsW M p).contains w = isOf w M p := by
  unfold kindsW
  rw [Bool.eq_iff_iff, List.contains_iff_mem, List.mem_filter]
  constructor
  · exact fun h => h.2
  · exact fun h => ⟨by cases w <;> simp [allW], h⟩
theorem kinds_all {M : Mdl} {p : List Rat} (h : ∀ w, isOf w M p = true) : kindsW M p = allW := List.filter_eq_self.mpr fun w _ => h w
theorem kinds_none {M : Mdl} {p : List Rat} (h : ∀ w, isOf w M p = false) : kindsW M p = [] := List.filter_eq_nil_iff.mpr fun w _ => by rw [h w]; exact Bool.false_ne_true
theorem kinds_head {M : Mdl} {p : List Rat} (h : isOf .some M p = true) : ∃ t, kindsW M p = .some :: t := ⟨_, List.filter_cons_of_pos h⟩
end
end G

set_option linter.all false
set_option maxRecDepth 100000
set_option maxHeartbeats 8000000
/-! K19: the law of wider spans, whole. -/
namespace G
open PySem L2
section
variable {T : Tab} {m : Nat} {st : Store}
theorem iteR_or (a b : Bool) : iteR (fun st => R.ok (D.bl true) st) (fun st => R.ok (D.bl b) st) (.bl a) st = .ok (.bl (a || b)) st := by cases a <;> rfl
theorem dup2 (x : D) : binD st .Mult (.tup [x]) (.int 2) = some (.tup [x, x]) := rfl
def thinRule (r : Rule) : Rule := ⟨r.name, r.row.map thinS, r.eq, thinS r.right⟩
theorem thinS_sz {s : Span} {k : Nat} (h : ssz s ≤ k) : ssz (thinS s) ≤ 2 * k + 3 := ssz_mk (sz_mid h) (sz_mid h)
theorem sz_roomQ (w : Wd) {r : Rule} {p : List Rat} {k l : Nat} (hr : RuleSz r k) (hp : ∀ q ∈ p, sz q ≤ l) (hk : k ≤ 100) (hb : p.length * (k + l + 1) ≤ 400) : sz (roomQ w r p) ≤ 4000 := by
  have z0 := ssz_reachS hr.1 hp
  have z1 := hr.2
  have y1 := sz_mid (k := 401) (s := reachS r.row p) (by omega)
  have y2 := sz_wid (k := 401) (s := reachS r.row p) (by omega)
  have y3 := sz_mid (k := 100) (s := r.right) (by omega)
  have y4 := sz_wid (k := 100) (s := r.right) (by omega)
  have y5 := sz_sub (mid r.right) (mid (reachS r.row p))
  have y6 := sz_mul (w.byC : Rat) (wid (reachS r.row p))
  have y7 := sz_mul (w.byR : Rat) (wid r.right)
  have y8 := sz_byC w
  have y9 := sz_byR w
  have x1 := sz_add ((w.byC : Rat) * wid (reachS r.row p)) ((w.byR : Rat) * wid r.right)
  have s1 := sz_neg (mid r.right - mid (reachS r.row p)).abs
  have s2 := sz_abs (mid r.right - mid (reachS r.row p))
  have x2 := sz_add (-(mid r.right - mid (reachS r.row p)).abs) ((w.byC : Rat) * wid (reachS r.row p) + (w.byR : Rat) * wid r.right)
  have x3 := sz_add (mid r.right - mid (reachS r.row p)) ((w.byC : Rat) * wid (reachS r.row p) + (w.byR : Rat) * wid r.right)
  unfold roomQ
  split <;> omega
theorem map_all {α β : Type} (f : α → β) (g : β → Bool) (l : List α) : (l.map f).all g = l.all fun x => g (f x) := by rw [List.all_map]; rfl
def lap19 : List S := forBody (c_law_k19.getD 7 .pass)
theorem mv_ok {n : Nat} {a b : Span} {r : Rule} (hr : RuleOk n r) (ha : Sok a) (hb : Sok b) (sa : ssz a ≤ 5) (sb : ssz b ≤ 5) : (mvRule a b r).row.length = n ∧ (∀ s ∈ (mvRule a b r).row, Sok s) ∧ Sok (mvRule a b r).right ∧ RuleSz (mvRule a b r) 20 := by
  refine ⟨by simp [mvRule, hr.len], fun s hs => ?_, sadd_ok hr.right.1 hb, fun s hs => ?_, ?_⟩
  · obtain ⟨x, hx, rfl⟩ := List.mem_map.mp hs
    exact sadd_ok (hr.row x hx).1 ha
  · obtain ⟨x, hx, rfl⟩ := List.mem_map.mp hs
    have := sadd_sz (hr.row x hx).2 sa
    omega
  · have := sadd_sz hr.right.2 sb
    show ssz (sadd r.right b) ≤ 20
    omega
theorem lap_k19 (h : H_law_k19 T) (hM : HC T k_Model kc_Model) (hm : 7 ≤ m) {o : O} {k : Nat} (ho : Pn (k + 2000) o) (j s : D) (v2 v3 v4 v5 v6 v7 v8 v9 v10 v11 v12 v13 v14 v15 v16 v17 v18 v19 v20 v21 v22 v23 v24 : Option D) {Q : Fl → Store → Prop}
    (q : ∀ o' tl, tl.length = 23 → Pn k o' → Q (.next (some s :: some (.loc 0) :: tl)) [o']) :
    ((asgT T (callN T 1000 m) (.nm 5) j [some s, some (.loc 0), v2, v3, v4, v5, v6, v7, v8, v9, v10, v11, v12, v13, v14, v15, v16, v17, v18, v19, v20, v21, v22, v23, v24] [o]).bind fun ρ st => exs T (callN T 1000 m) 1000 lap19 ρ st).sat Q := by
  simp [lap19, forBody, c_law_k19]
  refine rules_sat (size := 3) (many := 3) h.c__law_rules hm (by omega) (by omega) (by omega) (by omega) (k := k + 1000) (ho.mono (by omega)) fun b n rs o1 hb _ _ ho1 => ?_
  have hrl := hb.rs2
  have hrules := hb.rules
  have hnl : b.names.length = n := by rw [hb.names, xnames_len]
  have n2 := hb.n2
  have e1 : callN T 1000 m i__law_built [bookD b] [o1] = .ok (mdlD (mdl b rs)) [o1] := ev_law_built h.c__law_built (by omega) hM (pn_ok ho1) hrules hb.cl
  simp [e1, hrules, hnl]
  refine some_point_sat h.c__law_some_point (by omega) (n := n) (by omega) hnl (k := k + 900) (ho1.mono (by omega)) fun p o2 hp hps ho2 => ?_
  -- facts about rules
  have R1 : ∀ r ∈ rs, (∀ s ∈ r.row, Sok s) ∧ Sok r.right ∧ RuleSz r 6 := fun r hr => ⟨fun s hs => ((hb.ok r hr).row s hs).1, (hb.ok r hr).right.1, fun s hs => ((hb.ok r hr).row s hs).2, (hb.ok r hr).right.2⟩
  have S0 : ∀ r ∈ rs, Sok (reachS r.row p) ∧ Sok r.right := fun r hr => ⟨reach_ok (R1 r hr).1, (R1 r hr).2.1⟩
  have bd : p.length * (20 + 3 + 1) ≤ 200 := by omega
  have kind : ∀ (st : Store) (rs' : List Rule), rs'.length ≤ 3 → (∀ r ∈ rs', RuleSz r 20) → callN T 1000 m i_kinds_of [mdlD (mdl b rs'), pt p] st = .ok (.tup ((kindsW (mdl b rs') p).map wd)) st := fun st rs' hl hr => ev_kinds_of h.c_kinds_of hm hM (M := mdl b rs') (k := 20) (l := 3) (by simp [mdl, hnl, hp]) hr hps (by omega) (by omega) (by omega) (Nat.le_trans hl (by decide))
  have isp : ∀ (st : Store) (w : Wd) (rs' : List Rule), rs'.length ≤ 3 → (∀ r ∈ rs', RuleSz r 20) → callN T 1000 m i_is_point_of [mdlD (mdl b rs'), .str w.str, pt p] st = .ok (.bl (isOf w (mdl b rs') p)) st := fun st w rs' hl hr => ev_is_point_of h.c_is_point_of hm hM w (M := mdl b rs') (k := 20) (l := 3) (by simp [mdl, hnl, hp]) hr hps (by omega) (by omega) (by omega) (Nat.le_trans hl (by decide))
  have big : ∀ {r : Rule}, RuleSz r 6 → RuleSz r 20 := fun hr => ⟨fun s hs => Nat.le_trans (hr.1 s hs) (by omega), Nat.le_trans hr.2 (by omega)⟩
  have k0 := fun st => kind st rs hrl fun r hr => big (R1 r hr).2.2
  have is0 : ∀ w, isOf w (mdl b rs) p = rs.all fun r => roomB r.eq (reachS r.row p) r.right w := fun w => isOf_iff S0
  have w1 : isOf .held (mdl b rs) p = true → kindsW (mdl b rs) p = allW := fun z => kinds_all fun w => by
    rw [is0] at z ⊢
    exact List.all_eq_true.mpr fun r hr => roomB_held (S0 r hr).1 (S0 r hr).2 w (List.all_eq_true.mp z r hr)
  have w2 : kindsW (mdl b rs) p = [] ∨ ∃ t, kindsW (mdl b rs) p = .some :: t := by
    by_cases c : isOf .some (mdl b rs) p = true
    · exact .inr (kinds_head c)
    · refine .inl (kinds_none fun w => ?_)
      cases e : isOf w (mdl b rs) p with
      | false => rfl
      | true =>
        refine (c ?_).elim
        rw [is0] at e ⊢
        exact List.all_eq_true.mpr fun r hr => roomB_some (S0 r hr).1 (S0 r hr).2 w (List.all_eq_true.mp e r hr)
  have c1 : (isOf .held (mdl b rs) p && !decide (kindsW (mdl b rs) p = allW)) = false := by
    cases e : isOf .held (mdl b rs) p with
    | false => rfl
    | true => rw [w1 e]; rfl
  have hn : ∀ w, (kindsW (mdl b rs) p).contains w = isOf w (mdl b rs) p := fun w => kindsW_mem
  have sm : isOf .some (mdl b rs) p = true ∨ kindsW (mdl b rs) p = [] := by
    rcases w2 with e | ⟨t, e⟩
    · exact .inr e
    · refine .inl ?_
      rw [← hn, e]; rfl
  have rest : (exs T (callN T 1000 m) 1000 (lap19.drop 5) [some s, some (.loc 0), v2, v3, v4, some j, some (bookD b), some (mdlD (mdl b rs)), some (.int n), some (pt p), some (.tup ((kindsW (mdl b rs) p).map wd)), v11, v12, v13, v14, v15, v16, v17, v18, v19, v20, v21, v22, v23, v24] [o2]).sat Q := by
    simp [lap19, forBody, c_law_k19, rt01, rt11, rt21, rtm12, rtm13, sp_mk]
    refine pick_sat h.c__law_pick (by omega) (k := k) (ho2.mono (by omega)) (xs := [((0 : Rat), (1 : Rat)), (-1 / 2, 0), (-1 / 3, 2)]) (enc := sp) (by simp) (by simp) fun more hmore o3 ho3 => ?_
    have hm1 : more.1 ≤ 0 ∧ 0 ≤ more.2 ∧ ssz more ≤ 5 := by
      simp at hmore
      rcases hmore with rfl | rfl | rfl <;> refine ⟨?_, ?_, ?_⟩ <;> decide +kernel
    obtain ⟨q1, q2, q3⟩ := hm1
    have mo : Sok more := by unfold Sok; grind
    have zo : Sok (0, 0) := Rat.le_refl
    have zs : ssz ((0, 0) : Span) ≤ 5 := by decide +kernel
    have mv : ∀ x y : Span, Sok x → Sok y → ssz x ≤ 5 → ssz y ≤ 5 → callN T 1000 m i__law_moved [bookD b, sp x, sp y] [o3] = .ok (bookD { b with rules := (rs.map (mvRule x y)).map ruleD }) [o3] := fun x y a1 a2 a3 a4 => ev_law_moved h.c__law_moved hm (pn_ok ho3) hrules hb.cl (fun r hr => ⟨(R1 r hr).1, (R1 r hr).2.1, fun s hs => Nat.le_trans ((R1 r hr).2.2.1 s hs) (by omega), Nat.le_trans (R1 r hr).2.2.2 (by omega)⟩) (fun r hr => by rw [(hb.ok r hr).len]; omega) (by omega) a1 a2 (by omega) (by omega)
    have bt : ∀ rs' : List Rule, callN T 1000 m i__law_built [bookD { b with rules := rs'.map ruleD }] [o3] = .ok (mdlD (mdl b rs')) [o3] := fun rs' => built_of h.c__law_built (by omega) hM (pn_ok ho3) hb.cl
    have mvo := fun x y (a1 : Sok x) (a2 : Sok y) (a3 : ssz x ≤ 5) (a4 : ssz y ≤ 5) r (hr : r ∈ rs) => mv_ok (a := x) (b := y) (hb.ok r hr) a1 a2 a3 a4
    have Smv : ∀ x y, Sok x → Sok y → ssz x ≤ 5 → ssz y ≤ 5 → ∀ r ∈ rs.map (mvRule x y), (Sok (reachS r.row p) ∧ Sok r.right) ∧ RuleSz r 20 := fun x y a1 a2 a3 a4 r hr => by
      obtain ⟨r0, h0, rfl⟩ := List.mem_map.mp hr
      have := mvo x y a1 a2 a3 a4 r0 h0
      exact ⟨⟨reach_ok this.2.1, this.2.2.1⟩, this.2.2.2⟩
    have l1 : ∀ (u13 u14 u15 u16 u17 u18 u19 u20 u21 u22 u23 u24 : Option D), ev T (callN T 1000 m) (.lc false [19, 20] (.call i__law_built [.call i__law_moved [.var 6, .var 19, .var 20]]) (.tup [.nm 19, .nm 20]) .one [.tup [.tup [.var 11, .var 11], .tup [.var 11, .var 12], .tup [.var 12, .var 11]]] []) [some s, some (.loc 0), v2, v3, v4, some j, some (bookD b), some (mdlD (mdl b rs)), some (.int n), some (pt p), some (.tup ((kindsW (mdl b rs) p).map wd)), some (sp more), some (sp (0, 0)), u13, u14, u15, u16, u17, u18, u19, u20, u21, u22, u23, u24] [o3] = .ok (.lst ([(more, more), (more, ((0 : Rat), (0 : Rat))), ((0, 0), more)].map fun x => mdlD (mdl b (rs.map (mvRule x.1 x.2))))) [o3] := by
      intros
      refine lc_pure (xs := [(more, more), (more, ((0 : Rat), (0 : Rat))), ((0, 0), more)]) (enc := fun x => .tup [sp x.1, sp x.2]) _ (ds := [.tup [.tup [sp more, sp more], .tup [sp more, sp (0, 0)], .tup [sp (0, 0), sp more]]]) (by simp) (by simp) (by simp) (fun x hx => ?_)
      have hx' : Sok x.1 ∧ Sok x.2 ∧ ssz x.1 ≤ 5 ∧ ssz x.2 ≤ 5 := by
        simp at hx
        rcases hx with rfl | rfl | rfl <;> exact ⟨by assumption, by assumption, by assumption, by assumption⟩
      have z := mv x.1 x.2 hx'.1 hx'.2.1 hx'.2.2.1 hx'.2.2.2
      have z2 := bt (rs.map (mvRule x.1 x.2))
      generalize (rs.map (mvRule x.1 x.2)).map ruleD = RS at *
      simp [turnR, wipeD, z, z2]
    have SB := Smv more more mo mo q3 q3
    have SL := Smv more (0, 0) mo zo q3 zs
    have SR := Smv (0, 0) more zo mo zs q3
    have lnB : ∀ x y, (rs.map (mvRule x y)).length ≤ 3 := fun x y => by rw [List.length_map]; exact hrl
    have pB : ∀ st w, callN T 1000 m i_is_point_of [mdlD (mdl b (rs.map (mvRule more more))), .str (Wd.str w), pt p] st = .ok (.bl (isOf w (mdl b (rs.map (mvRule more more))) p)) st := fun st w => isp st w _ (lnB _ _) fun r hr => (SB r hr).2
    have pL : ∀ st w, callN T 1000 m i_is_point_of [mdlD (mdl b (rs.map (mvRule more (0, 0)))), .str (Wd.str w), pt p] st = .ok (.bl (isOf w (mdl b (rs.map (mvRule more (0, 0)))) p)) st := fun st w => isp st w _ (lnB _ _) fun r hr => (SL r hr).2
    have pR : ∀ st w, callN T 1000 m i_is_point_of [mdlD (mdl b (rs.map (mvRule (0, 0) more))), .str (Wd.str w), pt p] st = .ok (.bl (isOf w (mdl b (rs.map (mvRule (0, 0) more))) p)) st := fun st w => isp st w _ (lnB _ _) fun r hr => (SR r hr).2
    have isB := fun w => isOf_iff (w := w) (b := b) (rs := rs.map (mvRule more more)) (p := p) fun r hr => (SB r hr).1
    have isL := fun w => isOf_iff (w := w) (b := b) (rs := rs.map (mvRule more (0, 0))) (p := p) fun r hr => (SL r hr).1
    have isR := fun w => isOf_iff (w := w) (b := b) (rs := rs.map (mvRule (0, 0) more)) (p := p) fun r hr => (SR r hr).1
    have subm : ∀ x y, x.1 ≤ 0 → 0 ≤ x.2 → y.1 ≤ 0 → 0 ≤ y.2 → Sok x → ∀ r ∈ rs, Sub (reachS r.row p) (reachS (mvRule x y r).row p) ∧ Sub r.right (mvRule x y r).right := fun x y a1 a2 a3 a4 a5 r hr => ⟨sub_reach fun s hs => ⟨(R1 r hr).1 s hs, sadd_ok ((R1 r hr).1 s hs) a5, sadd_sub a1 a2⟩, sadd_sub a3 a4⟩
    have imp : ∀ (f : Rule → Rule) (w1 w2 : Wd), (∀ r ∈ rs, roomB r.eq (reachS r.row p) r.right w1 = true → roomB (f r).eq (reachS (f r).row p) (f r).right w2 = true) → (rs.all fun r => roomB r.eq (reachS r.row p) r.right w1) = true → ((rs.map f).all fun r => roomB r.eq (reachS r.row p) r.right w2) = true := fun f w1 w2 hf z => by
      rw [List.all_map]
      exact List.all_eq_true.mpr fun r hr => hf r hr (List.all_eq_true.mp z r hr)
    have imp' : ∀ (f : Rule → Rule) (w1 w2 : Wd), (∀ r ∈ rs, roomB (f r).eq (reachS (f r).row p) (f r).right w1 = true → roomB r.eq (reachS r.row p) r.right w2 = true) → ((rs.map f).all fun r => roomB r.eq (reachS r.row p) r.right w1) = true → (rs.all fun r => roomB r.eq (reachS r.row p) r.right w2) = true := fun f w1 w2 hf z => by
      rw [List.all_map] at z
      exact List.all_eq_true.mpr fun r hr => hf r hr (List.all_eq_true.mp z r hr)
    have zz : ((0, 0) : Span).1 ≤ 0 ∧ (0 : Rat) ≤ ((0, 0) : Span).2 := ⟨Rat.le_refl, Rat.le_refl⟩
    have nb : ∀ a b : Bool, (a = true → b = true) → (a && !b) = false := fun a b z => by cases a <;> cases b <;> simp_all
    have d1 : (isOf .some (mdl b rs) p && !isOf .some (mdl b (rs.map (mvRule more more))) p) = false := nb _ _ fun z => by
      rw [is0] at z
      rw [isB]
      exact imp _ _ _ (fun r hr => by
        obtain ⟨g1, g2⟩ := subm more more q1 q2 q1 q2 mo r hr
        exact roomB_some_wide g1 g2) z
    have d2 : (isOf .held (mdl b (rs.map (mvRule more more))) p && !isOf .held (mdl b rs) p) = false := nb _ _ fun z => by
      rw [is0]
      rw [isB] at z
      exact imp' _ _ _ (fun r hr => by
        obtain ⟨g1, g2⟩ := subm more more q1 q2 q1 q2 mo r hr
        exact roomB_held_wide (S0 r hr).1 (S0 r hr).2 g1 g2) z
    have rz : ∀ r ∈ rs, (mvRule more (0, 0) r).right = r.right := fun r hr => sadd_zero _
    have cz : ∀ r ∈ rs, (mvRule (0, 0) more r).row = r.row := fun r hr => by
      show r.row.map (fun s => sadd s (0, 0)) = r.row
      conv => rhs; rw [← List.map_id r.row]
      exact List.map_congr_left fun s _ => sadd_zero s
    have d3 : (isOf .bears (mdl b (rs.map (mvRule more (0, 0)))) p && !isOf .bears (mdl b rs) p) = false := nb _ _ fun z => by
      rw [is0]
      rw [isL] at z
      exact imp' _ _ _ (fun r hr => by
        obtain ⟨g1, g2⟩ := subm more (0, 0) q1 q2 zz.1 zz.2 mo r hr
        rw [rz r hr]
        exact (roomB_left g1).1) z
    have d4 : (isOf .steers (mdl b rs) p && !isOf .steers (mdl b (rs.map (mvRule more (0, 0)))) p) = false := nb _ _ fun z => by
      rw [is0] at z
      rw [isL]
      exact imp _ _ _ (fun r hr => by
        obtain ⟨g1, g2⟩ := subm more (0, 0) q1 q2 zz.1 zz.2 mo r hr
        rw [rz r hr]
        exact (roomB_left g1).2) z
    have d5 : (isOf .bears (mdl b rs) p && !isOf .bears (mdl b (rs.map (mvRule (0, 0) more))) p) = false := nb _ _ fun z => by
      rw [is0] at z
      rw [isR]
      exact imp _ _ _ (fun r hr => by
        obtain ⟨g1, g2⟩ := subm (0, 0) more zz.1 zz.2 q1 q2 zo r hr
        rw [cz r hr]
        exact (roomB_right g2).1) z
    have d6 : (isOf .steers (mdl b (rs.map (mvRule (0, 0) more))) p && !isOf .steers (mdl b rs) p) = false := nb _ _ fun z => by
      rw [is0]
      rw [isR] at z
      exact imp' _ _ _ (fun r hr => by
        obtain ⟨g1, g2⟩ := subm (0, 0) more zz.1 zz.2 q1 q2 zo r hr
        rw [cz r hr]
        exact (roomB_right g2).2) z
    have pBs := fun st => pB st .some
    have pBh := fun st => pB st .held
    have pLb := fun st => pL st .bears
    have pLs := fun st => pL st .steers
    have pRb := fun st => pR st .bears
    have pRs := fun st => pR st .steers
    simp only [Wd.str] at pBs pBh pLb pLs pRb pRs
    generalize hMB : mdl b (rs.map (mvRule more more)) = MB at *
    generalize hML : mdl b (rs.map (mvRule more (0, 0))) = ML at *
    generalize hMR : mdl b (rs.map (mvRule (0, 0) more)) = MR at *
    simp only [List.map_cons, List.map_nil, hMB, hML, hMR] at l1
    have is : ∀ st, inD st (.str "some") (.tup ((kindsW (mdl b rs) p).map wd)) = some (isOf .some (mdl b rs) p) := fun st => by rw [in_some, kindsW_mem]
    have ih : ∀ st, inD st (.str "held") (.tup ((kindsW (mdl b rs) p).map wd)) = some (isOf .held (mdl b rs) p) := fun st => by rw [in_held, kindsW_mem]
    have ib : ∀ st, inD st (.str "bears") (.tup ((kindsW (mdl b rs) p).map wd)) = some (isOf .bears (mdl b rs) p) := fun st => by rw [in_bears, kindsW_mem]
    have ir : ∀ st, inD st (.str "steers") (.tup ((kindsW (mdl b rs) p).map wd)) = some (isOf .steers (mdl b rs) p) := fun st => by rw [in_steers, kindsW_mem]
    simp [l1, is, ih, ib, ir, pBs, pBh, pLb, pLs, pRb, pRs, iteR_and, iteR_or, d1, d2, d3, d4, d5, d6]
    subst hMB
    refine for_sat (ds := [.int rs.length]) (l := (List.range rs.length).map fun i : Nat => D.int (i : Int)) (fun i ρ st' => st' = [o3] ∧ ∃ u16, ρ = [some s, some (.loc 0), v2, v3, v4, some j, some (bookD b), some (mdlD (mdl b rs)), some (.int n), some (pt p), some (.tup ((kindsW (mdl b rs) p).map wd)), some (sp more), some (sp (0, 0)), some (mdlD (mdl b (rs.map (mvRule more more)))), some (mdlD ML), some (mdlD MR), u16, v17, v18, v19, v20, v21, v22, v23, v24]) (by simp [hrules]) (fun i ρ st' _ => itList_rangeN (by omega)) ⟨rfl, v16, rfl⟩ ?_ ?_
    · rintro i ρ st' hi ⟨rfl, u16, rfl⟩
      have hi' : i < rs.length := by simpa using hi
      have hr := List.getElem_mem hi'
      have x1 := ev_reach (st := [o3]) (m := m) h.c_reach (by omega) hM (M := mdl b rs) (i := i) hi' (p := p) (k := 20) (l := 3) (by simp [mdl, hnl, hp]) (big (R1 _ hr).2.2).1 hps (by omega) (by omega) (by omega)
      have hiB : i < (mdl b (rs.map (mvRule more more))).rules.length := by simpa [mdl] using hi'
      have eB : (mdl b (rs.map (mvRule more more))).rules[i] = mvRule more more rs[i] := by simp [mdl]
      have rB := (SB (mvRule more more rs[i]) (List.mem_map.mpr ⟨_, hr, rfl⟩))
      have x2 := ev_reach (st := [o3]) (m := m) h.c_reach (by omega) hM (M := mdl b (rs.map (mvRule more more))) (i := i) hiB (p := p) (k := 20) (l := 3) (by simp [mdl, hnl, hp]) (by rw [eB]; exact rB.2.1) hps (by omega) (by omega) (by omega)
      have x3 := ev_room (st := [o3]) (m := m) h.c_room (by omega) hM .some (M := mdl b rs) (i := i) hi' (p := p) (k := 20) (l := 3) (by simp [mdl, hnl, hp]) (big (R1 _ hr).2.2) hps (by omega) (by omega) (by omega)
      have x4 := ev_room (st := [o3]) (m := m) h.c_room (by omega) hM .some (M := mdl b (rs.map (mvRule more more))) (i := i) hiB (p := p) (k := 20) (l := 3) (by simp [mdl, hnl, hp]) (by rw [eB]; exact rB.2) hps (by omega) (by omega) (by omega)
      rw [eB] at x2 x4
      have e0 : (mdl b rs).rules[i] = rs[i] := rfl
      rw [e0] at x1 x3
      simp only [Wd.str] at x3 x4
      obtain ⟨g1, g2⟩ := subm more more q1 q2 q1 q2 mo rs[i] hr
      have y1 := ssz_reachS (big (R1 _ hr).2.2).1 hps
      have y2 := ssz_reachS rB.2.1 hps
      have x5 := ev_within (st := [o3]) (m := m) h.c_within (by omega) (s := reachS rs[i].row p) (t := reachS (mvRule more more rs[i]).row p) (by omega) (by omega) (S0 _ hr).1 rB.1.1
      have g1' : (reachS (mvRule more more rs[i]).row p).1 ≤ (reachS rs[i].row p).1 ∧ (reachS rs[i].row p).2 ≤ (reachS (mvRule more more rs[i]).row p).2 := g1
      rw [decide_eq_true g1'] at x5
      have x6 := ev_law_less (st := [o3]) (m := m) h.c__law_less (by omega) (a := roomQ .some (mvRule more more rs[i]) p) (b := roomQ .some rs[i] p) (sz_roomQ _ rB.2 hps (by omega) (by omega)) (sz_roomQ _ (big (R1 _ hr).2.2) hps (by omega) (by omega))
      have x7 : ¬ roomQ .some (mvRule more more rs[i]) p < roomQ .some rs[i] p := by
        have := room_some_wide (r := rs[i]) (r' := mvRule more more rs[i]) (p := p) rfl (S0 _ hr).1 (S0 _ hr).2 g1 g2
        grind
      rw [decide_eq_false x7] at x6
      generalize rs[i] = r at *
      simp [x1, x2, x3, x4, x5, x6]
    · rintro ρ st' ⟨rfl, u16, rfl⟩
      have l2 : ∀ (u17 u18 : Option D), ev T (callN T 1000 m) (.lc false [21, 22, 23, 15] (.tup [.var 21, .bi .tuple [.lc false [24] (.bin .Mult (.tup [.call i_middle [.var 24]]) (.lit (.int 2))) (.nm 24) .one [.var 22] []], .var 23, .bin .Mult (.tup [.call i_middle [.var 15]]) (.lit (.int 2))]) (.tup [.nm 21, .nm 22, .nm 23, .nm 15]) .one [.ix (.var 6) (.lit (.str "rules"))] []) [some s, some (.loc 0), v2, v3, v4, some j, some (bookD b), some (mdlD (mdl b rs)), some (.int n), some (pt p), some (.tup ((kindsW (mdl b rs) p).map wd)), some (sp more), some (sp (0, 0)), some (mdlD (mdl b (rs.map (mvRule more more)))), some (mdlD ML), some (mdlD MR), u16, u17, u18, v19, v20, v21, v22, v23, v24] [o3] = .ok (.lst (rs.map fun r => ruleD (thinRule r))) [o3] := fun u17 u18 =>
        lc_pure (xs := rs) (enc := ruleD) _ (ds := [.lst (rs.map ruleD)]) (by simp [hrules]) (by simp) (Nat.le_trans hrl (by decide)) (fun r hr => by
          have z := R1 r hr
          have l3 : ∀ (a c d e f g : Option D), ev T (callN T 1000 m) (.lc false [24] (.bin .Mult (.tup [.call i_middle [.var 24]]) (.lit (.int 2))) (.nm 24) .one [.var 22] []) [some s, some (.loc 0), v2, v3, v4, some j, some (bookD b), some (mdlD (mdl b rs)), some (.int n), some (pt p), some (.tup ((kindsW (mdl b rs) p).map wd)), some (sp more), some (sp (0, 0)), some (mdlD (mdl b (rs.map (mvRule more more)))), some (mdlD ML), a, u16, c, d, v19, v20, e, some (rowD r.row), f, g] [o3] = .ok (.lst (r.row.map fun s => sp (thinS s))) [o3] := fun a c d e f g =>
            lc_pure (xs := r.row) (enc := sp) _ (ds := [rowD r.row]) (by simp) (by simp) (Nat.le_trans (by rw [(hb.ok r hr).len]; omega) (show 3 ≤ LIM by decide)) (fun x hx => by
              have e : callN T 1000 m i_middle [sp x] [o3] = .ok (rt (mid x)) [o3] := ev_middle h.c_middle (by omega) (Nat.le_trans (z.2.2.1 x hx) (by omega)) (z.1 x hx)
              simp [turnR, wipeD, e, dup2, thinS, sp_mk])
          have e : callN T 1000 m i_middle [sp r.right] [o3] = .ok (rt (mid r.right)) [o3] := ev_middle h.c_middle (by omega) (Nat.le_trans z.2.2.2 (by omega)) z.2.1
          have e2 : D.tup [.str r.name, .tup (r.row.map fun s => sp (thinS s)), kindD r.eq, sp (thinS r.right)] = ruleD (thinRule r) := by
            unfold ruleD thinRule rowD
            rw [List.map_map]; rfl
          have e3 : D.tup [rt (mid r.right), rt (mid r.right)] = sp (thinS r.right) := rfl
          simp only [turnR, wipeD]
          rw [asgT_rule]
          simp [l3, e, dup2, e2, e3])
      have el : (rs.map fun r => ruleD (thinRule r)) = (rs.map thinRule).map ruleD := by rw [List.map_map]; rfl
      rw [el] at l2
      have e4 : callN T 1000 m i__law_with [bookD b, .str "rules", .lst ((rs.map thinRule).map ruleD)] [o3] = .ok (bookD { b with rules := (rs.map thinRule).map ruleD }) [o3] := by
        have := ev_law_with (st := [o3]) (m := m) h.c__law_with (by omega) (pn_ok ho3) (ks := bkeys) (w := "rules") (d := .lst ((rs.map thinRule).map ruleD)) (by decide) hb.cl (.lst (.map fun _ _ => .ruleD _))
        rw [with_rules] at this
        exact this
      have e5 := bt (rs.map thinRule)
      have Sth : ∀ r ∈ rs.map thinRule, (Sok (reachS r.row p) ∧ Sok r.right) ∧ RuleSz r 20 := fun r hr => by
        obtain ⟨r0, h0, rfl⟩ := List.mem_map.mp hr
        have z := R1 r0 h0
        refine ⟨⟨reach_ok fun s hs => ?_, thin_ok _⟩, fun s hs => ?_, ?_⟩
        · obtain ⟨x, _, rfl⟩ := List.mem_map.mp hs
          exact thin_ok x
        · obtain ⟨x, hx, rfl⟩ := List.mem_map.mp hs
          have := thinS_sz (z.2.2.1 x hx)
          omega
        · have := thinS_sz z.2.2.2
          show ssz (thinS r0.right) ≤ 20
          omega
      have kT := fun st => kind st (rs.map thinRule) (by rw [List.length_map]; exact hrl) fun r hr => (Sth r hr).2
      have isT := fun w => isOf_iff (w := w) (b := b) (rs := rs.map thinRule) (p := p) fun r hr => (Sth r hr).1
      have isT' : ∀ w, isOf w (mdl b (rs.map thinRule)) p = isOf .some (mdl b (rs.map thinRule)) p := fun w => by
        rw [isT, isT, map_all, map_all]
        refine congrArg (fun f => rs.all f) (funext fun r => ?_)
        exact roomB_thin thin_reach rfl w
      have t1 : kindsW (mdl b (rs.map thinRule)) p = [] ∨ (kindsW (mdl b (rs.map thinRule)) p = allW ∧ isOf .some (mdl b (rs.map thinRule)) p = true) := by
        cases c : isOf .some (mdl b (rs.map thinRule)) p with
        | true => exact .inr ⟨kinds_all fun w => by rw [isT', c], rfl⟩
        | false => exact .inl (kinds_none fun w => by rw [isT', c])
      have cf := fun st => ev_choice_for (st := st) (m := m) h.c_choice_for (by omega) hM (M := mdl b rs) (p := p) (k := 20) (l := 3) (by simp [mdl, hnl, hp]) (fun r hr => big (R1 r hr).2.2) (fun r hr => (R1 r hr).1) hps (by omega) (by omega) (by omega) (Nat.le_trans hrl (by decide))
      have cs : isOf .some (mdl b (rs.map thinRule)) p = true → isNon (choiceOD (choiceFor (mdl b rs) p)) = false := fun z => by
        rw [isT, map_all] at z
        have all : ∀ r ∈ rs, pairFor r p ≠ none := fun r hr => by
          have z1 := List.all_eq_true.mp z r hr
          have z2 : roomB r.eq (reachS r.row p) r.right .some = true := roomB_some_wide (sub_reach' fun s hs => ⟨(R1 r hr).1 s hs, thin_ok s, thin_sub ((R1 r hr).1 s hs)⟩) (thin_sub (R1 r hr).2.1) z1
          unfold pairFor
          cases hq : r.eq with
          | true =>
            rw [hq] at z2
            have : ¬ min (reachS r.row p).2 r.right.2 < max (reachS r.row p).1 r.right.1 := by
              simpa [roomB, room4] using z2
            simp [this]
          | false =>
            rw [hq] at z2
            have : ¬ r.right.2 < (reachS r.row p).1 := by
              simpa [roomB, room4m] using z2
            simp [this]
        cases hc : choiceFor (mdl b rs) p with
        | none =>
          obtain ⟨r, hr, e⟩ := mapM_none hc
          exact (all r hr e).elim
        | some x => rfl
      have fin : ∀ u16 u17 u18, Q (.next [some s, some (.loc 0), v2, v3, v4, some j, some (bookD b), some (mdlD (mdl b rs)), some (.int n), some (pt p), some (.tup ((kindsW (mdl b rs) p).map wd)), some (sp more), some (sp (0, 0)), some (mdlD (mdl b (rs.map (mvRule more more)))), some (mdlD ML), some (mdlD MR), u16, u17, u18, v19, v20, v21, v22, v23, v24]) [o3] := fun u16 u17 u18 => q o3 _ rfl ho3
      generalize (rs.map thinRule).map ruleD = RS at *
      have wi : ∀ st, inD st (.tup ((kindsW (mdl b (rs.map thinRule)) p).map wd)) (.tup [.tup [], .tup [.str "some", .str "held", .str "bears", .str "steers"]]) = some true := fun st => by
        rw [wds_in, decide_eq_true]
        rcases t1 with c | ⟨c, _⟩
        · exact .inl c
        · exact .inr c
      rcases t1 with c | ⟨c, c'⟩
      · have w0 : ∀ st, eqD st (.tup ((kindsW (mdl b (rs.map thinRule)) p).map wd)) (.tup []) = some true := fun st => by rw [wds0, decide_eq_true c]
        simp [l2, e4, e5, kT, wi, w0, fin]
      · have w0 : ∀ st, eqD st (.tup ((kindsW (mdl b (rs.map thinRule)) p).map wd)) (.tup []) = some false := fun st => by rw [wds0, decide_eq_false (by rw [c]; simp [allW])]
        have c3 := cs c'
        simp [l2, e4, e5, kT, wi, w0, cf, c3, fin]
  have ih : ∀ st, inD st (.str "held") (.tup ((kindsW (mdl b rs) p).map wd)) = some (isOf .held (mdl b rs) p) := fun st => by rw [in_held, kindsW_mem]
  have w4 : ∀ st, eqD st (.tup ((kindsW (mdl b rs) p).map wd)) (.tup [.str "some", .str "held", .str "bears", .str "steers"]) = some (decide (kindsW (mdl b rs) p = allW)) := fun st => wds4 _
  rcases w2 with c | ⟨t, c⟩
  · have w0 : ∀ st, eqD st (.tup ((kindsW (mdl b rs) p).map wd)) (.tup []) = some true := fun st => by rw [wds0, decide_eq_true c]
    simpa [lap19, forBody, c_law_k19, k0, ih, w4, w0, iteR_and, c1] using rest
  · have w0 : ∀ st, eqD st (.tup ((kindsW (mdl b rs) p).map wd)) (.tup []) = some false := fun st => by rw [wds0, decide_eq_false (by rw [c]; exact fun z => nomatch z)]
    have ix : ∀ st, ixD st (.tup ((kindsW (mdl b rs) p).map wd)) (.int 0) = some (.str "some") := fun st => by rw [c]; simp [wd, Wd.str]
    have ee : ∀ st, eqD st (.str "some") (.str "some") = some true := fun st => by
      have := wd_ok.eq (by decide) st .some .some
      simpa [wd, Wd.str] using this
    simpa [lap19, forBody, c_law_k19, k0, ih, w4, w0, iteR_and, c1, ix, ee] using rest
theorem tight_kinds {q : Rat} {a b : Span} (ha : Sok a) (hb : Sok b) (hs : Sok (sadd (q, q) a)) (ht : Sok (sadd (q, q) b)) : (kindsW (mdl ⟨["x"], [], [], []⟩ [mvRule a b ⟨"r", [(q, q)], false, (q, q)⟩]) [1]) = allW.filter fun w => room4m (sadd (q, q) a) (sadd (q, q) b) w := by
  have e : reachS [sadd (q, q) a] [1] = sadd (q, q) a := by
    have e1 : reachS [sadd (q, q) a] [1] = rstep (0, 0) (sadd (q, q) a, 1) := rfl
    rw [e1]
    unfold rstep
    dsimp only
    rw [smul_pt hs, if_pos (by decide)]
    generalize sadd (q, q) a = x
    obtain ⟨u, v⟩ := x
    simp [Rat.zero_add, Rat.mul_one]
  unfold kindsW
  refine congrArg (fun f => List.filter f allW) (funext fun w => ?_)
  have h : ∀ r ∈ [mvRule a b ⟨"r", [(q, q)], false, (q, q)⟩], Sok (reachS r.row [1]) ∧ Sok r.right := fun r hr => by
    rw [List.mem_singleton.mp hr]
    refine ⟨?_, ht⟩
    show Sok (reachS [sadd (q, q) a] [1])
    rw [e]; exact hs
  rw [isOf_iff h]
  show (roomB false (reachS [sadd (q, q) a] [1]) (sadd (q, q) b) w && true) = _
  rw [e, Bool.and_true]
  rfl
theorem says_k19 (h : H_law_k19 T) (hM : HC T k_Model kc_Model) (ns : List Int) (hns : ns.length ≤ 63) : ∃ st, callN T 1000 24 i_law_k19 [.ro (ns.map D.int)] [] = .ok (.bl true) st := by
  have key : (callN T 1000 24 i_law_k19 [.ro (ns.map D.int)] []).sat fun d _ => d = .bl true := by
    refine callN_sat (n := 23) (by omega) h.look rfl fun m hm => ?_
    simp [d_law_k19, c_law_k19]
    refine pen_sat h.c__law_pen (by omega) hns fun o ho => ?_
    refine draw_sat (Z := []) h.c__law_draw (by omega) (k := 900000000) (ho.mono (by omega)) (by omega) (by omega) fun d o1 d0 d1 ho1 => ?_
    simp
    obtain ⟨q, hq⟩ : ∃ q : Rat, q = ((1 + d : Int) : Rat) := ⟨_, rfl⟩
    have eq0 : D.tup [.int (1 + d), .int 1] = rt q := by rw [hq]; rfl
    have sq : sz q ≤ 3 := by
      rw [hq, sz_int]
      have : bl (1 + d).natAbs ≤ 3 := bl_le.mpr (by omega)
      omega
    obtain ⟨R0, hR⟩ : ∃ R0 : Rule, R0 = ⟨"r", [(q, q)], false, (q, q)⟩ := ⟨_, rfl⟩
    obtain ⟨B0, hB⟩ : ∃ B0 : Book, B0 = ⟨["x"], [ruleD R0], [], []⟩ := ⟨_, rfl⟩
    have eB : D.dct [.inr "unknowns", .inr "rules", .inr "costs", .inr "asks"] [.tup [.str "x"], .lst [.tup [.str "r", .tup [.tup [rt q, rt q]], .str "most", .tup [rt q, rt q]]], .lst [], .lst []] = bookD B0 := by rw [hB, hR]; rfl
    have nd : bkeys.Nodup := by decide +kernel
    simp at nd
    have clB : Cls (bookL B0) := by
      rw [hB]
      exact .cons (.tup (.cons (.str _) .nil)) (.cons (.lst (.cons (.ruleD _) .nil)) (.cons (.lst .nil) (.cons (.lst .nil) .nil)))
    have so : ∀ x : Span, Sok x → Sok (sadd (q, q) x) := fun x hx => sadd_ok (s := (q, q)) Rat.le_refl hx
    have mvz : mvRule (0, 0) (0, 0) R0 = R0 := by rw [hR]; simp [mvRule, sadd_zero]
    have bt : ∀ r : Rule, callN T 1000 m i__law_built [bookD { B0 with rules := [ruleD r] }] [o1] = .ok (mdlD (mdl B0 [r])) [o1] := fun r => built_of (rs := [r]) h.c__law_built (by omega) hM (pn_ok ho1) clB
    have b0 : callN T 1000 m i__law_built [bookD B0] [o1] = .ok (mdlD (mdl B0 [R0])) [o1] := by
      have := bt R0
      have e : ({ B0 with rules := [ruleD R0] } : Book) = B0 := by rw [hB]
      rw [e] at this
      exact this
    have mv : ∀ x y : Span, Sok x → Sok y → ssz x ≤ 5 → ssz y ≤ 5 → callN T 1000 m i__law_moved [bookD B0, sp x, sp y] [o1] = .ok (bookD { B0 with rules := [ruleD (mvRule x y R0)] }) [o1] := fun x y a1 a2 a3 a4 => by
      have := ev_law_moved (st := [o1]) (m := m) h.c__law_moved (by omega) (pn_ok ho1) (B := B0) (rs := [R0]) (a := x) (b := y) (by rw [hB]; rfl) clB (fun r hr => by
        rw [List.mem_singleton.mp hr, hR]
        exact ⟨fun s hs => by rw [List.mem_singleton.mp hs]; exact Rat.le_refl, Rat.le_refl, fun s hs => by rw [List.mem_singleton.mp hs]; exact ssz_mk (by omega) (by omega), ssz_mk (by omega) (by omega)⟩) (fun r hr => by rw [List.mem_singleton.mp hr, hR]; simp) (by simp) a1 a2 (by omega) (by omega)
      exact this
    have kk : ∀ x y : Span, Sok x → Sok y → ssz x ≤ 5 → ssz y ≤ 5 → callN T 1000 m i_kinds_of [mdlD (mdl B0 [mvRule x y R0]), .tup [rt 1]] [o1] = .ok (.tup ((allW.filter fun w => room4m (sadd (q, q) x) (sadd (q, q) y) w).map wd)) [o1] := fun x y a1 a2 a3 a4 => by
      have := ev_kinds_of (st := [o1]) (m := m) h.c_kinds_of (by omega) hM (M := mdl B0 [mvRule x y R0]) (p := [1]) (k := 20) (l := 3) (by rw [hB]; rfl) (fun r hr => by
        rw [List.mem_singleton.mp hr, hR]
        have z : ssz (q, q) ≤ 3 := ssz_mk sq sq
        have z1 := sadd_sz z a3
        have z2 := sadd_sz z a4
        exact ⟨fun s hs => by
          rw [List.mem_singleton.mp hs]
          show ssz (sadd (q, q) x) ≤ 20
          omega, by
          show ssz (sadd (q, q) y) ≤ 20
          omega⟩) (fun x hx => by rw [List.mem_singleton.mp hx]; decide +kernel) (by omega) (by omega) (by decide) (by simp [mdl, LIM])
      rw [← tight_kinds a1 a2 (so x a1) (so y a2)]
      have e : kindsW (mdl B0 [mvRule x y R0]) [1] = kindsW (mdl ⟨["x"], [], [], []⟩ [mvRule x y ⟨"r", [(q, q)], false, (q, q)⟩]) [1] := by rw [hB, hR]; rfl
      rw [← e]
      exact this
    have zo : Sok (0, 0) := Rat.le_refl
    have zs : ssz ((0, 0) : Span) ≤ 5 := by decide +kernel
    have f1 : (allW.filter fun w => room4m (sadd (q, q) (0, 0)) (sadd (q, q) (0, 0)) w) = allW := by
      refine List.filter_eq_self.mpr fun w _ => ?_
      rw [sadd_zero]
      have : ¬ q < q := Rat.lt_irrefl
      cases w <;> simp [room4m, this]
    have f2 : (allW.filter fun w => room4m (sadd (q, q) (0, 1)) (sadd (q, q) (0, 0)) w) = [.some, .steers] := by
      have g1 : room4m (sadd (q, q) (0, 1)) (sadd (q, q) (0, 0)) .some = true := by simp only [room4m, sadd]; grind
      have g2 : room4m (sadd (q, q) (0, 1)) (sadd (q, q) (0, 0)) .held = false := by simp only [room4m, sadd]; grind
      have g3 : room4m (sadd (q, q) (0, 1)) (sadd (q, q) (0, 0)) .bears = false := by simp only [room4m, sadd]; grind
      have g4 : room4m (sadd (q, q) (0, 1)) (sadd (q, q) (0, 0)) .steers = true := by simp only [room4m, sadd]; grind
      simp [allW, List.filter, g1, g2, g3, g4]
    have f3 : (allW.filter fun w => room4m (sadd (q, q) (0, 0)) (sadd (q, q) (-1, 0)) w) = [.some, .bears] := by
      have g1 : room4m (sadd (q, q) (0, 0)) (sadd (q, q) (-1, 0)) .some = true := by simp only [room4m, sadd]; grind
      have g2 : room4m (sadd (q, q) (0, 0)) (sadd (q, q) (-1, 0)) .held = false := by simp only [room4m, sadd]; grind
      have g3 : room4m (sadd (q, q) (0, 0)) (sadd (q, q) (-1, 0)) .bears = true := by simp only [room4m, sadd]; grind
      have g4 : room4m (sadd (q, q) (0, 0)) (sadd (q, q) (-1, 0)) .steers = false := by simp only [room4m, sadd]; grind
      simp [allW, List.filter, g1, g2, g3, g4]
    have o01 : Sok (0, 1) := by
      show (0 : Rat) ≤ 1
      decide +kernel
    have om1 : Sok (-1, 0) := by
      show (-1 : Rat) ≤ 0
      decide +kernel
    have s01 : ssz ((0, 1) : Span) ≤ 5 := by decide +kernel
    have sm1 : ssz ((-1, 0) : Span) ≤ 5 := by decide +kernel
    have k1 := kk (0, 0) (0, 0) zo zo zs zs
    rw [mvz, f1] at k1
    have k2 := kk (0, 1) (0, 0) o01 zo s01 zs
    rw [f2] at k2
    have k3 := kk (0, 0) (-1, 0) zo om1 zs sm1
    rw [f3] at k3
    have m2 := mv (0, 1) (0, 0) o01 zo s01 zs
    have m3 := mv (0, 0) (-1, 0) zo om1 zs sm1
    have w1 := fun st => wds4 (st := st) allW
    have w2 := fun st => wds2a (st := st) [.some, .steers]
    have w3 := fun st => wds2b (st := st) [.some, .bears]
    rw [decide_eq_true rfl] at w1 w2 w3
    have b2 := bt (mvRule (0, 1) (0, 0) R0)
    have b3 := bt (mvRule (0, 0) (-1, 0) R0)
    generalize ruleD (mvRule (0, 1) (0, 0) R0) = D2 at *
    generalize ruleD (mvRule (0, 0) (-1, 0) R0) = D3 at *
    generalize hW1 : D.tup (allW.map wd) = W1 at *
    generalize hW2 : D.tup ([Wd.some, .steers].map wd) = W2 at *
    generalize hW3 : D.tup ([Wd.some, .bears].map wd) = W3 at *
    simp only [eq0, eB]
    simp [nd, b0, rt11, rt01, rtm11, sp_mk, k1, k2, k3, m2, m3, w1, w2, w3, b2, b3]
    clear k1 k2 k3 m2 m3 w1 w2 w3 b2 b3 b0 bt mv kk eB f1 f2 f3 so
    refine for_sat (ds := [.int (3 : Nat)]) (l := (List.range 3).map fun i : Nat => D.int (i : Int)) (fun j ρ st' => ∃ o tl, st' = [o] ∧ Pn (100000 * (3 - j)) o ∧ tl.length = 23 ∧ ρ = some (.ro (ns.map D.int)) :: some (.loc 0) :: tl) (by simp) (fun j ρ st' _ => itList_rangeN (by omega)) ⟨o1, _, rfl, ho1.mono (by omega), ?_, rfl⟩ ?_ ?_
    · rfl
    · rintro j ρ st' hj ⟨o2, tl, rfl, ho2, htl, rfl⟩
      simp at hj
      have hj3 : 100000 * (3 - j) = 100000 * (3 - (j + 1)) + 98000 + 2000 := by omega
      rw [hj3] at ho2
      match tl, htl with
      | [v2, v3, v4, v5, v6, v7, v8, v9, v10, v11, v12, v13, v14, v15, v16, v17, v18, v19, v20, v21, v22, v23, v24], _ =>
        refine lap_k19 h hM (by omega) ho2 _ _ v2 v3 v4 v5 v6 v7 v8 v9 v10 v11 v12 v13 v14 v15 v16 v17 v18 v19 v20 v21 v22 v23 v24 fun o3 tl ht ho3 => ?_
        exact ⟨o3, tl, rfl, ho3.mono (by omega), ht, rfl⟩
    · rintro ρ st' ⟨o2, tl, rfl, ho2, htl, rfl⟩
      simp
      exact R.sat_eq (show leave true 0 (.bl true) [o2] = .ok (.bl true) [] from rfl) rfl
  obtain ⟨⟨d, st, e, rfl⟩⟩ := key
  exact ⟨st, e⟩
end
end G

set_option maxHeartbeats 0
namespace Kk19
open PySem PySem.Spec PyProof.Rows L2 G
def top (i : Nat) : Stmt := PySem.Challenge.pw_doubtpapers_k19_wider_spans.main.body.getD i (.Pass ⟨0, 0, 0, 0⟩)
def defLaw : DefT := ⟨815, ("law", none), "law", "law", top 85, ["script"], ["script", "pen", "by", "tight", "wider", "lap", "book", "model", "size", "point", "words", "more", "none", "both", "left", "right", "k", "rules", "thin", "a", "b", "name", "row", "kind", "span"], d_law_k19⟩
def defs0 : List DefT := [
  defLaw,
  ⟨401, ("_law_pen", none), "_law_pen", "_law_pen", top 68, ["script"], ["script", "fold", "cell"], d__law_pen⟩,
  ⟨287, ("_law_draw", none), "_law_draw", "_law_draw", top 69, ["pen", "many"], ["pen", "many", "cell", "digit", "blend"], d__law_draw⟩,
  ⟨792, ("kinds_of", none), "kinds_of", "kinds_of", top 60, ["model", "point"], ["model", "point", "spot", "word"], d_kinds_of⟩,
  ⟨148, ("_law_built", none), "_law_built", "_law_built", top 80, ["book"], ["book"], d__law_built⟩,
  ⟨376, ("_law_moved", none), "_law_moved", "_law_moved", top 84, ["book", "coefs_by", "rights_by"], ["book", "coefs_by", "rights_by", "rules", "name", "row", "kind", "right", "span"], d__law_moved⟩,
  ⟨444, ("_law_rules", none), "_law_rules", "_law_rules", top 82, ["pen", "size", "many"], ["pen", "size", "many"], d__law_rules⟩,
  ⟨475, ("_law_some_point", none), "_law_some_point", "_law_some_point", top 83, ["pen", "book"], ["pen", "book", "name"], d__law_some_point⟩,
  ⟨402, ("_law_pick", none), "_law_pick", "_law_pick", top 70, ["pen", "some"], ["pen", "some"], d__law_pick⟩,
  ⟨735, ("is_point_of", none), "is_point_of", "is_point_of", top 59, ["model", "word", "value"], ["model", "word", "value"], d_is_point_of⟩,
  ⟨1139, ("within", none), "within", "within", top 47, ["one", "other"], ["one", "other", "first", "second"], d_within⟩,
  ⟨989, ("reach", none), "reach", "reach", top 55, ["model", "rule", "point"], ["model", "rule", "point"], d_reach⟩,
  ⟨359, ("_law_less", none), "_law_less", "_law_less", top 74, ["one", "two"], ["one", "two"], d__law_less⟩,
  ⟨1006, ("room", none), "room", "room", top 57, ["model", "word", "rule", "point"], ["model", "word", "rule", "point"], d_room⟩,
  ⟨916, ("middle", none), "middle", "middle", top 40, ["span"], ["span"], d_middle⟩,
  ⟨528, ("_law_with", none), "_law_with", "_law_with", top 81, ["book", "word", "thing"], ["book", "word", "thing", "found"], d__law_with⟩,
  ⟨591, ("choice_for", none), "choice_for", "choice_for", top 66, ["model", "point"], ["model", "point", "spot", "pairs", "rule", "pair"], d_choice_for⟩,
  ⟨933, ("need_model", none), "need_model", "need_model", top 26, ["model"], ["model"], d_need_model⟩,
  ⟨977, ("point_from", none), "point_from", "point_from", top 53, ["model", "point"], ["model", "point"], d_point_from⟩,
  ⟨724, ("is_of", none), "is_of", "is_of", top 58, ["model", "word", "point"], ["model", "word", "point", "rule"], d_is_of⟩]
def defs1 : List DefT := [
  ⟨22, ("Model", some "__init__"), "__init__", "Model.__init__", inClass (top 24) 0, ["self", "unknowns", "rules", "costs", "asks"], ["self", "unknowns", "rules", "costs", "asks"], d_Model___init__⟩,
  ⟨971, ("plus_spans", none), "plus_spans", "plus_spans", top 43, ["one", "other"], ["one", "other", "first", "second"], d_plus_spans⟩,
  ⟨142, ("_law_book", none), "_law_book", "_law_book", top 78, ["pen", "size", "many", "most"], ["pen", "size", "many", "most", "names", "rules", "costs", "book", "k", "name"], d__law_book⟩,
  ⟨426, ("_law_ratio", none), "_law_ratio", "_law_ratio", top 79, ["pen", "most"], ["pen", "most"], d__law_ratio⟩,
  ⟨949, ("need_word", none), "need_word", "need_word", top 52, ["word"], ["word"], d_need_word⟩,
  ⟨752, ("is_row_told", none), "is_row_told", "is_row_told", top 33, ["value", "many"], ["value", "many", "item"], d_is_row_told⟩,
  ⟨580, ("both_from", none), "both_from", "both_from", top 41, ["one", "other"], ["one", "other", "first"], d_both_from⟩,
  ⟨784, ("is_within", none), "is_within", "is_within", top 46, ["first", "second"], ["first", "second"], d_is_within⟩,
  ⟨935, ("need_number", none), "need_number", "need_number", top 27, ["what", "rows", "number"], ["what", "rows", "number"], d_need_number⟩,
  ⟨990, ("reach_by", none), "reach_by", "reach_by", top 54, ["rule", "point"], ["rule", "point", "out", "span", "item"], d_reach_by⟩,
  ⟨1008, ("room_by", none), "room_by", "room_by", top 56, ["word", "rule", "point"], ["word", "rule", "point", "made", "right", "gap", "ends", "first"], d_room_by⟩,
  ⟨918, ("middle_by", none), "middle_by", "middle_by", top 28, ["span"], ["span"], d_middle_by⟩,
  ⟨1080, ("span_from", none), "span_from", "span_from", top 39, ["value"], ["value", "made", "out", "item"], d_span_from⟩,
  ⟨962, ("pair_for", none), "pair_for", "pair_for", top 64, ["rule", "point"], ["rule", "point", "made", "both"], d_pair_for⟩,
  ⟨1087, ("split", none), "split", "split", top 65, ["pairs"], ["pairs", "row", "right"], d_split⟩,
  ⟨1013, ("row_from", none), "row_from", "row_from", top 32, ["value", "many"], ["value", "many", "made", "item"], d_row_from⟩,
  ⟨602, ("copied", none), "copied", "copied", top 10, ["value"], ["value"], d_copied⟩,
  ⟨1089, ("sum_by", none), "sum_by", "sum_by", top 42, ["first", "second"], ["first", "second"], d_sum_by⟩,
  ⟨441, ("_law_rule", none), "_law_rule", "_law_rule", top 76, ["pen", "name", "size", "equal"], ["pen", "name", "size", "equal", "kind", "k"], d__law_rule⟩,
  ⟨477, ("_law_span", none), "_law_span", "_law_span", top 75, ["pen", "wide"], ["pen", "wide", "low"], d__law_span⟩]
def defs2 : List DefT := [
  ⟨472, ("_law_some_ask", none), "_law_some_ask", "_law_some_ask", top 77, ["pen", "book"], ["pen", "book", "word", "kind"], d__law_some_ask⟩,
  ⟨419, ("_law_q", none), "_law_q", "_law_q", top 72, ["top", "bottom"], ["top", "bottom", "by"], d__law_q⟩,
  ⟨779, ("is_tuple_of", none), "is_tuple_of", "is_tuple_of", top 9, ["value", "many"], ["value", "many"], d_is_tuple_of⟩,
  ⟨776, ("is_told", none), "is_told", "is_told", top 16, ["value"], ["value"], d_is_told⟩,
  ⟨573, ("below", none), "below", "below", top 20, ["one", "other"], ["one", "other"], d_below⟩,
  ⟨783, ("is_whole", none), "is_whole", "is_whole", top 7, ["value"], ["value"], d_is_whole⟩,
  ⟨981, ("product_by", none), "product_by", "product_by", top 44, ["first", "second"], ["first", "second", "made"], d_product_by⟩,
  ⟨905, ("lessened", none), "lessened", "lessened", top 18, ["one", "other"], ["one", "other"], d_lessened⟩,
  ⟨1032, ("scaled", none), "scaled", "scaled", top 19, ["one", "other"], ["one", "other"], d_scaled⟩,
  ⟨1132, ("width_by", none), "width_by", "width_by", top 29, ["span"], ["span"], d_width_by⟩,
  ⟨1118, ("turned_sign", none), "turned_sign", "turned_sign", top 21, ["one"], ["one"], d_turned_sign⟩,
  ⟨1065, ("size_of", none), "size_of", "size_of", top 35, ["item"], ["item"], d_size_of⟩,
  ⟨1094, ("summed", none), "summed", "summed", top 17, ["one", "other"], ["one", "other"], d_summed⟩,
  ⟨661, ("in_tuples", none), "in_tuples", "in_tuples", top 8, ["value"], ["value", "item"], d_in_tuples⟩,
  ⟨742, ("is_ratio", none), "is_ratio", "is_ratio", top 13, ["value"], ["value"], d_is_ratio⟩,
  ⟨1107, ("told", none), "told", "told", top 15, ["ratio"], ["ratio"], d_told⟩,
  ⟨601, ("common_by", none), "common_by", "common_by", top 45, ["first", "second"], ["first", "second", "low", "high"], d_common_by⟩,
  ⟨1010, ("row_for", none), "row_for", "row_for", top 62, ["rule", "point", "due"], ["rule", "point", "due", "low", "high", "first", "last", "share", "a", "b"], d_row_for⟩,
  ⟨639, ("end_row", none), "end_row", "end_row", top 61, ["rule", "point", "high"], ["rule", "point", "high", "span", "item"], d_end_row⟩,
  ⟨408, ("_law_plus", none), "_law_plus", "_law_plus", top 73, ["one", "two"], ["one", "two"], d__law_plus⟩]
def defs3 : List DefT := [
  ⟨308, ("_law_gcd", none), "_law_gcd", "_law_gcd", top 71, ["one", "two"], ["one", "two", "lap"], d__law_gcd⟩,
  ⟨727, ("is_pair", none), "is_pair", "is_pair", top 12, ["value"], ["value"], d_is_pair⟩,
  ⟨898, ("least_of", none), "least_of", "least_of", top 36, ["items"], ["items", "out", "item"], d_least_of⟩,
  ⟨924, ("most_of", none), "most_of", "most_of", top 37, ["items"], ["items", "out", "item"], d_most_of⟩,
  ⟨915, ("lowest", none), "lowest", "lowest", top 14, ["top", "bottom"], ["top", "bottom", "by"], d_lowest⟩,
  ⟨633, ("dot_of", none), "dot_of", "dot_of", top 34, ["one", "other"], ["one", "other", "out", "a", "b"], d_dot_of⟩,
  ⟨1117, ("turned_ratio", none), "turned_ratio", "turned_ratio", top 63, ["item"], ["item"], d_turned_ratio⟩]
def defs : List DefT := defs0 ++ (defs1 ++ (defs2 ++ (defs3)))
def lawT : LawT where
  defs := defs
  clss := [⟨14, "Model", ⟨(some 22), [], [4, 12, 70, 87], true⟩⟩]
  attrs := [(4, "asks"), (12, "costs"), (70, "rules"), (87, "unknowns")]
  cons := [("WORDS", .tup [.str "some", .str "held", .str "bears", .str "steers"]), ("NONE", .tup [.int 0, .int 1]), ("HALF", .tup [.int 1, .int 2])]
  free := ["abs", "all", "any", "bool", "dict", "int", "isinstance", "len", "list", "range", "str", "tuple", "zip"]
  gcd := true
  isi := [((.cls 14, .cls 14), true), ((.cls 14, .ty .bl), false), ((.cls 14, .ty .int), false), ((.cls 14, .ty .str), false), ((.cls 14, .ty .tup), false), ((.cls 14, .ty .lst), false), ((.cls 14, .ty .dct), false), ((.ty .non, .cls 14), false), ((.ty .bl, .cls 14), false), ((.ty .int, .cls 14), false), ((.ty .str, .cls 14), false), ((.ty .tup, .cls 14), false), ((.ty .lst, .cls 14), false), ((.ty .dct, .cls 14), false)]
  kds := [("BY_COEFS", ["some", "held", "bears", "steers"], [.int 1, .int (-1), .int (-1), .int 1]), ("BY_RIGHTS", ["some", "held", "bears", "steers"], [.int 1, .int (-1), .int 1, .int (-1)])]
def lawId : Nat := 815
def names0 : List PySem.Str := ["__name__", "DoubtError", "BadNumber", "BadRow", "Unlike", "is_whole", "in_tuples", "is_tuple_of", "copied", "is_pair", "is_ratio", "lowest", "told", "is_told", "summed", "lessened", "scaled", "below", "turned_sign", "HALF", "Model", "model_key", "need_model", "need_number"]
def names1 : List PySem.Str := ["middle_by", "width_by", "NONE", "row_from", "is_row_told", "dot_of", "size_of", "least_of", "most_of", "span_from", "middle", "both_from", "sum_by", "plus_spans", "product_by", "common_by", "is_within", "within", "WORDS", "BY_COEFS", "BY_RIGHTS", "need_word", "point_from", "reach_by"]
def names2 : List PySem.Str := ["reach", "room_by", "room", "is_of", "is_point_of", "kinds_of", "end_row", "row_for", "turned_ratio", "pair_for", "split", "choice_for", "_law_pen", "_law_draw", "_law_pick", "_law_gcd", "_law_q", "_law_plus", "_law_less", "_law_span", "_law_rule", "_law_some_ask", "_law_book", "_law_ratio"]
def names3 : List PySem.Str := ["_law_built", "_law_with", "_law_rules", "_law_some_point", "_law_moved"]
def names : List PySem.Str := names0 ++ (names1 ++ (names2 ++ (names3)))
theorem hh_copied : H_copied lawT.tab := { look := rfl }
theorem hh_Model___init__ : H_Model___init__ lawT.tab := { look := rfl, c_copied := hh_copied }
theorem hh__law_draw : H__law_draw lawT.tab := { look := rfl }
theorem hh__law_pick : H__law_pick lawT.tab := { look := rfl, c__law_draw := hh__law_draw }
theorem hh__law_gcd : H__law_gcd lawT.tab := { look := rfl }
theorem hh__law_q : H__law_q lawT.tab := { look := rfl, c__law_gcd := hh__law_gcd }
theorem hh__law_plus : H__law_plus lawT.tab := { look := rfl, c__law_q := hh__law_q }
theorem hh__law_span : H__law_span lawT.tab := { look := rfl, c__law_draw := hh__law_draw, c__law_pick := hh__law_pick, c__law_plus := hh__law_plus, c__law_q := hh__law_q }
theorem hh__law_rule : H__law_rule lawT.tab := { look := rfl, c__law_pick := hh__law_pick, c__law_span := hh__law_span }
theorem hh__law_some_ask : H__law_some_ask lawT.tab := { look := rfl, c__law_draw := hh__law_draw, c__law_pick := hh__law_pick }
theorem hh__law_book : H__law_book lawT.tab := { look := rfl, c__law_draw := hh__law_draw, c__law_rule := hh__law_rule, c__law_some_ask := hh__law_some_ask, c__law_span := hh__law_span }
theorem hh__law_built : H__law_built lawT.tab := { look := rfl, c_Model___init__ := hh_Model___init__, k_Model := rfl }
theorem hh__law_less : H__law_less lawT.tab := { look := rfl }
theorem hh__law_with : H__law_with lawT.tab := { look := rfl }
theorem hh_below : H_below lawT.tab := { look := rfl }
theorem hh_in_tuples : H_in_tuples lawT.tab := { look := rfl }
theorem hh_is_whole : H_is_whole lawT.tab := { look := rfl }
theorem hh_is_pair : H_is_pair lawT.tab := { look := rfl, c_is_whole := hh_is_whole }
theorem hh_is_ratio : H_is_ratio lawT.tab := { look := rfl, c_is_pair := hh_is_pair, c_is_whole := hh_is_whole }
theorem hh_is_tuple_of : H_is_tuple_of lawT.tab := { look := rfl }
theorem hh_lowest : H_lowest lawT.tab := { look := rfl }
theorem hh_told : H_told lawT.tab := { look := rfl, c_is_pair := hh_is_pair, c_is_whole := hh_is_whole, c_lowest := hh_lowest }
theorem hh_span_from : H_span_from lawT.tab := { look := rfl, c_below := hh_below, c_in_tuples := hh_in_tuples, c_is_ratio := hh_is_ratio, c_is_tuple_of := hh_is_tuple_of, c_told := hh_told }
theorem hh_both_from : H_both_from lawT.tab := { look := rfl, c_span_from := hh_span_from }
theorem hh_summed : H_summed lawT.tab := { look := rfl, c_lowest := hh_lowest }
theorem hh_sum_by : H_sum_by lawT.tab := { look := rfl, c_summed := hh_summed }
theorem hh_plus_spans : H_plus_spans lawT.tab := { look := rfl, c_both_from := hh_both_from, c_sum_by := hh_sum_by }
theorem hh__law_moved : H__law_moved lawT.tab := { look := rfl, c__law_with := hh__law_with, c_plus_spans := hh_plus_spans }
theorem hh__law_pen : H__law_pen lawT.tab := { look := rfl }
theorem hh__law_ratio : H__law_ratio lawT.tab := { look := rfl, c__law_draw := hh__law_draw, c__law_pick := hh__law_pick, c__law_q := hh__law_q }
theorem hh__law_rules : H__law_rules lawT.tab := { look := rfl, c__law_book := hh__law_book, c__law_with := hh__law_with }
theorem hh__law_some_point : H__law_some_point lawT.tab := { look := rfl, c__law_ratio := hh__law_ratio }
theorem hh_need_model : H_need_model lawT.tab := { look := rfl }
theorem hh_least_of : H_least_of lawT.tab := { look := rfl, c_below := hh_below }
theorem hh_most_of : H_most_of lawT.tab := { look := rfl, c_below := hh_below }
theorem hh_common_by : H_common_by lawT.tab := { look := rfl, c_below := hh_below, c_least_of := hh_least_of, c_most_of := hh_most_of }
theorem hh_end_row : H_end_row lawT.tab := { look := rfl }
theorem hh_scaled : H_scaled lawT.tab := { look := rfl, c_lowest := hh_lowest }
theorem hh_product_by : H_product_by lawT.tab := { look := rfl, c_least_of := hh_least_of, c_most_of := hh_most_of, c_scaled := hh_scaled }
theorem hh_reach_by : H_reach_by lawT.tab := { look := rfl, c_product_by := hh_product_by, c_sum_by := hh_sum_by }
theorem hh_dot_of : H_dot_of lawT.tab := { look := rfl, c_scaled := hh_scaled, c_summed := hh_summed }
theorem hh_lessened : H_lessened lawT.tab := { look := rfl, c_lowest := hh_lowest }
theorem hh_turned_ratio : H_turned_ratio lawT.tab := { look := rfl }
theorem hh_row_for : H_row_for lawT.tab := { look := rfl, c_dot_of := hh_dot_of, c_end_row := hh_end_row, c_lessened := hh_lessened, c_scaled := hh_scaled, c_summed := hh_summed, c_turned_ratio := hh_turned_ratio }
theorem hh_pair_for : H_pair_for lawT.tab := { look := rfl, c_below := hh_below, c_common_by := hh_common_by, c_end_row := hh_end_row, c_reach_by := hh_reach_by, c_row_for := hh_row_for }
theorem hh_row_from : H_row_from lawT.tab := { look := rfl, c_in_tuples := hh_in_tuples, c_is_ratio := hh_is_ratio, c_is_tuple_of := hh_is_tuple_of, c_told := hh_told }
theorem hh_point_from : H_point_from lawT.tab := { look := rfl, c_row_from := hh_row_from }
theorem hh_split : H_split lawT.tab := { look := rfl }
theorem hh_choice_for : H_choice_for lawT.tab := { look := rfl, c_need_model := hh_need_model, c_pair_for := hh_pair_for, c_point_from := hh_point_from, c_split := hh_split }
theorem hh_middle_by : H_middle_by lawT.tab := { look := rfl, c_scaled := hh_scaled, c_summed := hh_summed }
theorem hh_size_of : H_size_of lawT.tab := { look := rfl }
theorem hh_turned_sign : H_turned_sign lawT.tab := { look := rfl }
theorem hh_width_by : H_width_by lawT.tab := { look := rfl, c_lessened := hh_lessened, c_scaled := hh_scaled }
theorem hh_room_by : H_room_by lawT.tab := { look := rfl, c_lessened := hh_lessened, c_middle_by := hh_middle_by, c_reach_by := hh_reach_by, c_scaled := hh_scaled, c_size_of := hh_size_of, c_summed := hh_summed, c_turned_sign := hh_turned_sign, c_width_by := hh_width_by }
theorem hh_is_of : H_is_of lawT.tab := { look := rfl, c_room_by := hh_room_by }
theorem hh_is_told : H_is_told lawT.tab := { look := rfl, c_is_pair := hh_is_pair }
theorem hh_is_row_told : H_is_row_told lawT.tab := { look := rfl, c_is_told := hh_is_told, c_is_tuple_of := hh_is_tuple_of }
theorem hh_need_word : H_need_word lawT.tab := { look := rfl }
theorem hh_is_point_of : H_is_point_of lawT.tab := { look := rfl, c_is_of := hh_is_of, c_is_row_told := hh_is_row_told, c_need_model := hh_need_model, c_need_word := hh_need_word }
theorem hh_is_within : H_is_within lawT.tab := { look := rfl, c_below := hh_below }
theorem hh_kinds_of : H_kinds_of lawT.tab := { look := rfl, c_is_of := hh_is_of, c_need_model := hh_need_model, c_point_from := hh_point_from }
theorem hh_middle : H_middle lawT.tab := { look := rfl, c_middle_by := hh_middle_by, c_span_from := hh_span_from }
theorem hh_need_number : H_need_number lawT.tab := { look := rfl, c_is_whole := hh_is_whole }
theorem hh_reach : H_reach lawT.tab := { look := rfl, c_need_model := hh_need_model, c_need_number := hh_need_number, c_point_from := hh_point_from, c_reach_by := hh_reach_by }
theorem hh_room : H_room lawT.tab := { look := rfl, c_need_model := hh_need_model, c_need_number := hh_need_number, c_need_word := hh_need_word, c_point_from := hh_point_from, c_room_by := hh_room_by }
theorem hh_within : H_within lawT.tab := { look := rfl, c_both_from := hh_both_from, c_is_within := hh_is_within }
theorem hh_law_k19 : H_law_k19 lawT.tab := { look := rfl, c__law_built := hh__law_built, c__law_draw := hh__law_draw, c__law_less := hh__law_less, c__law_moved := hh__law_moved, c__law_pen := hh__law_pen, c__law_pick := hh__law_pick, c__law_rules := hh__law_rules, c__law_some_point := hh__law_some_point, c__law_with := hh__law_with, c_choice_for := hh_choice_for, c_is_point_of := hh_is_point_of, c_kinds_of := hh_kinds_of, c_middle := hh_middle, c_reach := hh_reach, c_room := hh_room, c_within := hh_within }
def lawAt : Nat := 85
theorem hc_Model : HC lawT.tab k_Model kc_Model := ⟨rfl, rfl, fun b h => by cases b <;> first | rfl | exact absurd rfl h, fun b => by cases b <;> rfl⟩
theorem seen : lawT.defs.all (defOk lawT) = true := by decide +kernel
theorem tabs : tabOk lawT = true := by decide +kernel
abbrev R : PySem.W.OpenRow := PySem.W.OpenLaw.row PySem.Challenge.rw_doubtpapers_k19_wider_spans
abbrev qv : PySem.Program := PySem.W.view R.prog [0, 85]
open HandSHeadRun PySem.W in
theorem p1f (w : World) : RunPart R 40000 (fun x => looksF R.prog x.1.heap x.2.abs) true (w.withFollow "special-get-raises" false) := by unfold RunPart; kernel_rfl
open HandSHeadRun PySem.W in
theorem p1t (w : World) : RunPart R 40000 (fun x => looksF R.prog x.1.heap x.2.abs) true (w.withFollow "special-get-raises" true) := by unfold RunPart; kernel_rfl
open HandSHeadRun PySem.W in
theorem p1 : ∀ w : World, RunPart R 40000 (fun x => looksF R.prog x.1.heap x.2.abs) true w := byRow "special-get-raises" p1f p1t
open HandSHeadRun PySem.W in
theorem p2f (w : World) : RunPart R 40000 (fun x => seenQ qv names (importedModules R.prog.main.body) (fun s => xlAt qv [] s && recOk R.toRowW.records s) x.2.abs) (openGood qv names) (w.withFollow "special-get-raises" false) := by unfold RunPart; kernel_rfl
open HandSHeadRun PySem.W in
theorem p2t (w : World) : RunPart R 40000 (fun x => seenQ qv names (importedModules R.prog.main.body) (fun s => xlAt qv [] s && recOk R.toRowW.records s) x.2.abs) (openGood qv names) (w.withFollow "special-get-raises" true) := by unfold RunPart; kernel_rfl
open HandSHeadRun PySem.W in
theorem p2 : ∀ w : World, RunPart R 40000 (fun x => seenQ qv names (importedModules R.prog.main.body) (fun s => xlAt qv [] s && recOk R.toRowW.records s) x.2.abs) (openGood qv names) w := byRow "special-get-raises" p2f p2t
open HandSHeadRun PySem.W in
theorem p3f (w : World) : RunPart R 40000 (fun x => (lawT.defs.all fun d => d.d.ok (frL (getT x.2)))) true (w.withFollow "special-get-raises" false) := by unfold RunPart; kernel_rfl
open HandSHeadRun PySem.W in
theorem p3t (w : World) : RunPart R 40000 (fun x => (lawT.defs.all fun d => d.d.ok (frL (getT x.2)))) true (w.withFollow "special-get-raises" true) := by unfold RunPart; kernel_rfl
open HandSHeadRun PySem.W in
theorem p3 : ∀ w : World, RunPart R 40000 (fun x => (lawT.defs.all fun d => d.d.ok (frL (getT x.2)))) true w := byRow "special-get-raises" p3f p3t
open HandSHeadRun PySem.W in
theorem p4f (w : World) : RunPart R 40000 (fun x => (lawT.defs.map fun d => He.fnW (frL (getT x.2)) d.d.at_)) (lawT.defs.map fun d => d.d.val) (w.withFollow "special-get-raises" false) := by unfold RunPart; kernel_rfl
open HandSHeadRun PySem.W in
theorem p4t (w : World) : RunPart R 40000 (fun x => (lawT.defs.map fun d => He.fnW (frL (getT x.2)) d.d.at_)) (lawT.defs.map fun d => d.d.val) (w.withFollow "special-get-raises" true) := by unfold RunPart; kernel_rfl
open HandSHeadRun PySem.W in
theorem p4 : ∀ w : World, RunPart R 40000 (fun x => (lawT.defs.map fun d => He.fnW (frL (getT x.2)) d.d.at_)) (lawT.defs.map fun d => d.d.val) w := byRow "special-get-raises" p4f p4t
open HandSHeadRun PySem.W in
theorem p5f (w : World) : RunPart R 40000 (fun x => exB lawT (frL (getT x.2))) true (w.withFollow "special-get-raises" false) := by unfold RunPart; kernel_rfl
open HandSHeadRun PySem.W in
theorem p5t (w : World) : RunPart R 40000 (fun x => exB lawT (frL (getT x.2))) true (w.withFollow "special-get-raises" true) := by unfold RunPart; kernel_rfl
open HandSHeadRun PySem.W in
theorem p5 : ∀ w : World, RunPart R 40000 (fun x => exB lawT (frL (getT x.2))) true w := byRow "special-get-raises" p5f p5t
open HandSHeadRun PySem.W in
theorem p6f (w : World) : RunPart R 40000 (fun x => kdW lawT (frL (getT x.2))) (kdV lawT (w.withFollow "special-get-raises" false).params) (w.withFollow "special-get-raises" false) := by unfold RunPart; kernel_rfl
open HandSHeadRun PySem.W in
theorem p6t (w : World) : RunPart R 40000 (fun x => kdW lawT (frL (getT x.2))) (kdV lawT (w.withFollow "special-get-raises" true).params) (w.withFollow "special-get-raises" true) := by unfold RunPart; kernel_rfl
open HandSHeadRun PySem.W in
theorem p6 : ∀ w : World, RunPart R 40000 (fun x => kdW lawT (frL (getT x.2))) (kdV lawT w.params) w := byRow "special-get-raises" p6f p6t
theorem run (w : World) : HandSHeadRun.RunEqI R qv (hookL lawT) (obL lawT) 40000 names w := run_join (p1 w) (p2 w) (p3 w) (p4 w) (p5 w) (p6 w)
theorem says : Says lawT.tab 1000 24 lawId := fun ns h => says_k19 hh_law_k19 hc_Model ns h
end Kk19
open PySem PySem.W PySem.Calls PyProof.Rows
theorem PySem.Challenge.cw_doubtpapers_k19_wider_spans_holds : PySem.Challenge.rw_doubtpapers_k19_wider_spans.Holds := by
  w_on; o_law
  refine HandSHeadRun.head_imp (r := Kk19.R) (q := Kk19.qv) (H := G.hookL Kk19.lawT) (ob := G.obL Kk19.lawT) (M := 40000) (loose := Kk19.names) (d := HandSHeadRun.topDef Kk19.R.prog Kk19.lawAt) (kwd := []) (G.obL_eq Kk19.lawT) Kk19.run (by kernel_rfl) (by kernel_rfl) (by kernel_rfl) (by rfl) (by first | assumption | decide +kernel) (by decide +kernel) ⟨rfl, rfl, rfl, rfl, rfl, by decide +kernel⟩ ?hw ?hc
  case hw => w_witness2
  case hc =>
    refine G.end_of (lw := PySem.Challenge.rw_doubtpapers_k19_wider_spans) (k := 2 * 24 + 1) rfl (by kernel_rfl) ⟨rfl, by decide, by decide⟩ fun w mg f h Y G0 hm0 => ?_
    obtain ⟨K, KX, c⟩ := Y
    have hm : mg ("law" : PySem.Str) = some (.ref f) := by
      have e : (HandSHeadRun.topDef Kk19.R.prog Kk19.lawAt).name = ("law" : PySem.Str) := by kernel_rfl
      rw [← e]
      exact hm0
    obtain ⟨fdt, hb, hF⟩ := G.law_ok (P := (PySem.Challenge.rw_doubtpapers_k19_wider_spans).prog) (w := w) (lawId := Kk19.lawId) KX G0 hm c Kk19.seen Kk19.tabs Kk19.says (d := Kk19.defLaw) (by rfl) (by decide +kernel) (by rfl) (by rfl)
    exact ⟨K, fdt, KX, hb, hF⟩

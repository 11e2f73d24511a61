import PyProof.Rows.All
import Wide.All
import OpenK.AllK
import Wide.FinOn
import HandS.ForMost
import HandS.ForExc
import HandS.IsInst
import HandS.Wide
import HandS.TupAny
import HandS.TupLe
import HandS.Style
import HandS.Deep
import HandS.ExcOwn
import HandS.CallSlots
import HandS.Comp
import HandS.WordsExc
import HandS.SetFor
import HandS.RevTup
import HandS.SortInts
import KE.DataMinMax
import HandS.Defaults
import HandS.EndBits
import PySem.Challenge.RW_evergreedy_k55_whole_slow_feeders_in_any
set_option Elab.async false
set_option maxRecDepth 100000
set_option linter.all false
set_option maxRecDepth 100000
set_option maxHeartbeats 2000000
set_option linter.all false
/-! DenA: values, the logical heap, what represents them, and meanings of expressions over them. -/
namespace DL
open PySem L2

/-- a value: immutable things whole, mutable ones by their place in the logical heap -/
inductive D where
  | non | bl (b : Bool) | int (i : Int) | str (x : Str)
  | tup (xs : List D) | lst (xs : List D) | obj (c : Nat) (ns : List Str) (xs : List D) | loc (n : Nat) | scr (ns : List Int)
/-- a mutable object -/
inductive LO where
  | lst (xs : List D) | dic (kvs : List (D × D)) | ins (c : Nat) (ns : List Str) (xs : List D)
abbrev LH := List LO
inductive R (α : Type) where
  | ok (a : α) | ex (c : Nat) (x : D)
abbrev Env := List (Option D)
abbrev Res (α : Type) := Option (R α × LH)
def bnd {α β : Type} (r : Res α) (k : α → LH → Res β) : Res β :=
  match r with
  | none => none
  | some (.ok a, h) => k a h
  | some (.ex c x, h) => some (.ex c x, h)
@[simp] theorem bnd_none {α β : Type} (k : α → LH → Res β) : bnd none k = none := rfl
@[simp] theorem bnd_ok {α β : Type} (a : α) (h : LH) (k : α → LH → Res β) : bnd (some (.ok a, h)) k = k a h := rfl
@[simp] theorem bnd_ex {α β : Type} (c : Nat) (x : D) (h : LH) (k : α → LH → Res β) : bnd (some (.ex c x, h)) k = some (.ex c x, h) := rfl

/-- the written part, the classes' addresses -/
structure Gx where
  K : PySem.W.Frag
  ca : Nat → Addr
  Z : List Addr
/-- lists under way (of comprehensions), hidden -/
abbrev Gx.z (G : Gx) (Z : List Addr) : Gx := ⟨G.K, G.ca, Z⟩

def Kl (K : PySem.W.Frag) (a : Addr) (xs : List V) : Prop :=
  ∃ (o : Obj) (its : Array Value) (n : Nat), K.lookup a = some o ∧ o.cls = .type "list" ∧ o.dict = none ∧ o.data = .seq its n ∧ its.size ≤ sizeLine ∧ Vals xs its.toList

mutual
def RepV (G : Gx) (m : List Addr) (H : Hp) : D → V → Prop
  | .non, v => v = .non
  | .bl b, v => v = .bl b
  | .int i, v => v = .int i
  | .str x, v => v = .str x
  | .tup xs, v => ∃ a vs, v = .ref a ∧ SqT G.K H a vs ∧ RepVs G m H xs vs
  | .lst xs, v => ∃ a vs, v = .ref a ∧ (a ∉ m ∧ a ∉ G.Z) ∧ H a = some (.lst vs) ∧ RepVs G m H xs vs
  | .obj c ns xs, v => ∃ a dx vs, v = .ref a ∧ a ∉ m ∧ H a = some (.ins (G.ca c) dx (ns.zip vs)) ∧ ns.length = vs.length ∧ RepVs G m H xs vs
  | .loc n, v => ∃ a, m[n]? = some a ∧ v = .ref a
  | .scr ns, v => ∃ a, v = .ref a ∧ ((∃ o, H a = some (.frz o (.lst (ns.map V.int)))) ∨ Kl G.K a (ns.map V.int))
def RepVs (G : Gx) (m : List Addr) (H : Hp) : List D → List V → Prop
  | [], vs => vs = []
  | x :: xs, vs => ∃ v r, vs = v :: r ∧ RepV G m H x v ∧ RepVs G m H xs r
end
/-- keys and values of a dict -/
def DK (G : Gx) (m : List Addr) (H : Hp) : List (D × D) → List (Key × V) → Prop
  | [], l => l = []
  | (k, x) :: r, l => ∃ kk v r', l = (kk, v) :: r' ∧ ((∃ i, k = .int i ∧ kk = .inl i) ∨ (∃ s, k = .str s ∧ kk = .inr s)) ∧ RepV G m H x v ∧ DK G m H r r'
def keysD : List D → List Key → Prop
  | [], l => l = []
  | d :: r, l => ∃ kk r', l = kk :: r' ∧ ((∃ i, d = .int i ∧ kk = .inl i) ∨ (∃ s, d = .str s ∧ kk = .inr s)) ∧ keysD r r'
def DT (G : Gx) (m : List Addr) (H : Hp) : List (D × D) → List (List Key × V) → Prop
  | [], l => l = []
  | (k, x) :: r, l => ∃ kk v r' ds, l = (kk, v) :: r' ∧ k = .tup ds ∧ keysD ds kk ∧ RepV G m H x v ∧ DT G m H r r'
def RepO (G : Gx) (m : List Addr) (H : Hp) : LO → Addr → Prop
  | .lst xs, a => ∃ vs, H a = some (.lst vs) ∧ RepVs G m H xs vs
  | .dic kvs, a => (∃ l, H a = some (.dK l) ∧ DK G m H kvs l) ∨ (∃ l, H a = some (.dT l) ∧ DT G m H kvs l)
  | .ins c ns xs, a => ∃ dx vs, H a = some (.ins (G.ca c) dx (ns.zip vs)) ∧ ns.length = vs.length ∧ RepVs G m H xs vs
def RepOs (G : Gx) (m : List Addr) (H : Hp) : LH → List Addr → Prop
  | [], l => l = []
  | o :: r, l => ∃ a t, l = a :: t ∧ RepO G m H o a ∧ RepOs G m H r t
structure RepH (G : Gx) (m : List Addr) (H : Hp) (lh : LH) : Prop where
  nd : m.Nodup
  zs : ∀ a ∈ G.Z, a ∉ m ∧ ∃ xs, H a = some (.lst xs)
  os : RepOs G m H lh m
/-- the slots: what the meaning tells, the frame holds -/
def RepS (G : Gx) (m : List Addr) (H : Hp) : Env → St → Prop
  | [], σ => σ = []
  | x :: r, σ => ∃ v t, σ = v :: t ∧ (∀ d, x = some d → ∃ w, v = some w ∧ RepV G m H d w) ∧ RepS G m H r t

/-- a step: new addresses are fresh, what is no object of the logical heap stands as it was -/
structure Ext (m : List Addr) (H : Hp) (m' : List Addr) (H' : Hp) : Prop where
  more : ∃ l, m' = m ++ l ∧ ∀ a ∈ l, H a = none
  keep : ∀ a o, a ∉ m → H a = some o → H' a = some o
theorem Ext.refl {m : List Addr} {H : Hp} : Ext m H m H := ⟨⟨[], by simp, fun a h => by cases h⟩, fun _ _ _ h => h⟩

section
variable {G : Gx} {m m' m'' : List Addr} {H H' H'' : Hp} {lh lh' : LH}
/-- neither a tuple nor locked -/
def Hard (u : HO) : Prop := (∀ xs, u ≠ .tup xs) ∧ ∀ p w, u ≠ .frz p w
theorem RepO.there : ∀ {o : LO} {a : Addr}, RepO G m H o a → ∃ u, H a = some u ∧ Hard u
  | .lst _, _, ⟨vs, h, _⟩ => ⟨_, h, (by constructor <;> intros <;> intro z <;> cases z)⟩
  | .dic _, _, .inl ⟨_, h, _⟩ => ⟨_, h, (by constructor <;> intros <;> intro z <;> cases z)⟩
  | .dic _, _, .inr ⟨_, h, _⟩ => ⟨_, h, (by constructor <;> intros <;> intro z <;> cases z)⟩
  | .ins _ _ _, _, ⟨_, _, h, _⟩ => ⟨_, h, (by constructor <;> intros <;> intro z <;> cases z)⟩
theorem RepOs.there : ∀ {lh : LH} {l : List Addr}, RepOs G m H lh l → ∀ a ∈ l, ∃ u, H a = some u ∧ Hard u
  | [], _, h, a, ha => by cases h; cases ha
  | o :: r, _, ⟨b, t, e, ho, hr⟩, a, ha => by
    subst e
    rcases List.mem_cons.mp ha with rfl | ha
    · exact ho.there
    · exact hr.there a ha
theorem RepH.there (r : RepH G m H lh) {a : Addr} (ha : a ∈ m) : ∃ u, H a = some u ∧ Hard u := r.os.there a ha
theorem RepOs.length : ∀ {lh : LH} {l : List Addr}, RepOs G m H lh l → lh.length = l.length
  | [], _, h => by cases h; rfl
  | o :: r, _, ⟨b, t, e, _, hr⟩ => by subst e; simp [hr.length]
theorem RepH.len (r : RepH G m H lh) : lh.length = m.length := r.os.length
theorem RepOs.get : ∀ {lh : LH} {l : List Addr} {n : Nat} {o : LO}, RepOs G m H lh l → lh[n]? = some o → ∃ a, l[n]? = some a ∧ RepO G m H o a
  | [], _, _, _, _, e => by simp at e
  | o :: r, _, 0, _, ⟨b, t, el, ho, hr⟩, e => by subst el; simp at e; subst e; exact ⟨b, by simp, ho⟩
  | o :: r, _, n + 1, _, ⟨b, t, el, ho, hr⟩, e => by
    subst el
    obtain ⟨a, h1, h2⟩ := hr.get (n := n) (by simpa using e)
    exact ⟨a, by simpa using h1, h2⟩
theorem RepH.get (r : RepH G m H lh) {n : Nat} {o : LO} (e : lh[n]? = some o) : ∃ a, m[n]? = some a ∧ RepO G m H o a := r.os.get e
theorem RepOs.at : ∀ {lh : LH} {l : List Addr} {n : Nat} {a : Addr}, RepOs G m H lh l → l[n]? = some a → ∃ o, lh[n]? = some o ∧ RepO G m H o a
  | [], _, _, _, h, e => by cases h; simp at e
  | o :: r, _, 0, _, ⟨b, t, el, ho, hr⟩, e => by subst el; simp at e; subst e; exact ⟨o, by simp, ho⟩
  | o :: r, _, n + 1, _, ⟨b, t, el, ho, hr⟩, e => by
    subst el
    obtain ⟨a, h1, h2⟩ := hr.at (n := n) (by simpa using e)
    exact ⟨a, by simpa using h1, h2⟩

theorem Ext.mem (e : Ext m H m' H') {a : Addr} (h : a ∈ m') : a ∈ m ∨ H a = none := by
  obtain ⟨l, rfl, hl⟩ := e.more
  rcases List.mem_append.mp h with h | h
  · exact .inl h
  · exact .inr (hl a h)
theorem Ext.get (e : Ext m H m' H') {n : Nat} {a : Addr} (h : m[n]? = some a) : m'[n]? = some a := by
  obtain ⟨l, rfl, hl⟩ := e.more
  rw [List.getElem?_append_left (List.getElem?_eq_some_iff.mp h).1]; exact h
theorem Ext.trans (r' : ∀ a ∈ m', H' a ≠ none) (e : Ext m H m' H') (f : Ext m' H' m'' H'') : Ext m H m'' H'' := by
  obtain ⟨l, e1, hl⟩ := e.more
  obtain ⟨l', e2, hl'⟩ := f.more
  refine ⟨⟨l ++ l', by rw [e2, e1, List.append_assoc], fun a ha => ?_⟩, fun a o ha ho => ?_⟩
  · rcases List.mem_append.mp ha with ha | ha
    · exact hl a ha
    · have z := hl' a ha
      cases q : H a with
      | none => rfl
      | some o =>
        by_cases hm : a ∈ m
        · exact absurd z (r' a (by rw [e1]; exact List.mem_append_left _ hm))
        · have := e.keep a o hm q
          rw [z] at this; cases this
  · refine f.keep a o (fun hm => ?_) (e.keep a o ha ho)
    rcases e.mem hm with z | z
    · exact ha z
    · rw [z] at ho; cases ho
theorem RepH.ne (r : RepH G m H lh) : ∀ a ∈ m, H a ≠ none := fun a ha z => by
  obtain ⟨u, h, _⟩ := r.there ha
  rw [z] at h; cases h
theorem Ext.nin (e : Ext m H m' H') {a : Addr} {o : HO} (h : a ∉ m) (ho : H a = some o) : a ∉ m' := fun z => by
  rcases e.mem z with z | z
  · exact h z
  · rw [z] at ho; cases ho
/-- fewer objects told -/
theorem Ext.less (e : Ext m H m' H') : Ext m H m H' := ⟨⟨[], by simp, fun a h => by cases h⟩, e.keep⟩

def There (m : List Addr) (H : Hp) : Prop := ∀ a ∈ m, ∃ u, H a = some u ∧ Hard u
theorem RepH.th (r : RepH G m H lh) : There m H := fun a h => r.there h
theorem SqT.keepDT {K : PySem.W.Frag} {a : Addr} {vs : List V} (r : There m H) (e : Ext m H m' H') (h : SqT K H a vs) : SqT K H' a vs := by
  have nin : ∀ u, H a = some u → ((∃ xs, u = .tup xs) ∨ ∃ p w, u = .frz p w) → a ∉ m := fun u hu k hm => by
    obtain ⟨u', h1, h2⟩ := r _ hm
    rw [hu] at h1; cases h1
    rcases k with ⟨xs, k⟩ | ⟨p, w, k⟩
    · exact h2.1 xs k
    · exact h2.2 p w k
  rcases h with (h | ⟨o, h⟩) | h
  · exact .inl (.inl (e.keep _ _ (nin _ h (.inl ⟨_, rfl⟩)) h))
  · exact .inl (.inr ⟨o, e.keep _ _ (nin _ h (.inr ⟨_, _, rfl⟩)) h⟩)
  · exact .inr h
mutual
theorem RepV.keepT (r : There m H) (e : Ext m H m' H') : ∀ (d : D) (v : V), RepV G m H d v → RepV G m' H' d v
  | .non, _, h => h
  | .bl _, _, h => h
  | .int _, _, h => h
  | .str _, _, h => h
  | .tup xs, v, ⟨a, vs, e1, h, hs⟩ => ⟨a, vs, e1, SqT.keepDT r e h, RepVs.keepT r e xs vs hs⟩
  | .lst xs, v, ⟨a, vs, e1, hm, h, hs⟩ => ⟨a, vs, e1, ⟨e.nin hm.1 h, hm.2⟩, e.keep _ _ hm.1 h, RepVs.keepT r e xs vs hs⟩
  | .obj c ns xs, v, ⟨a, dx, vs, e1, hm, h, hl, hs⟩ => ⟨a, dx, vs, e1, e.nin hm h, e.keep _ _ hm h, hl, RepVs.keepT r e xs vs hs⟩
  | .loc n, v, ⟨a, h, e1⟩ => ⟨a, e.get h, e1⟩
  | .scr ns, v, ⟨a, e1, h⟩ => ⟨a, e1, h.elim (fun ⟨o, h⟩ => .inl ⟨o, e.keep _ _ (fun hm => by
      obtain ⟨u, h1, h2⟩ := r _ hm
      rw [h] at h1; cases h1
      exact h2.2 _ _ rfl) h⟩) .inr⟩
theorem RepVs.keepT (r : There m H) (e : Ext m H m' H') : ∀ (xs : List D) (vs : List V), RepVs G m H xs vs → RepVs G m' H' xs vs
  | [], _, h => h
  | x :: xs, _, ⟨v, t, e1, h1, h2⟩ => ⟨v, t, e1, RepV.keepT r e x v h1, RepVs.keepT r e xs t h2⟩
end
theorem DK.keepT (r : There m H) (e : Ext m H m' H') : ∀ (kvs : List (D × D)) (l : List (Key × V)), DK G m H kvs l → DK G m' H' kvs l
  | [], _, h => h
  | (k, x) :: t, _, ⟨kk, v, r', e1, hk, hx, ht⟩ => ⟨kk, v, r', e1, hk, RepV.keepT r e x v hx, DK.keepT r e t r' ht⟩
theorem DT.keepT (r : There m H) (e : Ext m H m' H') : ∀ (kvs : List (D × D)) (l : List (List Key × V)), DT G m H kvs l → DT G m' H' kvs l
  | [], _, h => h
  | (k, x) :: t, _, ⟨kk, v, r', ds, e1, hk, hd, hx, ht⟩ => ⟨kk, v, r', ds, e1, hk, hd, RepV.keepT r e x v hx, DT.keepT r e t r' ht⟩
theorem RepS.keepT (r : There m H) (e : Ext m H m' H') : ∀ {σd : Env} {σ : St}, RepS G m H σd σ → RepS G m' H' σd σ
  | [], _, h => h
  | x :: t, _, ⟨v, s, e1, h1, h2⟩ => ⟨v, s, e1, fun d hd => let ⟨w, hw, hr⟩ := h1 d hd; ⟨w, hw, RepV.keepT r e d w hr⟩, h2.keepT r e⟩
/-- an object whose address is not touched -/
theorem RepO.keepT (r : There m H) (e : Ext m H m' H') {o : LO} {a : Addr} (ha : H' a = H a) (h : RepO G m H o a) : RepO G m' H' o a := by
  cases o with
  | lst xs => obtain ⟨vs, h, hs⟩ := h; exact ⟨vs, ha.trans h, RepVs.keepT r e _ _ hs⟩
  | dic kvs =>
    rcases h with ⟨l, h, hs⟩ | ⟨l, h, hs⟩
    · exact .inl ⟨l, ha.trans h, DK.keepT r e _ _ hs⟩
    · exact .inr ⟨l, ha.trans h, DT.keepT r e _ _ hs⟩
  | ins c ns xs => obtain ⟨dx, vs, h, hl, hs⟩ := h; exact ⟨dx, vs, ha.trans h, hl, RepVs.keepT r e _ _ hs⟩
theorem RepOs.keepT (r : There m H) (e : Ext m H m' H') : ∀ {l : LH} {t : List Addr}, (∀ a ∈ t, H' a = H a) → RepOs G m H l t → RepOs G m' H' l t
  | [], _, _, h => h
  | o :: l, _, ha, ⟨b, t, e1, ho, hr⟩ => by
    subst e1
    exact ⟨b, t, rfl, ho.keepT r e (ha b List.mem_cons_self), RepOs.keepT r e (fun a h => ha a (List.mem_cons_of_mem _ h)) hr⟩

theorem SqT.keepD {K : PySem.W.Frag} {a : Addr} {vs : List V} (r : RepH G m H lh) (e : Ext m H m' H') (h : SqT K H a vs) : SqT K H' a vs := SqT.keepDT r.th e h
theorem RepV.keep (r : RepH G m H lh) (e : Ext m H m' H') (d : D) (v : V) (h : RepV G m H d v) : RepV G m' H' d v := RepV.keepT r.th e d v h
theorem RepVs.keep (r : RepH G m H lh) (e : Ext m H m' H') (d : List D) (v : List V) (h : RepVs G m H d v) : RepVs G m' H' d v := RepVs.keepT r.th e d v h
theorem DK.keep (r : RepH G m H lh) (e : Ext m H m' H') (d : List (D × D)) (v : List (Key × V)) (h : DK G m H d v) : DK G m' H' d v := DK.keepT r.th e d v h
theorem DT.keep (r : RepH G m H lh) (e : Ext m H m' H') (d : List (D × D)) (v : List (List Key × V)) (h : DT G m H d v) : DT G m' H' d v := DT.keepT r.th e d v h
theorem RepS.keep (r : RepH G m H lh) (e : Ext m H m' H') {σd : Env} {σ : St} (h : RepS G m H σd σ) : RepS G m' H' σd σ := h.keepT r.th e
theorem RepO.keep (r : RepH G m H lh) (e : Ext m H m' H') {o : LO} {a : Addr} (ha : H' a = H a) (h : RepO G m H o a) : RepO G m' H' o a := h.keepT r.th e ha
theorem RepOs.keep (r : RepH G m H lh) (e : Ext m H m' H') {l : LH} {t : List Addr} (ha : ∀ a ∈ t, H' a = H a) (h : RepOs G m H l t) : RepOs G m' H' l t := h.keepT r.th e ha
theorem RepH.zsK (r : RepH G m H lh) (e : Ext m H m' H') : ∀ a ∈ G.Z, a ∉ m' ∧ ∃ xs, H' a = some (.lst xs) := fun a ha => by
  obtain ⟨h1, xs, h2⟩ := r.zs a ha
  exact ⟨e.nin h1 h2, xs, e.keep _ _ h1 h2⟩
theorem RepH.noZ (r : RepH G m H lh) {a : Addr} (h : H a = none) : a ∉ G.Z := fun z => by
  obtain ⟨_, xs, q⟩ := r.zs a z
  rw [h] at q; cases q
/-- something new that is no object of the logical heap -/
theorem ext_fresh (r : RepH G m H lh) {p : Addr} {o : HO} (hp : H p = none) : Ext m H m (upd H p o) ∧ RepH G m (upd H p o) lh := by
  have e : Ext m H m (upd H p o) := ⟨⟨[], by simp, fun a h => by cases h⟩, fun a u _ hu => by rw [upd_ne (ne_of_none hu hp)]; exact hu⟩
  refine ⟨e, r.nd, r.zsK e, r.os.keep r e fun a ha => ?_⟩
  obtain ⟨u, hu, _⟩ := r.there ha
  rw [upd_ne (ne_of_none hu hp)]
theorem ext_same (r : RepH G m H lh) (k : ∀ a o, H a = some o → H' a = some o) : Ext m H m H' ∧ RepH G m H' lh := by
  have e : Ext m H m H' := ⟨⟨[], by simp, fun a h => by cases h⟩, fun a u _ hu => k a u hu⟩
  refine ⟨e, r.nd, r.zsK e, r.os.keep r e fun a ha => ?_⟩
  obtain ⟨u, hu, _⟩ := r.there ha
  rw [hu, k a u hu]
theorem RepOs.append : ∀ {l : LH} {t : List Addr} {l' : LH} {t' : List Addr}, RepOs G m H l t → RepOs G m H l' t' → RepOs G m H (l ++ l') (t ++ t')
  | [], _, _, _, h, h' => by cases h; exact h'
  | o :: l, _, _, _, ⟨b, t, e1, ho, hr⟩, h' => by subst e1; exact ⟨b, _, rfl, ho, hr.append h'⟩
/-- a new object of the logical heap -/
theorem ext_alloc (r : RepH G m H lh) {p : Addr} {o : HO} {lo : LO} (hp : H p = none) (new : Ext m H (m ++ [p]) (upd H p o) → RepO G (m ++ [p]) (upd H p o) lo p) :
    Ext m H (m ++ [p]) (upd H p o) ∧ RepH G (m ++ [p]) (upd H p o) (lh ++ [lo]) ∧ (m ++ [p])[lh.length]? = some p := by
  have e : Ext m H (m ++ [p]) (upd H p o) := ⟨⟨[p], rfl, fun a h => by rw [List.mem_singleton.mp h]; exact hp⟩, fun a u _ hu => by rw [upd_ne (ne_of_none hu hp)]; exact hu⟩
  have np : p ∉ m := fun h => r.ne p h hp
  refine ⟨e, ⟨?_, r.zsK e, ?_⟩, by rw [r.len]; simp⟩
  · rw [List.nodup_append]
    refine ⟨r.nd, by simp, fun a ha b hb => ?_⟩
    rw [List.mem_singleton.mp hb]
    exact fun z => np (by rw [← z]; exact ha)
  · refine (r.os.keep r e fun a ha => ?_).append ⟨p, [], rfl, new e, rfl⟩
    rw [upd_ne (fun z => np (by rw [← z]; exact ha))]
theorem RepOs.set (r : RepH G m H lh) (e : Ext m H m H') {a : Addr} {lo : LO} (hb : ∀ b, b ≠ a → H' b = H b) (new : RepO G m H' lo a) :
    ∀ {l : LH} {t : List Addr} {n : Nat}, t.Nodup → t[n]? = some a → RepOs G m H l t → RepOs G m H' (l.set n lo) t
  | [], _, _, _, h, hr => by cases hr; simp at h
  | o :: l, _, 0, nd, h, ⟨b, t, e1, ho, hr⟩ => by
    subst e1
    simp at h; subst h
    refine ⟨b, t, rfl, new, hr.keep r e fun c hc => hb c ?_⟩
    rintro rfl
    exact (List.nodup_cons.mp nd).1 hc
  | o :: l, _, n + 1, nd, h, ⟨b, t, e1, ho, hr⟩ => by
    subst e1
    have h' : t[n]? = some a := by simpa using h
    refine ⟨b, t, rfl, ho.keep r e (hb b ?_), RepOs.set r e hb new (List.nodup_cons.mp nd).2 h' hr⟩
    rintro rfl
    exact (List.nodup_cons.mp nd).1 (List.mem_of_getElem? h')
/-- an object of the logical heap is written -/
theorem ext_write (r : RepH G m H lh) {a : Addr} {n : Nat} {o : HO} {lo : LO} (ha : m[n]? = some a) (new : Ext m H m (upd H a o) → RepO G m (upd H a o) lo a) :
    Ext m H m (upd H a o) ∧ RepH G m (upd H a o) (lh.set n lo) := by
  have am : a ∈ m := List.mem_of_getElem? ha
  have e : Ext m H m (upd H a o) := ⟨⟨[], by simp, fun a h => by cases h⟩, fun b u hb hu => by rw [upd_ne (fun z => hb (by rw [z]; exact am))]; exact hu⟩
  exact ⟨e, r.nd, r.zsK e, RepOs.set r e (fun b hb => upd_ne hb) (new e) r.nd ha r.os⟩
end

/-! ### exceptions -/
/-- the exception's object, by its class and its own dict -/
def ExRep (G : Gx) (m : List Addr) (H : Hp) (c : Nat) (x : D) (cls : Value) (dd : Option Addr) : Prop :=
  cls = .ref (G.ca c) ∧ ∃ d v, dd = some d ∧ H d = some (.xd [("at", v)]) ∧ RepV G m H x v

/-! ### meanings and readings -/
section
variable (G : Gx) (W : WX) (σ : St) {α β : Type} (rel : List Addr → Hp → α → β → Prop)
def Post (m : List Addr) (H : Hp) (Q : β → Hp → Prop) : Res α → Prop
  | none => False
  | some (.ok a, lh') => ∀ m' H' b, RepH G m' H' lh' → Ext m H m' H' → rel m' H' a b → Q b H'
  | some (.ex c x, lh') => ∀ m' H' cls dd, RepH G m' H' lh' → Ext m H m' H' → ExRep G m' H' c x cls dd → W cls dd σ H'
end
def tG (G : Gx) (W : WX) {α β : Type} (rel : List Addr → Hp → α → β → Prop) (f : Env → LH → Res α) : St → Hp → (β → Hp → Prop) → Prop :=
  fun σ H Q => ∃ m σd lh, RepH G m H lh ∧ RepS G m H σd σ ∧ Post G W σ rel m H Q (f σd lh)
section
variable {G : Gx} {W : WX} {σ : St} {α β γ δ : Type} {rel : List Addr → Hp → α → β → Prop} {rel' : List Addr → Hp → γ → δ → Prop} {m m' : List Addr} {H H' : Hp} {lh lh' : LH} {σd : Env}
theorem Post.mono {Q Q' : β → Hp → Prop} {r : Res α} (h : Post G W σ rel m H Q r) (k : ∀ b H, Q b H → Q' b H) : Post G W σ rel m H Q' r := by
  match r, h with
  | some (.ok a, lh'), h => exact fun m' H' b r e q => k _ _ (h m' H' b r e q)
  | some (.ex c x, lh'), h => exact h
theorem tG.mono {f : Env → LH → Res α} {Q Q' : β → Hp → Prop} (h : tG G W rel f σ H Q) (k : ∀ b H, Q b H → Q' b H) : tG G W rel f σ H Q' := by
  obtain ⟨m, σd, lh, r, s, p⟩ := h
  exact ⟨m, σd, lh, r, s, p.mono k⟩
theorem Post.later {Q : β → Hp → Prop} {r : Res α} (rh : RepH G m' H' lh') (e : Ext m H m' H') (h : Post G W σ rel m H Q r) : Post G W σ rel m' H' Q r := by
  match r, h with
  | some (.ok a, lh'), h => exact fun m2 H2 b r2 e2 q => h m2 H2 b r2 (e.trans rh.ne e2) q
  | some (.ex c x, lh'), h => exact fun m2 H2 cls dd r2 e2 q => h m2 H2 cls dd r2 (e.trans rh.ne e2) q
/-- THE LEMMA: a part is run first -/
theorem bindG {f : Env → LH → Res α} {k : α → LH → Res γ} {Q : δ → Hp → Prop} (rh : RepH G m H lh) (rs : RepS G m H σd σ) (p : Post G W σ rel' m H Q (bnd (f σd lh) k)) :
    tG G W rel f σ H (fun b H' => ∃ m' lh' a, RepH G m' H' lh' ∧ RepS G m' H' σd σ ∧ Ext m H m' H' ∧ rel m' H' a b ∧ Post G W σ rel' m' H' Q (k a lh')) := by
  refine ⟨m, σd, lh, rh, rs, ?_⟩
  generalize hr : f σd lh = r at p
  match r, p with
  | some (.ok a, lh'), p =>
    intro m' H' b rh' e q
    exact ⟨m', lh', a, rh', rs.keep rh e, e, q, p.later rh' e⟩
  | some (.ex c x, lh'), p => exact p
end

abbrev relB : List Addr → Hp → Bool → Bool → Prop := fun _ _ a b => a = b
abbrev EV := Env → LH → Res D
abbrev TV := Env → LH → Res Bool
abbrev AV := Env → LH → Res (List D)
abbrev tE (G : Gx) (W : WX) (f : EV) : TE := tG G W (RepV G) f
abbrev tT (G : Gx) (W : WX) (f : TV) : TT := tG G W relB f
abbrev tA (G : Gx) (W : WX) (f : AV) : TA := tG G W (RepVs G) f
theorem PE.imp {X : Cx} {e : Expr} {t t' : TE} (h : PE X e t) (k : ∀ σ H Q, t' σ H Q → t σ H Q) : PE X e t' := ⟨fun pins s σ H Q I hw => h.run pins s σ H Q I (k _ _ _ hw)⟩
theorem PT.imp {X : Cx} {e : Expr} {t t' : TT} (h : PT X e t) (k : ∀ σ H Q, t' σ H Q → t σ H Q) : PT X e t' := ⟨fun pins s σ H Q I hw => h.run pins s σ H Q I (k _ _ _ hw)⟩
theorem PW.imp {X : Cx} {e : Expr} {t t' : TT} (h : PW X e t) (k : ∀ σ H Q, t' σ H Q → t σ H Q) : PW X e t' := ⟨fun wh pins s σ H Q I hw => h.run wh pins s σ H Q I (k _ _ _ hw)⟩
theorem PA.imp {X : Cx} {es : List Expr} {t t' : TA} (h : PA X es t) (k : ∀ σ H Q, t' σ H Q → t σ H Q) : PA X es t' := ⟨fun pos pins s σ H Q I hw => h.run pos pins s σ H Q I (k _ _ _ hw)⟩
theorem PS.imp {X : Cx} {st : Stmt} {t t' : TS} (h : PS X st t) (k : ∀ D σ H, t' D σ H → t D σ H) : PS X st t' := ⟨fun pins s σ H D I hw => h.run pins s σ H D I (k _ _ _ hw)⟩
theorem PSs.imp {X : Cx} {st : List Stmt} {t t' : TS} (h : PSs X st t) (k : ∀ D σ H, t' D σ H → t D σ H) : PSs X st t' := ⟨fun pins s σ H D I hw => h.run pins s σ H D I (k _ _ _ hw)⟩
/-- the judgements -/
abbrev DE (G : Gx) (W : WX) (X : Cx) (e : Expr) (f : EV) : Prop := PE X e (tE G W f)
abbrev DT' (G : Gx) (W : WX) (X : Cx) (e : Expr) (f : TV) : Prop := PT X e (tT G W f)
abbrev DW (G : Gx) (W : WX) (X : Cx) (e : Expr) (f : TV) : Prop := PW X e (tT G W f)
abbrev DA (G : Gx) (W : WX) (X : Cx) (es : List Expr) (f : AV) : Prop := PA X es (tA G W f)
end DL

set_option maxRecDepth 100000
set_option maxHeartbeats 400000
set_option linter.all false
/-! DenB: expressions: names, constants, operators, comparisons, tests, displays, items, slices. -/
namespace DL
open PySem PySem.Spec L2

section
variable {G : Gx} {W : WX} {X : Cx} {σ : St} {m m' : List Addr} {H H' : Hp} {lh lh' : LH} {σd : Env}

theorem RepS.get : ∀ {σd : Env} {σ : St} {i : Nat} {d : D}, RepS G m H σd σ → σd[i]? = some (some d) → ∃ v, σ[i]? = some (some v) ∧ RepV G m H d v
  | [], _, _, _, _, e => by simp at e
  | x :: t, _, 0, d, ⟨v, s, e1, h1, _⟩, e => by
    subst e1
    have e' : x = some d := by simpa using e
    obtain ⟨w, hw, hr⟩ := h1 d e'
    exact ⟨w, by simp [hw], hr⟩
  | x :: t, _, i + 1, d, ⟨v, s, e1, _, h2⟩, e => by
    subst e1
    obtain ⟨w, a, b⟩ := h2.get (i := i) (by simpa using e)
    exact ⟨w, by simpa using a, b⟩
theorem RepS.len : ∀ {σd : Env} {σ : St}, RepS G m H σd σ → σd.length = σ.length
  | [], _, h => by cases h; rfl
  | x :: t, _, ⟨v, s, e1, _, h2⟩ => by subst e1; simp [h2.len]
theorem RepS.set {d : D} {v : V} (r : RepV G m H d v) : ∀ {σd : Env} {σ : St} (i : Nat), RepS G m H σd σ → RepS G m H (σd.set i (some d)) (σ.set i (some v))
  | [], _, _, h => by cases h; rfl
  | x :: t, _, 0, ⟨w, s, e1, _, h2⟩ => by
    subst e1
    exact ⟨some v, s, rfl, fun d' e => by cases e; exact ⟨v, rfl, r⟩, h2⟩
  | x :: t, _, i + 1, ⟨w, s, e1, h1, h2⟩ => by
    subst e1
    exact ⟨w, _, rfl, h1, h2.set r i⟩
theorem RepS.unset : ∀ {σd : Env} {σ : St} (i : Nat), RepS G m H σd σ → RepS G m H (σd.set i none) (σ.set i none)
  | [], _, _, h => by cases h; rfl
  | x :: t, _, 0, ⟨w, s, e1, _, h2⟩ => by
    subst e1
    exact ⟨none, s, rfl, fun d' e => (by cases e), h2⟩
  | x :: t, _, i + 1, ⟨w, s, e1, h1, h2⟩ => by
    subst e1
    exact ⟨w, _, rfl, h1, h2.unset i⟩
/-- own names of a comprehension forgotten -/
def wipeD (σ : Env) : List Nat → Env
  | [] => σ
  | v :: vs => (wipeD σ vs).set v none
theorem RepS.wipe (r : RepS G m H σd σ) : ∀ vs : List Nat, RepS G m H (wipeD σd vs) (L2.wipe σ vs)
  | [] => r
  | v :: vs => (RepS.wipe r vs).unset v
theorem RepVs.len : ∀ {xs : List D} {vs : List V}, RepVs G m H xs vs → xs.length = vs.length
  | [], _, h => by cases h; rfl
  | x :: t, _, ⟨v, s, e1, _, h2⟩ => by subst e1; simp [h2.len]
theorem RepVs.get : ∀ {xs : List D} {vs : List V} {i : Nat} {d : D}, RepVs G m H xs vs → xs[i]? = some d → ∃ v, vs[i]? = some v ∧ RepV G m H d v
  | [], _, _, _, _, e => by simp at e
  | x :: t, _, 0, d, ⟨v, s, e1, h1, _⟩, e => by subst e1; simp at e; subst e; exact ⟨v, by simp, h1⟩
  | x :: t, _, i + 1, d, ⟨v, s, e1, _, h2⟩, e => by
    subst e1
    obtain ⟨w, a, b⟩ := h2.get (i := i) (by simpa using e)
    exact ⟨w, by simpa using a, b⟩
theorem RepVs.getV : ∀ {xs : List D} {vs : List V} {i : Nat} {v : V}, RepVs G m H xs vs → vs[i]? = some v → ∃ d, xs[i]? = some d ∧ RepV G m H d v
  | [], _, _, _, h, e => by cases h; simp at e
  | x :: t, _, 0, d, ⟨v, s, e1, h1, _⟩, e => by subst e1; simp at e; subst e; exact ⟨x, by simp, h1⟩
  | x :: t, _, i + 1, d, ⟨v, s, e1, _, h2⟩, e => by
    subst e1
    obtain ⟨w, a, b⟩ := h2.getV (i := i) (by simpa using e)
    exact ⟨w, by simpa using a, b⟩
theorem RepVs.append : ∀ {xs ys : List D} {vs ws : List V}, RepVs G m H xs vs → RepVs G m H ys ws → RepVs G m H (xs ++ ys) (vs ++ ws)
  | [], _, _, _, h, h' => by cases h; exact h'
  | x :: t, _, _, _, ⟨v, s, e1, h1, h2⟩, h' => by subst e1; exact ⟨v, _, rfl, h1, h2.append h'⟩
theorem RepVs.take : ∀ {xs : List D} {vs : List V} (n : Nat), RepVs G m H xs vs → RepVs G m H (xs.take n) (vs.take n)
  | _, _, 0, _ => rfl
  | [], _, n + 1, h => by cases h; rfl
  | x :: t, _, n + 1, ⟨v, s, e1, h1, h2⟩ => by subst e1; exact ⟨v, _, rfl, h1, h2.take n⟩
theorem RepVs.drop : ∀ {xs : List D} {vs : List V} (n : Nat), RepVs G m H xs vs → RepVs G m H (xs.drop n) (vs.drop n)
  | _, _, 0, h => h
  | [], _, n + 1, h => by cases h; rfl
  | x :: t, _, n + 1, ⟨v, s, e1, h1, h2⟩ => by subst e1; exact h2.drop n
theorem RepVs.reverse {xs : List D} {vs : List V} (h : RepVs G m H xs vs) : RepVs G m H xs.reverse vs.reverse := by
  induction xs generalizing vs with
  | nil => cases h; rfl
  | cons x t ih =>
    obtain ⟨v, s, e1, h1, h2⟩ := h
    subst e1
    rw [List.reverse_cons, List.reverse_cons]
    exact (ih h2).append ⟨v, [], rfl, h1, rfl⟩
theorem RepVs.set {d : D} {v : V} (r : RepV G m H d v) : ∀ {xs : List D} {vs : List V} (i : Nat), RepVs G m H xs vs → RepVs G m H (xs.set i d) (vs.set i v)
  | [], _, _, h => by cases h; rfl
  | x :: t, _, 0, ⟨w, s, e1, _, h2⟩ => by subst e1; exact ⟨v, s, rfl, r, h2⟩
  | x :: t, _, i + 1, ⟨w, s, e1, h1, h2⟩ => by subst e1; exact ⟨w, _, rfl, h1, h2.set r i⟩
theorem RepVs.erase : ∀ {xs : List D} {vs : List V} (i : Nat), RepVs G m H xs vs → RepVs G m H (xs.eraseIdx i) (vs.eraseIdx i)
  | [], _, _, h => by cases h; rfl
  | x :: t, _, 0, ⟨w, s, e1, _, h2⟩ => by subst e1; exact h2
  | x :: t, _, i + 1, ⟨w, s, e1, h1, h2⟩ => by subst e1; exact ⟨w, _, rfl, h1, h2.erase i⟩
theorem RepVs.dropLast {xs : List D} {vs : List V} (h : RepVs G m H xs vs) : RepVs G m H xs.dropLast vs.dropLast := by
  rw [List.dropLast_eq_take, List.dropLast_eq_take, h.len]; exact h.take _
theorem RepVs.ints : ∀ (ns : List Int), RepVs G m H (ns.map D.int) (ns.map V.int)
  | [] => rfl
  | n :: ns => ⟨_, _, rfl, rfl, RepVs.ints ns⟩
theorem RepVs.flatten {xs : List D} {vs : List V} (h : RepVs G m H xs vs) : ∀ k : Nat, RepVs G m H (List.replicate k xs).flatten (List.replicate k vs).flatten
  | 0 => rfl
  | k + 1 => by rw [List.replicate_succ, List.replicate_succ, List.flatten_cons, List.flatten_cons]; exact h.append (h.flatten k)

/-! ### names, constants -/
def eVar (i : Nat) : EV := fun σ h => match σ[i]? with
  | some (some d) => some (.ok d, h)
  | _ => none
def eC (d : D) : EV := fun _ h => some (.ok d, h)
theorem de_var (i : Nat) {x : Str} {pos : Pos} (hN : X.N[i]? = some x := by rfl) (hv : Vis X.env.scope x := by first | exact Or.inl rfl | exact Or.inr (Or.inl rfl) | exact Or.inr (Or.inr rfl)) (hd : (x == ("__debug__" : Str)) = false := by decide)
    (hcd : (x == ("__classdict__" : Str)) = false := by decide) : DE G W X (.Name x pos) (eVar i) := PE.imp (pe_var hN hv hd hcd) fun σ H Q ⟨m, σd, lh, rh, rs, p⟩ => by
  unfold eVar at p
  match e : σd[i]?, p with
  | some (some d), p =>
    obtain ⟨v, hv, r⟩ := rs.get e
    exact ⟨v, hv, p m H v rh .refl r⟩
  | some none, p => exact p.elim
  | none, p => exact p.elim
theorem de_c {e : Expr} {v : V} {d : D} (h : PE X e (tC v)) (r : ∀ m H, RepV G m H d v) : DE G W X e (eC d) := PE.imp h fun σ H Q ⟨m, σd, lh, rh, rs, p⟩ => p m H v rh .refl (r m H)
theorem de_int {i j pos} : DE G W X (.Constant (.int i) j pos) (eC (.int i)) := de_c pe_int fun _ _ => rfl
theorem de_bl {b j pos} : DE G W X (.Constant (.bool b) j pos) (eC (.bl b)) := de_c pe_bl fun _ _ => rfl
theorem de_non {j pos} : DE G W X (.Constant .none j pos) (eC .non) := de_c pe_non fun _ _ => rfl
theorem de_str {x j pos} : DE G W X (.Constant (.str x) j pos) (eC (.str x)) := de_c pe_str fun _ _ => rfl
/-- a module's constant -/
theorem de_glob {x : Str} {v : V} {u : Value} {d : D} {pos : Pos} (hg : Gl X x) (hm : X.mg x = some u) (r : RelV v u) (rep : ∀ m H, RepV G m H d v) (hd : (x == ("__debug__" : Str)) = false := by decide) : DE G W X (.Name x pos) (eC d) := de_c (pe_glob hg hm r hd) rep

/-! ### operators on two values -/
def e2 (op : D → D → LH → Res D) (a b : EV) : EV := fun σ h => bnd (a σ h) fun x h1 => bnd (b σ h1) fun y h2 => op x y h2
def Op2 (G : Gx) (r : R2) (op : D → D → LH → Res D) : Prop := ∀ (W : WX) (σ : St) (m : List Addr) (H : Hp) (lh : LH) (x y : D) (v u : V) (Q : VK), RepH G m H lh → RepV G m H x v → RepV G m H y u → Post G W σ (RepV G) m H Q (op x y lh) → r v u H Q
theorem t_op2 {r : R2} {op : D → D → LH → Res D} {fa fb : EV} (h2 : Op2 G r op) {Q : VK} (h : tE G W (e2 op fa fb) σ H Q) : tOp r (tE G W fa) (tE G W fb) σ H Q := by
  obtain ⟨m, σd, lh, rh, rs, p⟩ := h
  refine (bindG rh rs p).mono fun x H1 ⟨m1, lh1, d1, rh1, rs1, e1, r1, p1⟩ => ?_
  refine (bindG rh1 rs1 p1).mono fun y H2 ⟨m2, lh2, d2, rh2, rs2, e2, r2, p2⟩ => ?_
  exact h2 _ _ _ _ _ _ _ _ _ _ rh2 (RepV.keep rh1 e2 _ _ r1) r2 p2
theorem Op2.or {r r' : R2} {op : D → D → LH → Res D} (h : ∀ (W : WX) (σ : St) (m : List Addr) (H : Hp) (lh : LH) (x y : D) (v u : V) (Q : VK), RepH G m H lh → RepV G m H x v → RepV G m H y u → Post G W σ (RepV G) m H Q (op x y lh) → r v u H Q ∨ r' v u H Q) : Op2 G (fun x y H Q => r x y H Q ∨ r' x y H Q) op := h
variable {a b : Expr} {fa fb : EV} {pos : Pos}
theorem de_op {o : Operator} {r : R2} {op : D → D → LH → Res D} (ho : OpR X (binaryOp o) r) (h2 : Op2 G r op) (ha : DE G W X a fa) (hb : DE G W X b fb) : DE G W X (.BinOp a o b pos) (e2 op fa fb) :=
  PE.imp (pe_op ho ha hb) fun _ _ _ h => t_op2 h2 h
theorem de_cmp {o : CmpOp} {r : R2} {op : D → D → LH → Res D} (ho : OpR X (compareOp o) r) (h2 : Op2 G r op) (ha : DE G W X a fa) (hb : DE G W X b fb) (hm : behindInMarks o b = false) : DE G W X (.Compare a [o] [b] pos) (e2 op fa fb) :=
  PE.imp (pe_cmpR ho ha hb hm) fun _ _ _ h => t_op2 h2 h
/-- a value read as a test: a bool -/
def tOf (f : EV) : TV := fun σ h => bnd (f σ h) fun d h1 => match d with
  | .bl k => some (.ok k, h1)
  | _ => none
theorem t_of {f : EV} {Q : Bool → Hp → Prop} (h : tT G W (tOf f) σ H Q) : tE G W f σ H fun x H' => ∃ k, x = .bl k ∧ Q k H' := by
  obtain ⟨m, σd, lh, rh, rs, p⟩ := h
  refine (bindG rh rs p).mono fun x H1 ⟨m1, lh1, d1, rh1, rs1, e1, r1, p1⟩ => ?_
  match d1, p1 with
  | .bl k, p1 => exact ⟨k, r1, p1 m1 H1 k rh1 .refl rfl⟩
theorem dt_val {e : Expr} {f : EV} {t : TE} (h : DE G W X e f) (hv : PE X e (tE G W f) → PT X e (tB (tE G W f))) : DT' G W X e (tOf f) := PT.imp (hv h) fun _ _ _ h => t_of h
theorem dt_cmp {o : CmpOp} {r : R2} {op : D → D → LH → Res D} (ho : OpR X (compareOp o) r) (h2 : Op2 G r op) (ha : DE G W X a fa) (hb : DE G W X b fb) (hm : behindInMarks o b = false) : DT' G W X (.Compare a [o] [b] pos) (tOf (e2 op fa fb)) :=
  PT.imp (pt_cmpR ho ha hb hm) fun _ _ _ h => t_op2 h2 (t_of h)
/-- a chain of two comparisons -/
def eChain (op op' : D → D → LH → Res D) (a b c : EV) : EV := fun σ h => bnd (a σ h) fun x h1 => bnd (b σ h1) fun y h2 => bnd (op x y h2) fun z h3 => match z with
  | .bl true => bnd (c σ h3) fun w h4 => op' y w h4
  | .bl false => some (.ok (.bl false), h3)
  | _ => none
/-- an operation whose result is a bool that stands for itself -/
def Op2B (G : Gx) (r : R2) (op : D → D → LH → Res D) : Prop := ∀ (m : List Addr) (H : Hp) (lh : LH) (x y : D) (v u : V) (Q : VK) (k : Bool) (lh' : LH), RepH G m H lh → RepV G m H x v → RepV G m H y u → op x y lh = some (.ok (.bl k), lh') → (lh' = lh → Q (.bl k) H) → r v u H Q
/-! ### numbers -/
def opI (g : Int → Int → Option D) : D → D → LH → Res D
  | .int i, .int j, h => (g i j).elim none fun d => some (.ok d, h)
  | _, _, _ => none
/-- scalars stand for themselves -/
def sc : D → Option V
  | .non => some .non | .bl b => some (.bl b) | .int i => some (.int i) | .str x => some (.str x)
  | _ => none
theorem sc_rep {d : D} {v : V} (h : sc d = some v) : RepV G m H d v := by
  cases d <;> simp [sc] at h <;> subst h <;> rfl
theorem opI_ok {C : Int → Int → Prop} {f : Int → Int → V} {g : Int → Int → Option D} (hg : ∀ i j d, g i j = some d → C i j ∧ sc d = some (f i j)) : Op2 G (rI C f) (opI g) := by
  intro W σ m H lh x y v u Q rh rx ry p
  unfold opI at p
  split at p
  · cases e : g _ _ with
    | none => rw [e] at p; exact p.elim
    | some d =>
      rw [e] at p
      obtain ⟨hc, hs⟩ := hg _ _ _ e
      exact ⟨_, _, rx, ry, hc, p m H _ rh .refl (sc_rep hs)⟩
  · exact p.elim
theorem opI0_ok {f : Int → Int → V} {g : Int → Int → Option D} (hg : ∀ i j d, g i j = some d → sc d = some (f i j)) : Op2 G (rI0 f) (opI g) := by
  intro W σ m H lh x y v u Q rh rx ry p
  unfold opI at p
  split at p
  · cases e : g _ _ with
    | none => rw [e] at p; exact p.elim
    | some d =>
      rw [e] at p
      exact ⟨_, _, rx, ry, p m H _ rh .refl (sc_rep (hg _ _ _ e))⟩
  · exact p.elim
def iSub : D → D → LH → Res D := opI fun i j => some (.int (i - j))
def iMod : D → D → LH → Res D := opI fun i j => if 0 < j then some (.int (i % j)) else none
def divOk (j : Int) : Bool := decide (0 < j) && (decide (j < 1073741824) || decide (j.natAbs.log2 < 9000))
def iDiv : D → D → LH → Res D := opI fun i j => if divOk j then some (.int (i / j)) else none
def mulOk (i j : Int) : Bool := (decide (-(2 ^ 64) < i) && decide (i < 2 ^ 64)) || (decide (-(2 ^ 64) < j) && decide (j < 2 ^ 64)) || decide (i.natAbs.log2 + j.natAbs.log2 < 1000000)
def powOk (i j : Int) : Bool := decide (0 ≤ j) && decide (j ≤ 1000000) && decide (i.natAbs < 2 ^ 64)
def iPow : D → D → LH → Res D := opI fun i j => if powOk i j then some (.int (i ^ j.toNat)) else none
def cLt : D → D → LH → Res D := opI fun i j => some (.bl (decide (i < j)))
def cLe : D → D → LH → Res D := opI fun i j => some (.bl (decide (i ≤ j)))
def cGt : D → D → LH → Res D := opI fun i j => some (.bl (decide (j < i)))
def cGe : D → D → LH → Res D := opI fun i j => some (.bl (decide (j ≤ i)))
theorem some_if {c : Bool} {d d' : D} (h : (if c = true then some d else none) = some d') : c = true ∧ d = d' := by
  cases c <;> simp at h ⊢; exact h
theorem some_ifP {c : Prop} [Decidable c] {d d' : D} (h : (if c then some d else none) = some d') : c ∧ d = d' := by
  by_cases hc : c
  · rw [if_pos hc] at h; exact ⟨hc, Option.some.inj h⟩
  · rw [if_neg hc] at h; cases h
theorem ok_sub : Op2 G (rI0 fun i j => .int (i - j)) iSub := opI0_ok fun i j d h => by cases h; rfl
theorem ok_mod : Op2 G (rI (fun _ j => 0 < j) fun i j => .int (i % j)) iMod := opI_ok fun i j d h => by
  obtain ⟨h1, rfl⟩ := some_ifP h
  exact ⟨h1, rfl⟩
theorem divOk_w {j : Int} (h : divOk j = true) : CDivW 0 j := by
  unfold divOk at h
  simp only [Bool.and_eq_true, Bool.or_eq_true, decide_eq_true_eq] at h
  refine ⟨h.1, ?_⟩
  rcases h.2 with q | q
  · have e : j.natAbs < 2 ^ 30 := by omega
    have := PySem.Flt.log2_lt_of (by decide) e
    omega
  · exact q
theorem ok_div : Op2 G (rI CDivW fun i j => .int (i / j)) iDiv := opI_ok fun i j d h => by
  obtain ⟨h1, rfl⟩ := some_if h
  exact ⟨divOk_w h1, rfl⟩
theorem ok_pow : Op2 G (rI CPow fun i j => .int (i ^ j.toNat)) iPow := opI_ok fun i j d h => by
  obtain ⟨h1, rfl⟩ := some_if h
  unfold powOk at h1
  simp only [Bool.and_eq_true, decide_eq_true_eq] at h1
  exact ⟨⟨h1.1.1, h1.1.2, h1.2⟩, rfl⟩
theorem op_mulG : OpR X (binaryOp .Mult) (rI IntMulOk fun i j => .int (i * j)) := L2.opI fun _ _ _ _ _ _ _ hc q => PyProof.Rows.mul_int q hc
theorem mulOk_ok {i j : Int} (h : mulOk i j = true) : IntMulOk i j := by
  unfold mulOk at h
  simp only [Bool.or_eq_true, Bool.and_eq_true, decide_eq_true_eq] at h
  rcases h with (h | h) | h
  · exact CMul.ok (.inl h)
  · exact CMul.ok (.inr h)
  · exact CMulW.ok h
theorem ok_lt : Op2 G (rI0 fun i j => .bl (decide (i < j))) cLt := opI0_ok fun i j d h => by cases h; rfl
theorem ok_le : Op2 G (rI0 fun i j => .bl (decide (i ≤ j))) cLe := opI0_ok fun i j d h => by cases h; rfl
theorem ok_gt : Op2 G (rI0 fun i j => .bl (decide (j < i))) cGt := opI0_ok fun i j d h => by cases h; rfl
theorem ok_ge : Op2 G (rI0 fun i j => .bl (decide (j ≤ i))) cGe := opI0_ok fun i j d h => by cases h; rfl

/-! ### lists: a list's items wherever it stands -/
/-- a list that is an object of its own (no script) -/
def lstM (h : LH) : D → Option (List D)
  | .lst xs => some xs
  | .loc n => match h[n]? with
    | some (.lst xs) => some xs
    | _ => none
  | _ => none
theorem lstM_rep (rh : RepH G m H lh) {d : D} {v : V} {xs : List D} (r : RepV G m H d v) (h : lstM lh d = some xs) : ∃ a vs, v = .ref a ∧ H a = some (.lst vs) ∧ RepVs G m H xs vs := by
  cases d with
  | lst xs' =>
    obtain ⟨a, vs, e, _, hH, hs⟩ := r
    have z : xs' = xs := Option.some.inj h
    subst z
    exact ⟨a, vs, e, hH, hs⟩
  | loc n =>
    obtain ⟨a, hm, e⟩ := r
    cases q : lh[n]? with
    | none => simp only [lstM, q] at h; cases h
    | some o =>
      cases o with
      | lst ys =>
        simp only [lstM, q] at h
        have z : ys = xs := Option.some.inj h
        subst z
        obtain ⟨a', ha, vs, hH, hs⟩ := rh.get q
        rw [hm] at ha; cases ha
        exact ⟨a, vs, e, hH, hs⟩
      | dic _ => simp only [lstM, q] at h; cases h
      | ins _ _ _ => simp only [lstM, q] at h; cases h
  | _ => cases h
def seqL (h : LH) : D → Option (List D)
  | .scr ns => some (ns.map D.int)
  | d => lstM h d
theorem seqL_eq {d : D} (h : ∀ ns, d ≠ .scr ns) : seqL lh d = lstM lh d := by
  cases d <;> first | rfl | exact absurd rfl (h _)
theorem seqL_rep (rh : RepH G m H lh) {d : D} {v : V} {xs : List D} (r : RepV G m H d v) (h : seqL lh d = some xs) : ∃ a vs, v = .ref a ∧ SqL G.K H a vs ∧ RepVs G m H xs vs := by
  have go : lstM lh d = some xs → ∃ a vs, v = .ref a ∧ SqL G.K H a vs ∧ RepVs G m H xs vs := fun h => by
    obtain ⟨a, vs, e, q, hs⟩ := lstM_rep rh r h
    exact ⟨a, vs, e, SqL.of q, hs⟩
  cases d with
  | scr ns =>
    have z : ns.map D.int = xs := Option.some.inj h
    subst z
    obtain ⟨a, e, q⟩ := r
    exact ⟨a, _, e, q.elim (fun ⟨o, q⟩ => .inl (.inr ⟨o, q⟩)) .inr, RepVs.ints _⟩
  | _ => exact go h
def seqA (h : LH) : D → Option (List D)
  | .tup xs => some xs
  | d => seqL h d
theorem seqA_rep (rh : RepH G m H lh) {d : D} {v : V} {xs : List D} (r : RepV G m H d v) (h : seqA lh d = some xs) : ∃ a vs, v = .ref a ∧ (SqL G.K H a vs ∨ SqT G.K H a vs) ∧ RepVs G m H xs vs := by
  have go : seqL lh d = some xs → ∃ a vs, v = .ref a ∧ (SqL G.K H a vs ∨ SqT G.K H a vs) ∧ RepVs G m H xs vs := fun h => by
    obtain ⟨a, vs, e, q, hs⟩ := seqL_rep rh r h
    exact ⟨a, vs, e, .inl q, hs⟩
  cases d with
  | tup ys =>
    have z : ys = xs := Option.some.inj h
    subst z
    obtain ⟨a, vs, e, q, hs⟩ := r
    exact ⟨a, vs, e, .inr q, hs⟩
  | _ => exact go h
/-- a new list: an object of the logical heap, or a value from now on -/
def newL (mu : Bool) (xs : List D) (h : LH) : Res D := match mu with
  | true => some (.ok (.loc h.length), h ++ [.lst xs])
  | false => some (.ok (.lst xs), h)
theorem newL_post {mu : Bool} {xs : List D} {vs : List V} {Q : VK} (rh : RepH G m H lh) (rv : RepVs G m H xs vs) {p : Addr} (hp : H p = none) (h : Post G W σ (RepV G) m H Q (newL mu xs lh)) : Q (.ref p) (upd H p (.lst vs)) := by
  cases mu with
  | true =>
    obtain ⟨e, r, q⟩ := ext_alloc (lo := .lst xs) (o := .lst vs) rh hp fun e => ⟨vs, upd_same, RepVs.keep rh e _ _ rv⟩
    exact h _ _ _ r e ⟨p, q, rfl⟩
  | false =>
    obtain ⟨e, r⟩ := ext_fresh (o := .lst vs) rh hp
    exact h _ _ _ r e ⟨p, vs, rfl, ⟨fun hm => rh.ne p hm hp, rh.noZ hp⟩, upd_same, RepVs.keep rh e _ _ rv⟩
theorem newT_post {xs : List D} {vs : List V} {Q : VK} (rh : RepH G m H lh) (rv : RepVs G m H xs vs) {p : Addr} (hp : H p = none) (h : Post G W σ (RepV G) m H Q (some (.ok (.tup xs), lh))) : Q (.ref p) (upd H p (.tup vs)) := by
  obtain ⟨e, r⟩ := ext_fresh (o := .tup vs) rh hp
  exact h _ _ _ r e ⟨p, vs, rfl, .inl (.inl upd_same), RepVs.keep rh e _ _ rv⟩
abbrev line : Nat := 16777216
theorem line_eq : sizeLine = line := sizeLine_eq

/-! ### + and * -/
def oAdd (mu : Bool) : D → D → LH → Res D
  | .int i, .int j, h => some (.ok (.int (i + j)), h)
  | .str x, .str y, h => if x.length + y.length ≤ line then some (.ok (.str (x ++ y)), h) else none
  | .tup xs, .tup ys, h => if xs.length + ys.length ≤ line then some (.ok (.tup (xs ++ ys)), h) else none
  | x, y, h => (lstM h x).elim none fun xs => (lstM h y).elim none fun ys => if xs.length + ys.length ≤ line then newL mu (xs ++ ys) h else none
abbrev rStrCat : R2 := fun x y H Q => ∃ i j, x = .str i ∧ y = .str j ∧ i.length + j.length ≤ sizeLine ∧ Q (.str (i ++ j)) H
abbrev rAddAll (K : PySem.W.Frag) : R2 := fun x y H Q => (rI0 (fun i j => V.int (i + j)) x y H Q ∨ rStrCat x y H Q) ∨ (rCatA K x y H Q ∨ rCat x y H Q)
theorem op_addAll : OpR X (binaryOp .Add) (rAddAll X.K) := OpR.or (OpR.or op_add op_add_str) (OpR.or op_catA op_cat)
theorem RepVs.nil_iff {xs : List D} {vs : List V} (h : RepVs G m H xs vs) : xs = [] ↔ vs = [] := by
  have := h.len
  cases xs <;> cases vs <;> simp at this ⊢
theorem ok_add {mu : Bool} : Op2 G (rAddAll G.K) (oAdd mu) := by
  intro W σ m H lh x y v u Q rh rx ry p
  unfold oAdd at p
  split at p
  · exact .inl (.inl ⟨_, _, rx, ry, p m H _ rh .refl rfl⟩)
  · split at p
    · rename_i hz
      exact .inl (.inr ⟨_, _, rx, ry, by rw [line_eq]; exact hz, p m H _ rh .refl rfl⟩)
    · exact p.elim
  · split at p
    · rename_i hz
      obtain ⟨a, vs, e1, h1, s1⟩ := rx
      obtain ⟨b, us, e2, h2, s2⟩ := ry
      refine .inr (.inl ⟨a, b, vs, us, e1, e2, h1, h2, by rw [line_eq, ← s1.len, ← s2.len]; exact hz, fun z => ?_, fun z z' => ?_, fun z z' q hq => newT_post rh (s1.append s2) hq p⟩)
      · have := s1.nil_iff.mpr z
        subst this
        exact p m H _ rh .refl ⟨b, us, rfl, h2, s2⟩
      · have := s2.nil_iff.mpr z'
        subst this
        exact p m H _ rh .refl ⟨a, vs, rfl, h1, by rw [List.append_nil]; exact s1⟩
    · exact p.elim
  · cases ex : lstM lh x with
    | none => rw [ex] at p; exact p.elim
    | some xs =>
      cases ey : lstM lh y with
      | none => rw [ex, ey] at p; exact p.elim
      | some ys =>
        rw [ex, ey] at p
        dsimp only [Option.elim] at p
        split at p
        · rename_i hz
          obtain ⟨a, vs, e1, h1, s1⟩ := lstM_rep rh rx ex
          obtain ⟨b, us, e2, h2, s2⟩ := lstM_rep rh ry ey
          exact .inr (.inr ⟨a, b, vs, us, e1, e2, h1, h2, by rw [line_eq, ← s1.len, ← s2.len]; exact hz, fun q hq => newL_post rh (s1.append s2) hq p⟩)
        · exact p.elim
def oMul (mu : Bool) : D → D → LH → Res D
  | .int i, .int j, h => if mulOk i j then some (.ok (.int (i * j)), h) else none
  | x, .int k, h => (lstM h x).elim none fun xs => if xs.length * k.toNat ≤ line ∧ -(2 ^ 63) ≤ k ∧ k < 2 ^ 63 then newL mu (List.replicate k.toNat xs).flatten h else none
  | _, _, _ => none
theorem op_mulAll : OpR X (binaryOp .Mult) (fun x y H Q => rI IntMulOk (fun i j => V.int (i * j)) x y H Q ∨ rRep x y H Q) := OpR.or op_mulG op_rep
theorem ok_mul {mu : Bool} : Op2 G (fun x y H Q => rI IntMulOk (fun i j => V.int (i * j)) x y H Q ∨ rRep x y H Q) (oMul mu) := by
  intro W σ m H lh x y v u Q rh rx ry p
  unfold oMul at p
  split at p
  · split at p
    · rename_i hz
      exact .inl ⟨_, _, rx, ry, mulOk_ok hz, p m H _ rh .refl rfl⟩
    · exact p.elim
  · cases ex : lstM lh x with
    | none => rw [ex] at p; exact p.elim
    | some xs =>
      rw [ex] at p
      dsimp only [Option.elim] at p
      split at p
      · rename_i hz
        obtain ⟨a, vs, e1, h1, s1⟩ := lstM_rep rh rx ex
        exact .inr ⟨a, _, vs, e1, ry, h1, hz.2.1, hz.2.2, by rw [line_eq, ← s1.len]; exact hz.1, fun q hq => newL_post rh (s1.flatten _) hq p⟩
      · exact p.elim
  · exact p.elim
end
end DL

set_option maxRecDepth 100000
set_option maxHeartbeats 400000
set_option linter.all false
/-! DenC: ==, in, is; chains, and, or, not; displays, items, slices, fields. -/
namespace DL
open PySem PySem.Spec L2

/-! ### data: no place in the logical heap, no instance -/
mutual
def dep : D → Option Nat
  | .non => some 0
  | .bl _ => some 0
  | .int _ => some 0
  | .str x => if PyData.strOk x then some 0 else none
  | .tup xs => (deps xs).map (· + 1)
  | .lst xs => (deps xs).map (· + 1)
  | .obj _ _ _ => none
  | .loc _ => none
  | .scr _ => none
def deps : List D → Option Nat
  | [] => some 0
  | x :: xs => match dep x, deps xs with
    | some a, some b => some (max a b)
    | _, _ => none
end
mutual
def pyd : D → PyData
  | .non => .none
  | .bl b => .bool b
  | .int i => .int i
  | .str x => .str x
  | .tup xs => .tuple (pyds xs)
  | .lst xs => .list (pyds xs)
  | .obj _ _ _ => .none
  | .loc _ => .none
  | .scr _ => .none
def pyds : List D → List PyData
  | [] => []
  | x :: xs => pyd x :: pyds xs
end
theorem pyds_map (xs : List D) : pyds xs = xs.map pyd := by
  induction xs with
  | nil => rfl
  | cons x xs ih => simp [pyds, ih]
mutual
theorem dep_ok : ∀ (d : D) (n : Nat), dep d = some n → (pyd d).canLay0 = true ∧ (pyd d).depth = n
  | .non, n, h => by simp [dep] at h; subst h; exact ⟨rfl, rfl⟩
  | .bl _, n, h => by simp [dep] at h; subst h; exact ⟨rfl, rfl⟩
  | .int _, n, h => by simp [dep] at h; subst h; exact ⟨rfl, rfl⟩
  | .str x, n, h => by
    simp only [dep] at h
    split at h
    · rename_i q
      have e : 0 = n := Option.some.inj h
      subst e
      exact ⟨by simpa [pyd, PyData.canLay0] using q, rfl⟩
    · cases h
  | .tup xs, n, h => by
    simp only [dep] at h
    cases e : deps xs with
    | none => rw [e] at h; cases h
    | some k =>
      rw [e] at h
      have e' : k + 1 = n := Option.some.inj h
      obtain ⟨h1, h2⟩ := deps_ok xs k e
      subst e'
      exact ⟨by simpa [pyd, PyData.canLay0] using h1, by simp [pyd, PyData.depth, h2]⟩
  | .lst xs, n, h => by
    simp only [dep] at h
    cases e : deps xs with
    | none => rw [e] at h; cases h
    | some k =>
      rw [e] at h
      have e' : k + 1 = n := Option.some.inj h
      obtain ⟨h1, h2⟩ := deps_ok xs k e
      subst e'
      exact ⟨by simpa [pyd, PyData.canLay0] using h1, by simp [pyd, PyData.depth, h2]⟩
  | .obj _ _ _, n, h => by simp [dep] at h
  | .loc _, n, h => by simp [dep] at h
  | .scr _, n, h => by simp [dep] at h
theorem deps_ok : ∀ (xs : List D) (n : Nat), deps xs = some n → PyData.canLayAll0 (pyds xs) = true ∧ PyData.depthAll (pyds xs) = n
  | [], n, h => by simp [deps] at h; subst h; exact ⟨rfl, rfl⟩
  | x :: xs, n, h => by
    simp only [deps] at h
    cases e1 : dep x with
    | none => rw [e1] at h; cases h
    | some a =>
      cases e2 : deps xs with
      | none => rw [e1, e2] at h; cases h
      | some b =>
        rw [e1, e2] at h
        have e' : max a b = n := Option.some.inj h
        obtain ⟨h1, h2⟩ := dep_ok x a e1
        obtain ⟨h3, h4⟩ := deps_ok xs b e2
        exact ⟨by simp [pyds, PyData.canLayAll0, h1, h3], by simp [pyds, PyData.depthAll, h2, h4, e']⟩
end
def okD (d : D) : Bool := match dep d with
  | some n => decide (n ≤ 64)
  | none => false
theorem okD_shaped {d : D} (h : okD d = true) : SeqAt.shaped (pyd d) = true := by
  unfold okD at h
  split at h
  · rename_i n e
    obtain ⟨h1, h2⟩ := dep_ok d n e
    unfold SeqAt.shaped
    rw [h1, h2]
    exact h
  · cases h
section
variable {G : Gx} {W : WX} {X : Cx} {σ : St} {m m' : List Addr} {H H' : Hp} {lh lh' : LH} {σd : Env}
mutual
theorem dep_dp : ∀ (d : D) (n : Nat) (v : V), dep d = some n → RepV G m H d v → Dp G.K H v (pyd d)
  | .non, _, _, _, r => by cases r; exact .non
  | .bl _, _, _, _, r => by cases r; exact .bl _
  | .int _, _, _, _, r => by cases r; exact .int _
  | .str _, _, _, _, r => by cases r; exact .str _
  | .tup xs, n, v, h, ⟨a, vs, e, q, hs⟩ => by
    simp only [dep] at h
    cases e2 : deps xs with
    | none => rw [e2] at h; cases h
    | some k => subst e; exact .tup q (deps_dp xs k vs e2 hs)
  | .lst xs, n, v, h, ⟨a, vs, e, _, q, hs⟩ => by
    simp only [dep] at h
    cases e2 : deps xs with
    | none => rw [e2] at h; cases h
    | some k => subst e; exact .lst (SqL.of q) (deps_dp xs k vs e2 hs)
  | .obj _ _ _, n, v, h, _ => by simp [dep] at h
  | .loc _, n, v, h, _ => by simp [dep] at h
  | .scr _, n, v, h, _ => by simp [dep] at h
theorem deps_dp : ∀ (xs : List D) (n : Nat) (vs : List V), deps xs = some n → RepVs G m H xs vs → DpAll G.K H vs (pyds xs)
  | [], _, _, _, r => by cases r; exact .nil
  | x :: xs, n, _, h, ⟨v, t, e, h1, h2⟩ => by
    simp only [deps] at h
    cases e1 : dep x with
    | none => rw [e1] at h; cases h
    | some a =>
      cases e2 : deps xs with
      | none => rw [e1, e2] at h; cases h
      | some b => subst e; exact .cons (dep_dp x a v e1 h1) (deps_dp xs b t e2 h2)
end
/-- a list that stands in the logical heap, read as data -/
def topD (h : LH) : D → D
  | .loc n => match h[n]? with
    | some (.lst xs) => .lst xs
    | _ => .loc n
  | d => d
theorem dp_of (rh : RepH G m H lh) {d : D} {v : V} (r : RepV G m H d v) (ok : okD (topD lh d) = true) : Dp G.K H v (pyd (topD lh d)) := by
  have fin : ∀ {d : D}, RepV G m H d v → okD d = true → Dp G.K H v (pyd d) := fun {d} r ok => by
    unfold okD at ok
    split at ok
    · rename_i n e; exact dep_dp d n v e r
    · cases ok
  cases d with
  | loc n =>
    cases q : lh[n]? with
    | none => simp only [topD, q] at ok; simp [okD, dep] at ok
    | some o =>
      cases o with
      | lst xs =>
        simp only [topD, q] at ok ⊢
        obtain ⟨a, hm, e⟩ := r
        obtain ⟨a', ha, vs, hH, hs⟩ := rh.get q
        rw [hm] at ha; cases ha
        unfold okD at ok
        split at ok
        · rename_i k e2
          simp only [dep] at e2
          cases e3 : deps xs with
          | none => rw [e3] at e2; cases e2
          | some j => subst e; exact .lst (SqL.of hH) (deps_dp xs j vs e3 hs)
        · cases ok
      | dic _ => simp only [topD, q] at ok; simp [okD, dep] at ok
      | ins _ _ _ => simp only [topD, q] at ok; simp [okD, dep] at ok
  | _ => exact fin r ok
def eqD (x y : D) : Bool := PyData.eqv (pyd x) (pyd y)
def oEq : D → D → LH → Res D := fun x y h => if okD (topD h x) && okD (topD h y) then some (.ok (.bl (eqD (topD h x) (topD h y))), h) else none
def oNe : D → D → LH → Res D := fun x y h => if okD (topD h x) && okD (topD h y) then some (.ok (.bl (!eqD (topD h x) (topD h y))), h) else none
theorem ok_eq : Op2 G (rEqD G.K) oEq := by
  intro W σ m H lh x y v u Q rh rx ry p
  unfold oEq at p
  split at p
  · rename_i q
    rw [Bool.and_eq_true] at q
    exact ⟨_, _, dp_of rh rx q.1, dp_of rh ry q.2, okD_shaped q.1, okD_shaped q.2, p m H _ rh .refl rfl⟩
  · exact p.elim
theorem ok_ne : Op2 G (rNeD G.K) oNe := by
  intro W σ m H lh x y v u Q rh rx ry p
  unfold oNe at p
  split at p
  · rename_i q
    rw [Bool.and_eq_true] at q
    exact ⟨_, _, dp_of rh rx q.1, dp_of rh ry q.2, okD_shaped q.1, okD_shaped q.2, p m H _ rh .refl rfl⟩
  · exact p.elim
/-! ### in -/
def rInDT (K : PySem.W.Frag) (neg : Bool) : R2 := fun x y H Q => ∃ d ds, Dp K H x d ∧ Dp K H y (.tuple ds) ∧ SeqAt.shaped d = true ∧ SeqAt.shaped (.tuple ds) = true ∧ Q (.bl (if neg then !(ds.any fun z => PyData.eqv z d) else ds.any fun z => PyData.eqv z d)) H
theorem op_inDT (hu : X.A.units + 65 < cLine) : OpR X (compareOp .In) (rInDT X.K false) := by
  intro pins s σ H x y v u Q I rx ry h
  obtain ⟨d, ds, hd, he, sd, se, q⟩ := h
  obtain ⟨as, r1⟩ := Dp.reads I d x v hd rx
  obtain ⟨bs, r2⟩ := Dp.reads I (.tuple ds) y u he ry
  exact SeqAt.in_tuple_reads r2 r1 (SeqAt.canLay_of_shaped se) (SeqAt.canLay_of_shaped sd) (PyProof.Rows.room_in_shaped sd hu) ⟨.bl _, H, I, rfl, q⟩
theorem op_notInDT (hu : X.A.units + 65 < cLine) : OpR X (compareOp .NotIn) (rInDT X.K true) := by
  intro pins s σ H x y v u Q I rx ry h
  obtain ⟨d, ds, hd, he, sd, se, q⟩ := h
  obtain ⟨as, r1⟩ := Dp.reads I d x v hd rx
  obtain ⟨bs, r2⟩ := Dp.reads I (.tuple ds) y u he ry
  exact SeqAt.notIn_tuple_reads r2 r1 (SeqAt.canLay_of_shaped se) (SeqAt.canLay_of_shaped sd) (PyProof.Rows.room_in_shaped sd hu) ⟨.bl _, H, I, rfl, q⟩
/-- x in a list, a tuple of data -/
def oIn (neg : Bool) : D → D → LH → Res D := fun x y h => if okD x && okD (topD h y) then (match topD h y with
    | .tup ys => some (.ok (.bl (neg.xor (ys.any fun z => eqD z x))), h)
    | .lst ys => some (.ok (.bl (neg.xor (ys.any fun z => eqD z x))), h)
    | _ => none) else none
theorem topD_self {h : LH} {d : D} (ok : okD d = true) : topD h d = d := by
  cases d with
  | loc n => simp [okD, dep] at ok
  | _ => rfl
theorem any_pyds (ys : List D) (x : D) : ((pyds ys).any fun z => PyData.eqv z (pyd x)) = ys.any fun z => eqD z x := by
  rw [pyds_map, List.any_map]; rfl
theorem ok_in : Op2 G (fun x y H Q => rInD G.K x y H Q ∨ rInDT G.K false x y H Q) (oIn false) := by
  intro W σ m H lh x y v u Q rh rx ry p
  unfold oIn at p
  split at p
  · rename_i q
    rw [Bool.and_eq_true] at q
    have hx := dp_of rh rx (by rw [topD_self q.1]; exact q.1)
    rw [topD_self q.1] at hx
    have hy := dp_of rh ry q.2
    have sy := okD_shaped q.2
    generalize topD lh y = t at p hy sy
    cases t with
    | tup ys => exact .inr ⟨_, _, hx, hy, okD_shaped q.1, sy, by rw [any_pyds]; exact p m H _ rh .refl (by simp [RepV])⟩
    | lst ys => exact .inl ⟨_, _, hx, hy, okD_shaped q.1, sy, by rw [any_pyds]; exact p m H _ rh .refl (by simp [RepV])⟩
    | _ => exact p.elim
  · exact p.elim
theorem ok_notIn : Op2 G (fun x y H Q => rNotInD G.K x y H Q ∨ rInDT G.K true x y H Q) (oIn true) := by
  intro W σ m H lh x y v u Q rh rx ry p
  unfold oIn at p
  split at p
  · rename_i q
    rw [Bool.and_eq_true] at q
    have hx := dp_of rh rx (by rw [topD_self q.1]; exact q.1)
    rw [topD_self q.1] at hx
    have hy := dp_of rh ry q.2
    have sy := okD_shaped q.2
    generalize topD lh y = t at p hy sy
    cases t with
    | tup ys => exact .inr ⟨_, _, hx, hy, okD_shaped q.1, sy, by rw [any_pyds]; exact p m H _ rh .refl (by simp [RepV])⟩
    | lst ys => exact .inl ⟨_, _, hx, hy, okD_shaped q.1, sy, by rw [any_pyds]; exact p m H _ rh .refl (by simp [RepV])⟩
    | _ => exact p.elim
  · exact p.elim
theorem or_in (hu : X.A.units + 65 < cLine) : OpR X (compareOp .In) (fun x y H Q => rInD X.K x y H Q ∨ rInDT X.K false x y H Q) := OpR.or (op_inD hu) (op_inDT hu)
theorem or_notIn (hu : X.A.units + 65 < cLine) : OpR X (compareOp .NotIn) (fun x y H Q => rNotInD X.K x y H Q ∨ rInDT X.K true x y H Q) := OpR.or (op_notInD hu) (op_notInDT hu)
/-! ### is None; is of two bools -/
def isN : D → Bool
  | .non => true
  | _ => false
def oIsN (neg : Bool) : D → D → LH → Res D := fun x y h => match y with
  | .non => some (.ok (.bl (neg.xor (isN x))), h)
  | _ => none
theorem isN_rep {d : D} {v : V} (r : RepV G m H d v) : decide (v = .non) = isN d := by
  cases d with
  | non => cases r; rfl
  | tup xs => obtain ⟨a, vs, e, _⟩ := r; subst e; rfl
  | lst xs => obtain ⟨a, vs, e, _⟩ := r; subst e; rfl
  | obj c ns xs => obtain ⟨a, dx, vs, e, _⟩ := r; subst e; rfl
  | loc n => obtain ⟨a, _, e⟩ := r; subst e; rfl
  | scr ns => obtain ⟨a, e, _⟩ := r; subst e; rfl
  | _ => cases r; rfl
theorem ok_isN : Op2 G (fun x y H Q => y = .non ∧ Q (.bl (decide (x = .non))) H) (oIsN false) := by
  intro W σ m H lh x y v u Q rh rx ry p
  unfold oIsN at p
  split at p
  · exact ⟨ry, by rw [isN_rep rx]; exact p m H _ rh .refl (by simp [RepV])⟩
  · exact p.elim
theorem ok_notN : Op2 G (fun x y H Q => y = .non ∧ Q (.bl (!decide (x = .non))) H) (oIsN true) := by
  intro W σ m H lh x y v u Q rh rx ry p
  unfold oIsN at p
  split at p
  · exact ⟨ry, by rw [isN_rep rx]; exact p m H _ rh .refl (by simp [RepV])⟩
  · exact p.elim
def oIsB (neg : Bool) : D → D → LH → Res D
  | .bl a, .bl b, h => some (.ok (.bl (neg.xor (decide (a = b)))), h)
  | _, _, _ => none
theorem ok_isB : Op2 G rIsB (oIsB false) := by
  intro W σ m H lh x y v u Q rh rx ry p
  unfold oIsB at p
  split at p
  · exact ⟨_, _, rx, ry, p m H _ rh .refl (by simp [RepV])⟩
  · exact p.elim
theorem ok_notB : Op2 G rNotB (oIsB true) := by
  intro W σ m H lh x y v u Q rh rx ry p
  unfold oIsB at p
  split at p
  · exact ⟨_, _, rx, ry, p m H _ rh .refl (by simp [RepV])⟩
  · exact p.elim

/-! ### chains, and, or, not, if else -/
variable {a b c e : Expr} {rest : List Expr} {fa fb fc : EV} {ta tb : TV} {pos : Pos}
/-- an operation that gives a bool out and leaves all as it is -/
def Cmp2 (G : Gx) (r : R2) (op : D → D → LH → Res D) : Prop := Op2 G r op ∧ ∀ x y h z h', op x y h = some (.ok z, h') → (∃ k, z = .bl k) ∧ h' = h
theorem cmpI {g : Int → Int → Bool} : ∀ x y h z h', opI (fun i j => some (.bl (g i j))) x y h = some (.ok z, h') → (∃ k, z = .bl k) ∧ h' = h := by
  intro x y h z h' e
  unfold opI at e
  split at e
  · simp at e; exact ⟨⟨_, e.1.symm⟩, e.2.symm⟩
  · cases e
theorem de_chain {o o' : CmpOp} {r r' : R2} {op op' : D → D → LH → Res D} (ho : OpR X (compareOp o) r) (ho' : OpR X (compareOp o') r') (h2 : Op2 G r op) (h2' : Op2 G r' op')
    (ha : DE G W X a fa) (hb : DE G W X b fb) (hc : DE G W X c fc) (hm : lastMarks [o, o'] [b, c] = false := by with_unfolding_all rfl) :
    DE G W X (.Compare a [o, o'] [b, c] pos) (eChain op op' fa fb fc) := PE.imp (pe_chain ho ho' ha hb hc hm) fun σ H Q ⟨m, σd, lh, rh, rs, p⟩ => by
  refine (bindG rh rs p).mono fun x H1 ⟨m1, lh1, d1, rh1, rs1, e1, r1, p1⟩ => ?_
  refine (bindG rh1 rs1 p1).mono fun y H2 ⟨m2, lh2, d2, rh2, rs2, e2, r2, p2⟩ => ?_
  refine h2 W σ m2 H2 lh2 d1 d2 x y _ rh2 (RepV.keep rh1 e2 _ _ r1) r2 ?_
  generalize op d1 d2 lh2 = rr at p2
  match rr, p2 with
  | some (.ok (.bl true), lh3), p2 =>
    intro m3 H3 z rh3 e3 rz
    refine ⟨true, rz, ?_⟩
    rw [if_pos rfl]
    have p3 := p2.later rh3 e3
    refine (bindG rh3 (rs2.keep rh2 e3) p3).mono fun w H4 ⟨m4, lh4, d4, rh4, rs4, e4, r4, p4⟩ => ?_
    exact h2' W σ m4 H4 lh4 d2 d4 y w _ rh4 (RepV.keep rh3 e4 _ _ (RepV.keep rh2 e3 _ _ r2)) r4 p4
  | some (.ok (.bl false), lh3), p2 =>
    intro m3 H3 z rh3 e3 rz
    refine ⟨false, rz, ?_⟩
    rw [if_neg Bool.false_ne_true]
    exact p2 m3 H3 _ rh3 e3 rfl
  | some (.ex c x, lh3), p2 => exact p2
theorem dt_chain {o o' : CmpOp} {r r' : R2} {op op' : D → D → LH → Res D} (ho : OpR X (compareOp o) r) (ho' : OpR X (compareOp o') r') (h2 : Op2 G r op) (h2' : Op2 G r' op')
    (ha : DE G W X a fa) (hb : DE G W X b fb) (hc : DE G W X c fc) (hm : lastMarks [o, o'] [b, c] = false := by with_unfolding_all rfl) :
    DT' G W X (.Compare a [o, o'] [b, c] pos) (tOf (eChain op op' fa fb fc)) := PT.imp (pt_chain ho ho' ha hb hc hm) fun σ H Q h => by
  obtain ⟨m, σd, lh, rh, rs, p⟩ := t_of h
  refine (bindG rh rs p).mono fun x H1 ⟨m1, lh1, d1, rh1, rs1, e1, r1, p1⟩ => ?_
  refine (bindG rh1 rs1 p1).mono fun y H2 ⟨m2, lh2, d2, rh2, rs2, e2, r2, p2⟩ => ?_
  refine h2 W σ m2 H2 lh2 d1 d2 x y _ rh2 (RepV.keep rh1 e2 _ _ r1) r2 ?_
  generalize op d1 d2 lh2 = rr at p2
  match rr, p2 with
  | some (.ok (.bl true), lh3), p2 =>
    intro m3 H3 z rh3 e3 rz
    refine ⟨true, rz, ?_⟩
    rw [if_pos rfl]
    have p3 := p2.later rh3 e3
    refine (bindG rh3 (rs2.keep rh2 e3) p3).mono fun w H4 ⟨m4, lh4, d4, rh4, rs4, e4, r4, p4⟩ => ?_
    exact h2' W σ m4 H4 lh4 d2 d4 y w _ rh4 (RepV.keep rh3 e4 _ _ (RepV.keep rh2 e3 _ _ r2)) r4 p4
  | some (.ok (.bl false), lh3), p2 =>
    intro m3 H3 z rh3 e3 rz
    refine ⟨false, rz, ?_⟩
    rw [if_neg Bool.false_ne_true]
    exact p2 m3 H3 _ rh3 e3 rfl
  | some (.ex c x, lh3), p2 => exact p2
def tAndD (f g : TV) : TV := fun σ h => bnd (f σ h) fun k h1 => if k = true then g σ h1 else some (.ok false, h1)
def tOrD (f g : TV) : TV := fun σ h => bnd (f σ h) fun k h1 => if k = true then some (.ok true, h1) else g σ h1
def tNotD (f : TV) : TV := fun σ h => bnd (f σ h) fun k h1 => some (.ok (!k), h1)
theorem dw_and1 (ha : DT' G W X a ta) : DW G W X (.BoolOp .And [a] pos) ta := pw_and1 ha
theorem dw_or1 (ha : DT' G W X a ta) : DW G W X (.BoolOp .Or [a] pos) ta := pw_or1 ha
theorem dw_and (ha : DT' G W X a ta) (hb : DW G W X (.BoolOp .And (b :: rest) pos) tb) : DW G W X (.BoolOp .And (a :: b :: rest) pos) (tAndD ta tb) := PW.imp (pw_and ha hb) fun σ H Q ⟨m, σd, lh, rh, rs, p⟩ => by
  refine (bindG rh rs p).mono fun k H1 ⟨m1, lh1, d1, rh1, rs1, e1, r1, p1⟩ => ?_
  subst r1
  cases d1 with
  | true => exact ⟨m1, σd, lh1, rh1, rs1, p1⟩
  | false => exact p1 m1 H1 _ rh1 .refl rfl
theorem dw_or (ha : DT' G W X a ta) (hb : DW G W X (.BoolOp .Or (b :: rest) pos) tb) : DW G W X (.BoolOp .Or (a :: b :: rest) pos) (tOrD ta tb) := PW.imp (pw_or ha hb) fun σ H Q ⟨m, σd, lh, rh, rs, p⟩ => by
  refine (bindG rh rs p).mono fun k H1 ⟨m1, lh1, d1, rh1, rs1, e1, r1, p1⟩ => ?_
  subst r1
  cases d1 with
  | true => exact p1 m1 H1 _ rh1 .refl rfl
  | false => exact ⟨m1, σd, lh1, rh1, rs1, p1⟩
theorem dw_pt (h : DW G W X e ta) : DT' G W X e ta := h.pt
theorem dt_not (ha : DT' G W X a ta) : DT' G W X (.UnaryOp .Not a pos) (tNotD ta) := PT.imp (pt_not ha) fun σ H Q ⟨m, σd, lh, rh, rs, p⟩ => by
  refine (bindG rh rs p).mono fun k H1 ⟨m1, lh1, d1, rh1, rs1, e1, r1, p1⟩ => ?_
  subst r1
  exact p1 m1 H1 _ rh1 .refl rfl
/-- as values, of bools -/
def eAnd (f g : EV) : EV := fun σ h => bnd (f σ h) fun d h1 => match d with
  | .bl true => g σ h1
  | .bl false => some (.ok (.bl false), h1)
  | _ => none
def eOr (f g : EV) : EV := fun σ h => bnd (f σ h) fun d h1 => match d with
  | .bl true => some (.ok (.bl true), h1)
  | .bl false => g σ h1
  | _ => none
def eNot (f : EV) : EV := fun σ h => bnd (f σ h) fun d h1 => match d with
  | .bl k => some (.ok (.bl (!k)), h1)
  | _ => none
theorem de_one {o : BoolOp} (ha : DE G W X a fa) : DE G W X (.BoolOp o [a] pos) fa := pe_one ha
theorem de_and (ha : DE G W X a fa) (hb : DE G W X (.BoolOp .And (b :: rest) pos) fb) : DE G W X (.BoolOp .And (a :: b :: rest) pos) (eAnd fa fb) := PE.imp (pe_and ha hb) fun σ H Q ⟨m, σd, lh, rh, rs, p⟩ => by
  refine (bindG rh rs p).mono fun x H1 ⟨m1, lh1, d1, rh1, rs1, e1, r1, p1⟩ => ?_
  match d1, p1 with
  | .bl true, p1 => exact ⟨true, r1, by rw [if_pos rfl]; exact ⟨m1, σd, lh1, rh1, rs1, p1⟩⟩
  | .bl false, p1 => exact ⟨false, r1, by rw [if_neg Bool.false_ne_true]; exact p1 m1 H1 _ rh1 .refl rfl⟩
theorem de_or (ha : DE G W X a fa) (hb : DE G W X (.BoolOp .Or (b :: rest) pos) fb) : DE G W X (.BoolOp .Or (a :: b :: rest) pos) (eOr fa fb) := PE.imp (pe_or ha hb) fun σ H Q ⟨m, σd, lh, rh, rs, p⟩ => by
  refine (bindG rh rs p).mono fun x H1 ⟨m1, lh1, d1, rh1, rs1, e1, r1, p1⟩ => ?_
  match d1, p1 with
  | .bl true, p1 => exact ⟨true, r1, by rw [if_pos rfl]; exact p1 m1 H1 _ rh1 .refl rfl⟩
  | .bl false, p1 => exact ⟨false, r1, by rw [if_neg Bool.false_ne_true]; exact ⟨m1, σd, lh1, rh1, rs1, p1⟩⟩
theorem de_not (ha : DE G W X a fa) : DE G W X (.UnaryOp .Not a pos) (eNot fa) := PE.imp (pe_not ha) fun σ H Q ⟨m, σd, lh, rh, rs, p⟩ => by
  refine (bindG rh rs p).mono fun x H1 ⟨m1, lh1, d1, rh1, rs1, e1, r1, p1⟩ => ?_
  match d1, p1 with
  | .bl k, p1 => exact ⟨k, r1, p1 m1 H1 _ rh1 .refl rfl⟩
def eIf (t : TV) (f g : EV) : EV := fun σ h => bnd (t σ h) fun k h1 => if k = true then f σ h1 else g σ h1
theorem de_if (hc : DT' G W X c ta) (ha : DE G W X a fa) (hb : DE G W X b fb) : DE G W X (.IfExp c a b pos) (eIf ta fa fb) := PE.imp (pe_ifExp hc ha hb) fun σ H Q ⟨m, σd, lh, rh, rs, p⟩ => by
  refine (bindG rh rs p).mono fun k H1 ⟨m1, lh1, d1, rh1, rs1, e1, r1, p1⟩ => ?_
  subst r1
  cases d1 with
  | true => exact ⟨m1, σd, lh1, rh1, rs1, p1⟩
  | false => exact ⟨m1, σd, lh1, rh1, rs1, p1⟩
/-- -i -/
def e1 (op : D → LH → Res D) (f : EV) : EV := fun σ h => bnd (f σ h) op
def oNeg : D → LH → Res D
  | .int i, h => some (.ok (.int (-i)), h)
  | _, _ => none
theorem de_neg (ha : DE G W X a fa) : DE G W X (.UnaryOp .USub a pos) (e1 oNeg fa) := PE.imp (pe_un un_neg ha) fun σ H Q ⟨m, σd, lh, rh, rs, p⟩ => by
  refine (bindG rh rs p).mono fun x H1 ⟨m1, lh1, d1, rh1, rs1, e1, r1, p1⟩ => ?_
  match d1, p1 with
  | .int k, p1 => exact ⟨k, r1, p1 m1 H1 _ rh1 .refl rfl⟩

/-! ### lists of expressions, displays -/
def aNil : AV := fun _ h => some (.ok [], h)
def aCons (f : EV) (g : AV) : AV := fun σ h => bnd (f σ h) fun x h1 => bnd (g σ h1) fun xs h2 => some (.ok (x :: xs), h2)
variable {es : List Expr} {g : AV}
theorem da_nil : DA G W X [] aNil := PA.imp pa_nil fun σ H Q ⟨m, σd, lh, rh, rs, p⟩ => p m H [] rh .refl rfl
theorem da_cons (ha : DE G W X e fa) (hr : DA G W X es g) (hs : starEach (e :: es) X.env = (false, eval e X.env) :: starEach es X.env := by rfl) : DA G W X (e :: es) (aCons fa g) := PA.imp (pa_cons ha hr hs) fun σ H Q ⟨m, σd, lh, rh, rs, p⟩ => by
  refine (bindG rh rs p).mono fun x H1 ⟨m1, lh1, d1, rh1, rs1, e1, r1, p1⟩ => ?_
  refine (bindG rh1 rs1 p1).mono fun y H2 ⟨m2, lh2, d2, rh2, rs2, e2, r2, p2⟩ => ?_
  exact p2 m2 H2 _ rh2 .refl ⟨x, y, rfl, RepV.keep rh1 e2 _ _ r1, r2⟩
def eTup (g : AV) : EV := fun σ h => bnd (g σ h) fun xs h1 => if xs.length ≤ line then some (.ok (.tup xs), h1) else none
def eLst (mu : Bool) (g : AV) : EV := fun σ h => bnd (g σ h) fun xs h1 => if xs.length ≤ line then newL mu xs h1 else none
theorem de_tup {k : Nat} (h : DA G W X es g) : DE G W X (.Tuple es k pos) (eTup g) := PE.imp (pe_tup h) fun σ H Q ⟨m, σd, lh, rh, rs, p⟩ => by
  refine (bindG rh rs p).mono fun vs H1 ⟨m1, lh1, xs, rh1, rs1, e1, r1, p1⟩ => ?_
  split at p1
  · rename_i hz
    exact ⟨by rw [line_eq, ← r1.len]; exact hz, fun q hq => newT_post rh1 r1 hq p1⟩
  · exact p1.elim
theorem de_lst {mu : Bool} (h : DA G W X es g) : DE G W X (.List es pos) (eLst mu g) := PE.imp (pe_lst h) fun σ H Q ⟨m, σd, lh, rh, rs, p⟩ => by
  refine (bindG rh rs p).mono fun vs H1 ⟨m1, lh1, xs, rh1, rs1, e1, r1, p1⟩ => ?_
  split at p1
  · rename_i hz
    exact ⟨by rw [line_eq, ← r1.len]; exact hz, fun q hq => newL_post rh1 r1 hq p1⟩
  · exact p1.elim

/-! ### items, slices -/
theorem atI_rep {xs : List D} {vs : List V} {i : Int} {d : D} (r : RepVs G m H xs vs) (h : atI xs i = some d) : ∃ v, atI vs i = some v ∧ RepV G m H d v := by
  unfold atI at h ⊢
  rw [← r.len]
  cases e : ixN xs.length i with
  | none => rw [e] at h; cases h
  | some j => rw [e] at h; exact r.get h
def oIx : D → D → LH → Res D := fun x y h => match y with
  | .int i => (seqA h x).elim none fun xs => (atI xs i).elim none fun d => some (.ok d, h)
  | _ => none
theorem ok_ix : Op2 G (fun x y H Q => rIxL G.K x y H Q ∨ rIxT G.K x y H Q) oIx := by
  intro W σ m H lh x y v u Q rh rx ry p
  unfold oIx at p
  split at p
  · rename_i i
    cases e : seqA lh x with
    | none => rw [e] at p; exact p.elim
    | some xs =>
      rw [e] at p
      dsimp only [Option.elim] at p
      cases e2 : atI xs i with
      | none => rw [e2] at p; exact p.elim
      | some d =>
        rw [e2] at p
        obtain ⟨a, vs, ea, q, hs⟩ := seqA_rep rh rx e
        obtain ⟨w, hw, rw'⟩ := atI_rep hs e2
        have hq := p m H w rh .refl rw'
        rcases q with q | q
        · exact .inl ⟨a, vs, i, w, ea, ry, q, hw, hq⟩
        · exact .inr ⟨a, vs, i, w, ea, ry, q, hw, hq⟩
  · exact p.elim
theorem de_ix (ha : DE G W X a fa) (hb : DE G W X b fb) (hG : X.K = G.K) (hs : PlainIx b) : DE G W X (.Subscript a b pos) (e2 oIx fa fb) :=
  PE.imp (pe_ix (ix_list.or ix_tup) ha hb hs) fun _ _ _ h => by rw [hG]; exact t_op2 ok_ix h
/-- a part of a slice -/
def eSl (op : D → Option Int → Option Int → LH → Res D) (f : EV) (lo hi : Env → LH → Res (Option Int)) : EV := fun σ h => bnd (f σ h) fun x h1 => bnd (lo σ h1) fun l h2 => bnd (hi σ h2) fun u h3 => op x l u h3
abbrev relP : List Addr → Hp → Option Int → Option Int → Prop := fun _ _ a b => a = b
def pNo : Env → LH → Res (Option Int) := fun _ h => some (.ok none, h)
def pSo (f : EV) : Env → LH → Res (Option Int) := fun σ h => bnd (f σ h) fun d h1 => match d with
  | .int i => some (.ok (some i), h1)
  | _ => none
def DP (G : Gx) (W : WX) (X : Cx) (e : Option Expr) (f : Env → LH → Res (Option Int)) : Prop := PO X e (tG G W relP f)
theorem PO.imp {e : Option Expr} {t t' : TO} (h : PO X e t) (k : ∀ σ H Q, t' σ H Q → t σ H Q) : PO X e t' := ⟨fun pins s σ H Q I hw => h.run pins s σ H Q I (k _ _ _ hw)⟩
theorem dp_no : DP G W X none pNo := PO.imp po_none fun σ H Q ⟨m, σd, lh, rh, rs, p⟩ => p m H none rh .refl rfl
theorem dp_so (h : DE G W X e fa) : DP G W X (some e) (pSo fa) := PO.imp (po_some h) fun σ H Q ⟨m, σd, lh, rh, rs, p⟩ => by
  refine (bindG rh rs p).mono fun x H1 ⟨m1, lh1, d1, rh1, rs1, e1, r1, p1⟩ => ?_
  match d1, p1 with
  | .int i, p1 => exact ⟨i, r1, p1 m1 H1 _ rh1 .refl rfl⟩
def cutD (xs : List D) (lo hi : Option Int) : List D := (xs.drop (HT.sIx xs.length 0 lo)).take (HT.sIx xs.length xs.length hi - HT.sIx xs.length 0 lo)
theorem cut_rep {xs : List D} {vs : List V} (r : RepVs G m H xs vs) (lo hi : Option Int) : RepVs G m H (cutD xs lo hi) (cutV vs lo hi) := by
  unfold cutD cutV
  rw [← r.len]
  exact (r.drop _).take _
def oSl (mu : Bool) : D → Option Int → Option Int → LH → Res D := fun x lo hi h => match x with
  | .tup xs => some (.ok (.tup (cutD xs lo hi)), h)
  | x => (seqL h x).elim none fun xs => newL mu (cutD xs lo hi) h
theorem cut_whole {xs : List D} {lo hi : Option Int} (h : HT.sIx xs.length 0 lo = 0 ∧ HT.sIx xs.length xs.length hi = xs.length) : cutD xs lo hi = xs := by
  unfold cutD
  rw [h.1, h.2, Nat.sub_zero, List.drop_zero, List.take_length]
theorem de_sl {mu : Bool} {lo hi : Option Expr} {fl fh : Env → LH → Res (Option Int)} {p2 : Pos} (hG : X.K = G.K) (ha : DE G W X a fa) (hl : DP G W X lo fl) (hh : DP G W X hi fh) : DE G W X (.Subscript a (.Slice lo hi none p2) pos) (eSl (oSl mu) fa fl fh) :=
  PE.imp (pe_slice (SlR.or sl_list sl_tupA) ha hl hh) fun σ H Q ⟨m, σd, lh, rh, rs, p⟩ => by
  refine (bindG rh rs p).mono fun x H1 ⟨m1, lh1, d1, rh1, rs1, e1, r1, p1⟩ => ?_
  refine (bindG rh1 rs1 p1).mono fun l H2 ⟨m2, lh2, l', rh2, rs2, e2, r2, p2⟩ => ?_
  refine (bindG rh2 rs2 p2).mono fun u H3 ⟨m3, lh3, u', rh3, rs3, e3, r3, p3⟩ => ?_
  subst r2 r3
  have r1' := RepV.keep rh2 e3 _ _ (RepV.keep rh1 e2 _ _ r1)
  rw [hG]
  unfold oSl at p3
  split at p3
  · rename_i xs
    obtain ⟨a, vs, ea, q, hs⟩ := r1'
    refine .inr ⟨a, vs, ea, q, fun z => ?_, fun z t ht => newT_post rh3 (cut_rep hs _ _) ht p3⟩
    rw [← hs.len] at z
    exact p3 m3 H3 _ rh3 .refl (by rw [cut_whole z]; exact ⟨a, vs, rfl, q, hs⟩)
  · cases e : seqL lh3 d1 with
    | none => rw [e] at p3; exact p3.elim
    | some xs =>
      rw [e] at p3
      obtain ⟨a, vs, ea, q, hs⟩ := seqL_rep rh3 r1' e
      exact .inl ⟨a, vs, ea, q, fun t ht => newL_post rh3 (cut_rep hs _ _) ht p3⟩
/-- xs[::-1] -/
def oRev (mu : Bool) : D → LH → Res D := fun x h => (seqL h x).elim none fun xs => newL mu xs.reverse h
theorem de_revL {mu : Bool} {k : Nat} {p1 p2 p3 : Pos} (hG : X.K = G.K) (ha : DE G W X a fa) : DE G W X (.Subscript a (.Slice none none (some (.UnaryOp .USub (.Constant (.int 1) k p1) p2)) p3) pos) (e1 (oRev mu) fa) :=
  PE.imp (pe_revL ha) fun σ H Q ⟨m, σd, lh, rh, rs, p⟩ => by
  refine (bindG rh rs p).mono fun x H1 ⟨m1, lh1, d1, rh1, rs1, e1, r1, p1⟩ => ?_
  unfold oRev at p1
  cases e : seqL lh1 d1 with
  | none => rw [e] at p1; exact p1.elim
  | some xs =>
    rw [e] at p1
    obtain ⟨a, vs, ea, q, hs⟩ := seqL_rep rh1 r1 e
    exact ⟨a, vs, ea, by rw [hG]; exact q, fun t ht => newL_post rh1 hs.reverse ht p1⟩

/-! ### fields -/
def fldOf (h : LH) (c : Nat) (f : Str) : D → Option D
  | .obj c' ns xs => if c' = c then (ns.zip xs).lookup f else none
  | .loc n => match h[n]? with
    | some (.ins c' ns xs) => if c' = c then (ns.zip xs).lookup f else none
    | _ => none
  | _ => none
theorem zip_lookup {f : Str} {d : D} : ∀ {ns : List Str} {xs : List D} {vs : List V}, RepVs G m H xs vs → (ns.zip xs).lookup f = some d → ∃ v, (ns.zip vs).lookup f = some v ∧ RepV G m H d v
  | [], _, _, _, h => by simp at h
  | _ :: _, [], _, _, h => by simp at h
  | n :: ns, x :: xs, _, ⟨v, t, e, h1, h2⟩, h => by
    subst e
    simp only [List.zip_cons_cons, List.lookup_cons] at h ⊢
    cases q : f == n with
    | true => rw [q] at h; cases h; exact ⟨v, rfl, h1⟩
    | false => rw [q] at h; exact zip_lookup h2 h
def eFld (c : Nat) (f : Str) (g : EV) : EV := fun σ h => bnd (g σ h) fun x h1 => (fldOf h1 c f x).elim none fun d => some (.ok d, h1)
theorem fld_rep (rh : RepH G m H lh) {c : Nat} {f : Str} {d x : D} {v : V} (r : RepV G m H x v) (h : fldOf lh c f x = some d) : ∃ a dx fs w, v = .ref a ∧ H a = some (.ins (G.ca c) dx fs) ∧ fs.lookup f = some w ∧ RepV G m H d w := by
  cases x with
  | obj c' ns xs =>
    obtain ⟨a, dx, vs, e, _, hH, hl, hs⟩ := r
    by_cases hc : c' = c
    · subst hc
      have h' : (ns.zip xs).lookup f = some d := by simpa [fldOf] using h
      obtain ⟨w, hw, rw'⟩ := zip_lookup hs h'
      exact ⟨a, dx, _, w, e, hH, hw, rw'⟩
    · simp [fldOf, hc] at h
  | loc n =>
    obtain ⟨a, hm, e⟩ := r
    cases q : lh[n]? with
    | none => simp only [fldOf, q] at h; cases h
    | some o =>
      cases o with
      | ins c' ns xs =>
        obtain ⟨a', ha, dx, vs, hH, hl, hs⟩ := rh.get q
        rw [hm] at ha; cases ha
        by_cases hc : c' = c
        · subst hc
          have h' : (ns.zip xs).lookup f = some d := by simpa [fldOf, q] using h
          obtain ⟨w, hw, rw'⟩ := zip_lookup hs h'
          exact ⟨a, dx, _, w, e, hH, hw, rw'⟩
        · simp [fldOf, q, hc] at h
      | dic _ => simp only [fldOf, q] at h; cases h
      | lst _ => simp only [fldOf, q] at h; cases h
  | _ => simp [fldOf] at h
theorem de_fld {c : Nat} {f : Str} (hG : X.K = G.K) (cl : Cls G.K (G.ca c)) (na : NoAttr G.K (G.ca c) f) (he : DE G W X e fa) (hb : attributeBase e f X.env (eval e X.env) = eval e X.env) : DE G W X (.Attribute e f pos) (eFld c f fa) :=
  PE.imp (pe_fld he hb) fun σ H Q ⟨m, σd, lh, rh, rs, p⟩ => by
  refine (bindG rh rs p).mono fun x H1 ⟨m1, lh1, d1, rh1, rs1, e1, r1, p1⟩ => ?_
  cases q : fldOf lh1 c f d1 with
  | none => rw [q] at p1; exact p1.elim
  | some d =>
    rw [q] at p1
    obtain ⟨a, dx, fs, w, ea, hH, hw, rw'⟩ := fld_rep rh1 r1 q
    exact ⟨a, G.ca c, dx, fs, w, ea, hH, by rw [hG]; exact cl, by rw [hG]; exact na, hw, p1 m1 H1 w rh1 .refl rw'⟩
end
end DL

set_option maxRecDepth 100000
set_option maxHeartbeats 400000
set_option linter.all false
/-! DenD: statements, targets, loops. -/
namespace DL
open PySem PySem.Spec L2

inductive Fl where
  | nx | rt (d : D) | bk | ct
abbrev SV := Env → LH → Res (Fl × Env)
abbrev GV := D → Env → LH → Res Env
abbrev GsV := List D → Env → LH → Res Env

def PostS (G : Gx) (W : WX) (n : Nat) (m : List Addr) (H : Hp) (De : Ends) : Res (Fl × Env) → Prop
  | none => False
  | some (.ok (.nx, σd'), lh') => ∀ m' H' σ', RepH G m' H' lh' → Ext m H m' H' → RepS G m' H' σd' σ' → σ'.length = n → De.nx σ' H'
  | some (.ok (.bk, σd'), lh') => ∀ m' H' σ', RepH G m' H' lh' → Ext m H m' H' → RepS G m' H' σd' σ' → σ'.length = n → De.bk σ' H'
  | some (.ok (.ct, σd'), lh') => ∀ m' H' σ', RepH G m' H' lh' → Ext m H m' H' → RepS G m' H' σd' σ' → σ'.length = n → De.ct σ' H'
  | some (.ok (.rt d, _), lh') => ∀ m' H' v, RepH G m' H' lh' → Ext m H m' H' → RepV G m' H' d v → De.rt v H'
  | some (.ex c x, lh') => ∀ m' H' cls dd σ', RepH G m' H' lh' → Ext m H m' H' → ExRep G m' H' c x cls dd → σ'.length = n → W cls dd σ' H'
def tS (G : Gx) (W : WX) (n : Nat) (f : SV) : TS := fun De σ H => ∃ m σd lh, RepH G m H lh ∧ RepS G m H σd σ ∧ PostS G W n m H De (f σd lh)
theorem PS.impL {X : Cx} {st : Stmt} {t t' : TS} (h : PS X st t) (k : ∀ D σ H, σ.length = X.N.length → t' D σ H → t D σ H) : PS X st t' := ⟨fun pins s σ H D I hw => h.run pins s σ H D I (k _ _ _ I.len hw)⟩
theorem PSs.impL {X : Cx} {st : List Stmt} {t t' : TS} (h : PSs X st t) (k : ∀ D σ H, σ.length = X.N.length → t' D σ H → t D σ H) : PSs X st t' := ⟨fun pins s σ H D I hw => h.run pins s σ H D I (k _ _ _ I.len hw)⟩
abbrev DS (G : Gx) (W : WX) (X : Cx) (st : Stmt) (f : SV) : Prop := PS X st (tS G W X.N.length f)
abbrev DSs (G : Gx) (W : WX) (X : Cx) (st : List Stmt) (f : SV) : Prop := PSs X st (tS G W X.N.length f)
section
variable {G : Gx} {W : WX} {X : Cx} {σ : St} {m m' : List Addr} {H H' : Hp} {lh lh' : LH} {σd σd' : Env} {n : Nat} {α β : Type} {rel : List Addr → Hp → α → β → Prop}
theorem PostS.later {De : Ends} {r : Res (Fl × Env)} (rh : RepH G m' H' lh') (e : Ext m H m' H') (h : PostS G W n m H De r) : PostS G W n m' H' De r := by
  match r, h with
  | some (.ok (.nx, σd'), lh'), h => exact fun m2 H2 s r2 e2 q l => h m2 H2 s r2 (e.trans rh.ne e2) q l
  | some (.ok (.bk, σd'), lh'), h => exact fun m2 H2 s r2 e2 q l => h m2 H2 s r2 (e.trans rh.ne e2) q l
  | some (.ok (.ct, σd'), lh'), h => exact fun m2 H2 s r2 e2 q l => h m2 H2 s r2 (e.trans rh.ne e2) q l
  | some (.ok (.rt d, _), lh'), h => exact fun m2 H2 v r2 e2 q => h m2 H2 v r2 (e.trans rh.ne e2) q
  | some (.ex c x, lh'), h => exact fun m2 H2 cls dd s r2 e2 q l => h m2 H2 cls dd s r2 (e.trans rh.ne e2) q l
/-- a part is run first, within a statement -/
theorem bindS {f : Env → LH → Res α} {k : α → LH → Res (Fl × Env)} {De : Ends} (hl : σ.length = n) (rh : RepH G m H lh) (rs : RepS G m H σd σ) (p : PostS G W n m H De (bnd (f σd lh) k)) :
    tG G W rel f σ H (fun b H' => ∃ m' lh' a, RepH G m' H' lh' ∧ RepS G m' H' σd σ ∧ Ext m H m' H' ∧ rel m' H' a b ∧ PostS G W n m' H' De (k a lh')) := by
  refine ⟨m, σd, lh, rh, rs, ?_⟩
  generalize hr : f σd lh = r at p
  match r, p with
  | some (.ok a, lh'), p =>
    intro m' H' b rh' e q
    exact ⟨m', lh', a, rh', rs.keep rh e, e, q, p.later rh' e⟩
  | some (.ex c x, lh'), p => exact fun m' H' cls dd rh' e q => p m' H' cls dd σ rh' e q hl

variable {e c : Expr} {st : Stmt} {sts body : List Stmt} {f : EV} {t : TV} {a b : SV} {pos : Pos}
/-! ### small statements, blocks -/
def sNx : SV := fun σ h => some (.ok (.nx, σ), h)
def sBk : SV := fun σ h => some (.ok (.bk, σ), h)
def sCt : SV := fun σ h => some (.ok (.ct, σ), h)
def sNever : SV := fun _ _ => none
def sEx (f : EV) : SV := fun σ h => bnd (f σ h) fun _ h1 => some (.ok (.nx, σ), h1)
def sRet (f : EV) : SV := fun σ h => bnd (f σ h) fun d h1 => some (.ok (.rt d, σ), h1)
def sRetN : SV := fun σ h => some (.ok (.rt .non, σ), h)
def sIf (t : TV) (a b : SV) : SV := fun σ h => bnd (t σ h) fun k h1 => if k = true then a σ h1 else b σ h1
def goOn (b : SV) : Fl × Env → LH → Res (Fl × Env) := fun r h => match r with
  | (.nx, σ') => b σ' h
  | r => some (.ok r, h)
def sSeq (a b : SV) : SV := fun σ h => bnd (a σ h) (goOn b)
theorem dss_nil : DSs G W X [] sNx := PSs.impL pss_nil fun De σ H hl ⟨m, σd, lh, rh, rs, p⟩ => p m H σ rh .refl rs hl
theorem ds_pass : DS G W X (.Pass pos) sNx := PS.impL ps_pass fun De σ H hl ⟨m, σd, lh, rh, rs, p⟩ => p m H σ rh .refl rs hl
theorem ds_break : DS G W X (.Break pos) sBk := PS.impL ps_break fun De σ H hl ⟨m, σd, lh, rh, rs, p⟩ => p m H σ rh .refl rs hl
theorem ds_continue : DS G W X (.Continue pos) sCt := PS.impL ps_continue fun De σ H hl ⟨m, σd, lh, rh, rs, p⟩ => p m H σ rh .refl rs hl
theorem ds_never : DS G W X st sNever := PS.impL ps_never fun De σ H hl ⟨m, σd, lh, rh, rs, p⟩ => p.elim
theorem dss_one (h : DS G W X st a) : DSs G W X [st] a := pss_one h
theorem dss_cons (h1 : DS G W X st a) (h2 : DSs G W X sts b) : DSs G W X (st :: sts) (sSeq a b) := PSs.impL (pss_cons h1 h2) fun De σ H hl ⟨m, σd, lh, rh, rs, p⟩ => by
  show tS G W X.N.length a { De with nx := tS G W X.N.length b De } σ H
  refine ⟨m, σd, lh, rh, rs, ?_⟩
  unfold sSeq at p
  generalize a σd lh = r at p
  match r, p with
  | some (.ok (.nx, σd'), lh'), p => exact fun m' H' s r e q l => ⟨m', σd', lh', r, q, p.later r e⟩
  | some (.ok (.bk, σd'), lh'), p => exact p
  | some (.ok (.ct, σd'), lh'), p => exact p
  | some (.ok (.rt d, σd'), lh'), p => exact p
  | some (.ex c x, lh'), p => exact p
theorem ds_expr (he : DE G W X e f) (hs : swapsWith e none pos.line X.env = pure false := by rfl) : DS G W X (.Expr e pos) (sEx f) := PS.impL (ps_expr he hs) fun De σ H hl ⟨m, σd, lh, rh, rs, p⟩ => by
  refine (bindS hl rh rs p).mono fun x H1 ⟨m1, lh1, d1, rh1, rs1, e1, r1, p1⟩ => ?_
  exact p1 m1 H1 σ rh1 .refl rs1 hl
theorem ds_ret (he : DE G W X e f) : DS G W X (.Return (some e) pos) (sRet f) := PS.impL (ps_ret he) fun De σ H hl ⟨m, σd, lh, rh, rs, p⟩ => by
  refine (bindS hl rh rs p).mono fun x H1 ⟨m1, lh1, d1, rh1, rs1, e1, r1, p1⟩ => ?_
  exact p1 m1 H1 x rh1 .refl r1
theorem ds_retN : DS G W X (.Return none pos) sRetN := PS.impL ps_retN fun De σ H hl ⟨m, σd, lh, rh, rs, p⟩ => p m H .non rh .refl rfl
theorem ds_if {u v : List Stmt} (hc : DT' G W X c t) (ha : DSs G W X u a) (hb : DSs G W X v b) : DS G W X (.If c u v pos) (sIf t a b) := PS.impL (ps_if hc ha hb) fun De σ H hl ⟨m, σd, lh, rh, rs, p⟩ => by
  refine (bindS hl rh rs p).mono fun k H1 ⟨m1, lh1, d1, rh1, rs1, e1, r1, p1⟩ => ?_
  subst r1
  cases d1 with
  | true => exact ⟨m1, σd, lh1, rh1, rs1, p1⟩
  | false => exact ⟨m1, σd, lh1, rh1, rs1, p1⟩

/-! ### targets -/
abbrev relS (G : Gx) (n : Nat) : List Addr → Hp → Env → St → Prop := fun m H a b => RepS G m H a b ∧ b.length = n
def gG (G : Gx) (W : WX) (g : GV) : TG := fun v σ H Q => ∃ m σd lh d, RepH G m H lh ∧ RepS G m H σd σ ∧ RepV G m H d v ∧ Post G W σ (relS G σ.length) m H Q (g d σd lh)
def gGs (G : Gx) (W : WX) (g : GsV) : TGs := fun vs σ H Q => ∃ m σd lh ds, RepH G m H lh ∧ RepS G m H σd σ ∧ RepVs G m H ds vs ∧ Post G W σ (relS G σ.length) m H Q (g ds σd lh)
abbrev DG (G : Gx) (W : WX) (X : Cx) (tg : Expr) (g : GV) : Prop := PG X tg (gG G W g)
abbrev DGs (G : Gx) (W : WX) (X : Cx) (tgs : List Expr) (g : GsV) : Prop := PGs X tgs (gGs G W g)
theorem PG.imp {tg : Expr} {t t' : TG} (h : PG X tg t) (k : ∀ v σ H Q, t' v σ H Q → t v σ H Q) : PG X tg t' := ⟨fun pins s σ H v u Q I r hw => h.run pins s σ H v u Q I r (k _ _ _ _ hw)⟩
theorem PGs.imp {tgs : List Expr} {t t' : TGs} (h : PGs X tgs t) (k : ∀ v σ H Q, t' v σ H Q → t v σ H Q) : PGs X tgs t' := ⟨fun pins s σ H v u Q I r hw => h.run pins s σ H v u Q I r (k _ _ _ _ hw)⟩
def gNm (i : Nat) : GV := fun d σ h => some (.ok (σ.set i (some d)), h)
theorem dg_name {i : Nat} {x : Str} (hN : X.N.Nodup) (hi : X.N[i]? = some x := by rfl) (hx : Loc X.env.scope x := by first | exact Or.inl rfl | exact Or.inr rfl) (hf : X.fn x = true ∨ X.env.scope.names.lookup x = some .local := by first | exact .inl rfl | exact .inr rfl | assumption) : DG G W X (.Name x pos) (gNm i) :=
  PG.imp (pg_name hN hi hx hf) fun v σ H Q ⟨m, σd, lh, d, rh, rs, r, p⟩ => p m H _ rh .refl ⟨rs.set r i, List.length_set⟩
def gN : GsV := fun ds σ h => match ds with
  | [] => some (.ok σ, h)
  | _ => none
/-- targets that raise nothing and leave the heap (names, names within names) -/
def gC (g : GV) (gs : GsV) : GsV := fun ds σ h => match ds with
  | d :: r => bnd (g d σ h) fun σ1 h1 => gs r σ1 h1
  | [] => none
theorem dgs_nil : DGs G W X [] gN := PGs.imp pgs_nil fun vs σ H Q ⟨m, σd, lh, ds, rh, rs, r, p⟩ => by
  cases ds with
  | nil => exact ⟨r, p m H σ rh .refl ⟨rs, rfl⟩⟩
  | cons d r' => exact p.elim
/-- no exception -/
def NoEx {α : Type} (r : Res α) : Prop := ∀ c x h, r ≠ some (.ex c x, h)
theorem dgs_cons {tg : Expr} {tgs : List Expr} {g : GV} {gs : GsV} (h1 : DG G W X tg g) (h2 : DGs G W X tgs gs) (nx : ∀ ds σ h, NoEx (gs ds σ h))
    (hs : (assignEach (tg :: tgs) X.env).map (·.2) = assign tg X.env :: (assignEach tgs X.env).map (·.2) := by rfl) : DGs G W X (tg :: tgs) (gC g gs) := PGs.imp (pgs_cons h1 h2 hs) fun vs σ H Q ⟨m, σd, lh, ds, rh, rs, r, p⟩ => by
  cases ds with
  | nil => exact p.elim
  | cons d r' =>
    obtain ⟨v, t, e, r1, r2⟩ := r
    refine ⟨v, t, e, m, σd, lh, d, rh, rs, r1, ?_⟩
    unfold gC at p
    dsimp only at p
    generalize g d σd lh = rr at p
    match rr, p with
    | some (.ok σ1, lh1), p =>
      intro m1 H1 s1 rh1 e1 ⟨q1, l1⟩
      refine ⟨m1, σ1, lh1, r', rh1, q1, RepVs.keep rh e1 _ _ r2, ?_⟩
      have p' : Post G W σ (relS G σ.length) m1 H1 Q (gs r' σ1 lh1) := Post.later rh1 e1 p
      have ne := nx r' σ1 lh1
      generalize gs r' σ1 lh1 = r2 at p' ne
      match r2, p', ne with
      | some (.ok σ2, lh2), p', _ => rw [l1]; exact p'
      | some (.ex c x, lh2), _, ne => exact absurd rfl (ne c x lh2)
    | some (.ex c x, lh1), p => exact p
def gTp (gs : GsV) (n : Nat) : GV := fun d σ h => match d with
  | .tup xs => if xs.length = n then gs xs σ h else none
  | _ => none
theorem dg_tup {es : List Expr} {k : Nat} {gs : GsV} (hG : X.K = G.K) (hc : X.calm = true) (h : DGs G W X es gs) (hn : (assignEach es X.env).length = n := by rfl) (hst : (assignEach es X.env).findIdx? (·.1) = none := by rfl) :
    DG G W X (.Tuple es k pos) (gTp gs n) := PG.imp (pg_tup hc h hn hst) fun v σ H Q ⟨m, σd, lh, d, rh, rs, r, p⟩ => by
  cases d with
  | tup xs =>
    obtain ⟨a, vs, e, q, hs⟩ := r
    unfold gTp at p
    dsimp only at p
    split at p
    · rename_i hl
      exact ⟨a, vs, e, by rw [hG]; exact q, by rw [← hs.len]; exact hl, m, σd, lh, xs, rh, rs, hs, p⟩
    · exact p.elim
  | _ => exact p.elim
theorem nx_nil (ds : List D) (σ : Env) (h : LH) : NoEx (gN ds σ h) := fun c x h' z => by
  cases ds <;> cases z
theorem nx_nm (d : D) (i : Nat) (σ : Env) (h : LH) : NoEx (gNm i d σ h) := fun c x h' z => by cases z
theorem nx_cons {g : GV} {gs : GsV} (h1 : ∀ d σ h, NoEx (g d σ h)) (h2 : ∀ ds σ h, NoEx (gs ds σ h)) (ds : List D) (σ : Env) (h : LH) : NoEx (gC g gs ds σ h) := fun c x h' z => by
  cases ds with
  | nil => cases z
  | cons d r =>
    have z' : bnd (g d σ h) (fun σ1 h1 => gs r σ1 h1) = some (.ex c x, h') := z
    have q := h1 d σ h
    generalize g d σ h = rr at z' q
    match rr, z', q with
    | some (.ok σ1, lh1), z', _ => exact h2 _ _ _ _ _ _ z'
    | some (.ex c' x', lh1), _, q => exact q _ _ _ rfl
theorem nx_tp {gs : GsV} {n : Nat} (h2 : ∀ ds σ h, NoEx (gs ds σ h)) (d : D) (σ : Env) (h : LH) : NoEx (gTp gs n d σ h) := fun c x h' z => by
  unfold gTp at z
  split at z
  · split at z
    · exact h2 _ _ _ _ _ _ z
    · cases z
  · cases z
def sAsg (f : EV) (g : GV) : SV := fun σ h => bnd (f σ h) fun d h1 => bnd (g d σ h1) fun σ1 h2 => some (.ok (.nx, σ1), h2)
/-- a part behind which the slots may have changed -/
theorem bindGS {g : GV} {d : D} {v : V} {k : Env → LH → Res (Fl × Env)} {De : Ends} (rh : RepH G m H lh) (rs : RepS G m H σd σ) (rv : RepV G m H d v) (hl : σ.length = n) (p : PostS G W n m H De (bnd (g d σd lh) k)) :
    gG G W g v σ H (fun s' H' => ∃ m' lh' σ1, RepH G m' H' lh' ∧ RepS G m' H' σ1 s' ∧ s'.length = n ∧ Ext m H m' H' ∧ PostS G W n m' H' De (k σ1 lh')) := by
  refine ⟨m, σd, lh, d, rh, rs, rv, ?_⟩
  generalize hr : g d σd lh = r at p
  match r, p with
  | some (.ok a, lh'), p => exact fun m' H' b rh' e ⟨q, l⟩ => ⟨m', lh', a, rh', q, l.trans hl, e, p.later rh' e⟩
  | some (.ex c x, lh'), p => exact fun m' H' cls dd rh' e q => p m' H' cls dd σ rh' e q hl
theorem gG.mono {g : GV} {v : V} {Q Q' : St → Hp → Prop} (h : gG G W g v σ H Q) (k : ∀ s H, Q s H → Q' s H) : gG G W g v σ H Q' := by
  obtain ⟨m, σd, lh, d, rh, rs, rv, p⟩ := h
  exact ⟨m, σd, lh, d, rh, rs, rv, p.mono k⟩
theorem t_asg {g : GV} {De : Ends} (hl : σ.length = n) (h : tS G W n (sAsg f g) De σ H) : tAsg (tE G W f) (gG G W g) De σ H := by
  obtain ⟨m, σd, lh, rh, rs, p⟩ := h
  refine (bindS hl rh rs p).mono fun x H1 ⟨m1, lh1, d1, rh1, rs1, e1, r1, p1⟩ => ?_
  refine (bindGS rh1 rs1 r1 hl p1).mono fun s2 H2 ⟨m2, lh2, σ2, rh2, rs2, l2, e2, p2⟩ => ?_
  exact p2 m2 H2 s2 rh2 .refl rs2 l2
theorem ds_asg {tg : Expr} {g : GV} (he : DE G W X e f) (hg : DG G W X tg g) (hs : swapsWithSole [tg] e pos.line X.env = pure false := by rfl) (hw : swappedStores [tg] e X.env = pure none := by rfl)
    (h1 : (assignEach [tg] X.env).map (·.2) = [assign tg X.env] := by rfl) : DS G W X (.Assign [tg] e pos) (sAsg f g) := PS.impL (ps_asg he hg hs hw h1) fun De σ H hl h => t_asg hl h
theorem ds_set {i : Nat} {x : Str} {pos' : Pos} (hN : X.N.Nodup) (he : DE G W X e f) (hi : X.N[i]? = some x := by rfl) (hx : Loc X.env.scope x := by first | exact Or.inl rfl | exact Or.inr rfl) (hs : swapsWith e (some (.Name x pos')) pos.line X.env = pure false := by rfl) (hf : X.fn x = true ∨ X.env.scope.names.lookup x = some .local := by first | exact .inl rfl | exact .inr rfl | assumption) :
    DS G W X (.Assign [.Name x pos'] e pos) (sAsg f (gNm i)) := PS.impL (ps_set hN hi hx he hs hf) fun De σ H hl h => by
  obtain ⟨m, σd, lh, rh, rs, p⟩ := h
  refine (bindS hl rh rs p).mono fun x H1 ⟨m1, lh1, d1, rh1, rs1, e1, r1, p1⟩ => ?_
  exact p1 m1 H1 _ rh1 .refl (rs1.set r1 i) (by rw [List.length_set]; exact hl)
/-- xs[i] = v -/
def gIt (o i : EV) : GV := fun d σ h => bnd (o σ h) fun x h1 => bnd (i σ h1) fun y h2 => match x, y with
  | .loc n, .int k => (match h2[n]? with
    | some (.lst xs) => (ixN xs.length k).elim none fun j => some (.ok σ, h2.set n (.lst (xs.set j d)))
    | _ => none)
  | _, _ => none
theorem dg_item {o i : Expr} {fo fi : EV} (ho : DE G W X o fo) (hi : DE G W X i fi)
    (ha : ∀ v, assign (.Subscript o i pos) X.env v = (do
      let ov ← holding [v] (eval o X.env)
      let iv ← holding [v, ov] (eval i X.env)
      standAt pos
      holding [v, ov, iv] (setItem ov iv v)
      release [v, ov, iv] []) := by intro _; rfl) : DG G W X (.Subscript o i pos) (gIt fo fi) := PG.imp (pg_sub ho hi set_list ha) fun v σ H Q ⟨m, σd, lh, d, rh, rs, rv, p⟩ => by
  refine (bindG rh rs p).mono fun x H1 ⟨m1, lh1, d1, rh1, rs1, e1, r1, p1⟩ => ?_
  refine (bindG rh1 rs1 p1).mono fun y H2 ⟨m2, lh2, d2, rh2, rs2, e2, r2, p2⟩ => ?_
  have rv2 := RepV.keep rh1 e2 _ _ (RepV.keep rh e1 _ _ rv)
  have r12 := RepV.keep rh1 e2 _ _ r1
  cases d1 with
  | loc n =>
    cases d2 with
    | int k =>
      obtain ⟨a, ha, ea⟩ := r12
      dsimp only at p2
      cases q : lh2[n]? with
      | none => rw [q] at p2; exact p2.elim
      | some lo =>
        rw [q] at p2
        cases lo with
        | lst xs =>
          dsimp only at p2
          cases q2 : ixN xs.length k with
          | none => rw [q2] at p2; exact p2.elim
          | some j =>
            rw [q2] at p2
            obtain ⟨a', ha', vs, hH, hs⟩ := rh2.get q
            rw [ha] at ha'; cases ha'
            refine ⟨a, vs, k, j, ea, r2, hH, by rw [← hs.len]; exact q2, ?_⟩
            obtain ⟨e3, r3⟩ := ext_write (o := .lst (vs.set j v)) (lo := .lst (xs.set j d)) rh2 ha fun e3 => ⟨_, upd_same, RepVs.set (RepV.keep rh2 e3 _ _ rv2) j (RepVs.keep rh2 e3 _ _ hs)⟩
            exact p2 m2 _ σ r3 e3 ⟨rs2.keep rh2 e3, rfl⟩
        | dic _ => exact p2.elim
        | ins _ _ _ => exact p2.elim
    | _ => exact p2.elim
  | _ => exact p2.elim
/-- a, b = x, y: stored from the right -/
def sPar (i j : Nat) (g : AV) : SV := fun σ h => bnd (g σ h) fun xs h1 => match xs with
  | [x, y] => some (.ok (.nx, (σ.set i (some x)).set j (some y)), h1)
  | _ => none
theorem ds_par {i j : Nat} {x y : Str} {u v : Expr} {g : AV} {px py pt : Pos} {kt k2 pt2} (hc : X.calm = true) (hN : X.N.Nodup) (hi : X.N[i]? = some x) (hj : X.N[j]? = some y) (hij : i ≠ j)
    (hx : X.env.scope.names.lookup x = some .local) (hy : X.env.scope.names.lookup y = some .local) (ha : DA G W X [u, v] g)
    (hw : swappedStores [.Tuple [.Name x px, .Name y py] kt pt] (.Tuple [u, v] k2 pt2) X.env = pure (some [x, y]))
    (hs : swapsWithSole [.Tuple [.Name x px, .Name y py] kt pt] (.Tuple [u, v] k2 pt2) pos.line X.env = pure false := by rfl) :
    DS G W X (.Assign [.Tuple [.Name x px, .Name y py] kt pt] (.Tuple [u, v] k2 pt2) pos) (sPar i j g) := PS.impL (ps_par hc hN hi hj hij hx hy ha hw hs) fun De σ H hl ⟨m, σd, lh, rh, rs, p⟩ => by
  refine (bindS hl rh rs p).mono fun vs H1 ⟨m1, lh1, ds, rh1, rs1, e1, r1, p1⟩ => ?_
  cases ds with
  | nil => exact p1.elim
  | cons d1 t =>
    cases t with
    | nil => exact p1.elim
    | cons d2 t =>
      cases t with
      | cons _ _ => exact p1.elim
      | nil =>
        obtain ⟨v1, t1, ev1, q1, v2, t2, ev2, q2, q3⟩ := r1
        subst ev2
        subst ev1
        have q3 : t2 = [] := q3
        subst q3
        exact ⟨v1, v2, rfl, p1 m1 H1 _ rh1 .refl ((rs1.set q1 i).set q2 j) (by rw [List.length_set, List.length_set]; exact hl)⟩
/-- x op= e, ints -/
def sAug (i : Nat) (f : EV) (op : D → D → LH → Res D) : SV := fun σ h => match σ[i]? with
  | some (some x) => bnd (f σ h) fun y h1 => bnd (op x y h1) fun z h2 => some (.ok (.nx, σ.set i (some z)), h2)
  | _ => none
def iAdd : D → D → LH → Res D := DL.opI fun i j => some (.int (i + j))
theorem ds_augI {i : Nat} {x : Str} {pos' : Pos} {o : Operator} {g : Int → Int → Int} (hN : X.N.Nodup) (he : DE G W X e f) (ho : PIp X o (ipI g)) (hi : X.N[i]? = some x := by rfl) (hx : Loc X.env.scope x := by first | exact Or.inl rfl | exact Or.inr rfl) (hf : X.fn x = true ∨ X.env.scope.names.lookup x = some .local := by first | exact .inl rfl | exact .inr rfl | assumption) :
    DS G W X (.AugAssign (.Name x pos') o e pos) (sAug i f (DL.opI fun i j => some (.int (g i j)))) := PS.impL (ps_aug hN hi hx he ho hf) fun De σ H hl ⟨m, σd, lh, rh, rs, p⟩ => by
  unfold sAug at p
  cases q : σd[i]? with
  | none => rw [q] at p; exact p.elim
  | some o =>
    cases o with
    | none => rw [q] at p; exact p.elim
    | some x =>
      rw [q] at p
      obtain ⟨v, hv, rv⟩ := rs.get q
      refine ⟨v, hv, ?_⟩
      refine (bindS hl rh rs p).mono fun y H1 ⟨m1, lh1, d1, rh1, rs1, e1, r1, p1⟩ => ?_
      have rv1 := RepV.keep rh e1 _ _ rv
      cases x with
      | int a =>
        cases d1 with
        | int b => exact ⟨a, b, rv1, r1, p1 m1 H1 _ rh1 .refl (rs1.set (d := .int (g a b)) rfl i) (by rw [List.length_set]; exact hl)⟩
        | _ => exact p1.elim
      | _ => exact p1.elim

/-! ### while -/
def whileD (c : TV) (b : SV) : Nat → Env → LH → Res (Fl × Env)
  | 0, _, _ => none
  | n + 1, σ, h => bnd (c σ h) fun k h1 => if k = true then bnd (b σ h1) fun r h2 => (match r with
      | (.nx, σ2) => whileD c b n σ2 h2
      | (.ct, σ2) => whileD c b n σ2 h2
      | (.bk, σ2) => some (.ok (.nx, σ2), h2)
      | (.rt d, σ2) => some (.ok (.rt d, σ2), h2)) else some (.ok (.nx, σ), h1)
def fuel : Nat := 1000000000000
def sWhile (c : TV) (b : SV) : SV := whileD c b fuel
theorem ds_while (hp : PassesOwn (model X.prog X.w) X.A X.env X.xe) (hc : DT' G W X c t) (hb : DSs G W X body a) : DS G W X (.While c body [] pos) (sWhile t a) := PS.impL (ps_while hp hc hb) fun De σ H hl ⟨m, σd, lh, rh, rs, p⟩ => by
  refine ⟨fun k σ' H' => ∃ m' σd' lh', RepH G m' H' lh' ∧ RepS G m' H' σd' σ' ∧ σ'.length = X.N.length ∧ PostS G W X.N.length m' H' De (whileD t a k σd' lh'), ⟨fuel, m, σd, lh, rh, rs, hl, p⟩, ?_⟩
  rintro k σ1 H1 ⟨m1, σd1, lh1, rh1, rs1, hl1, p1⟩
  cases k with
  | zero => exact p1.elim
  | succ k =>
    refine (bindS hl1 rh1 rs1 p1).mono fun b H2 ⟨m2, lh2, d2, rh2, rs2, e2, r2, p2⟩ => ?_
    subst r2
    cases d2 with
    | false => exact p2 m2 H2 σ1 rh2 .refl rs2 hl1
    | true =>
      refine ⟨fun σ' H' => ∃ m' σd' lh', RepH G m' H' lh' ∧ RepS G m' H' σd' σ' ∧ σ'.length = X.N.length ∧ PostS G W X.N.length m' H' De (whileD t a k σd' lh'), fun σ' H' z => ⟨k, Nat.lt_succ_self k, z⟩, ?_⟩
      refine ⟨m2, σd1, lh2, rh2, rs2, ?_⟩
      have p2 : PostS G W X.N.length m2 H2 De (bnd (a σd1 lh2) fun r h2 => (match r with
        | (.nx, σ2) => whileD t a k σ2 h2
        | (.ct, σ2) => whileD t a k σ2 h2
        | (.bk, σ2) => some (.ok (.nx, σ2), h2)
        | (.rt d, σ2) => some (.ok (.rt d, σ2), h2))) := p2
      generalize a σd1 lh2 = r at p2
      match r, p2 with
      | some (.ok (.nx, σd'), lh'), p => exact fun m' H' s r e q l => ⟨m', σd', lh', r, q, l, p.later r e⟩
      | some (.ok (.ct, σd'), lh'), p => exact fun m' H' s r e q l => ⟨m', σd', lh', r, q, l, p.later r e⟩
      | some (.ok (.bk, σd'), lh'), p => exact p
      | some (.ok (.rt d, σd'), lh'), p => exact p
      | some (.ex c x, lh'), p => exact p
end
end DL

set_option maxRecDepth 100000
set_option maxHeartbeats 400000
set_option linter.all false
/-! DenE: what is walked, for, list comprehensions. -/
namespace DL
open PySem PySem.Spec L2

/-- a source: the items, and, if it is a list of the logical heap, its place -/
structure Src where
  items : List D
  src : Option Nat
def grd (s : Src) (h : LH) : Prop := match s.src with
  | none => True
  | some n => h[n]? = some (.lst s.items)
noncomputable instance (s : Src) (h : LH) : Decidable (grd s h) := Classical.propDecidable _
@[simp] theorem grd_none (xs : List D) (h : LH) : grd ⟨xs, none⟩ h = True := rfl
@[simp] theorem grd_some (xs : List D) (n : Nat) (h : LH) : grd ⟨xs, some n⟩ h = (h[n]? = some (.lst xs)) := rfl
/-- J yields the items, as long as the source stands -/
structure ItOk (G : Gx) (m0 : List Addr) (H0 : Hp) (J : It) (s : Src) : Prop where
  stop : ∀ m H lh i, RepH G m H lh → Ext m0 H0 m H → grd s lh → s.items.length ≤ i → J.stop i H
  go : ∀ m H lh i x, RepH G m H lh → Ext m0 H0 m H → grd s lh → s.items[i]? = some x → J.go i H ∧ ∀ v H', J.yld i H v H' → RepH G m H' lh ∧ Ext m H m H' ∧ RepV G m H' x v
theorem ItOk.later {G : Gx} {m m' : List Addr} {H H' : Hp} {lh : LH} {J : It} {s : Src} (rh : RepH G m' H' lh) (e : Ext m H m' H') (h : ItOk G m H J s) : ItOk G m' H' J s :=
  ⟨fun m2 H2 lh2 i r2 e2 => h.stop m2 H2 lh2 i r2 (e.trans rh.ne e2), fun m2 H2 lh2 i x r2 e2 => h.go m2 H2 lh2 i x r2 (e.trans rh.ne e2)⟩
abbrev IV := Env → LH → Res Src
def relI (G : Gx) : List Addr → Hp → Src → It → Prop := fun m H s J => ItOk G m H J s ∧ ∀ Dd, H Dd = none → ItOk (G.z (Dd :: G.Z)) m H J s
abbrev tI (G : Gx) (W : WX) (f : IV) : TI := tG G W (relI G) f
abbrev DI (G : Gx) (W : WX) (X : Cx) (tg iter : Expr) (f : IV) : Prop := PI X tg iter (tI G W f)
theorem PI.imp {X : Cx} {tg iter : Expr} {t t' : TI} (h : PI X tg iter t) (k : ∀ σ H Q, t' σ H Q → t σ H Q) : PI X tg iter t' := ⟨fun pins s σ H R I hw => h.run pins s σ H R I (k _ _ _ hw)⟩

section
variable {G : Gx} {W : WX} {X : Cx} {σ : St} {m m' : List Addr} {H H' : Hp} {lh lh' : LH} {σd σd' : Env} {n : Nat}
variable {tg l e : Expr} {f : EV} {g : GV} {pos : Pos}
/-! hiding a list under way -/
section
variable {Dd : Addr}
mutual
theorem RepV.hide (hD : H Dd = none) : ∀ (d : D) (v : V), RepV G m H d v → RepV (G.z (Dd :: G.Z)) m H d v
  | .non, _, h => h
  | .bl _, _, h => h
  | .int _, _, h => h
  | .str _, _, h => h
  | .tup xs, v, ⟨a, vs, e1, h, hs⟩ => ⟨a, vs, e1, h, RepVs.hide hD xs vs hs⟩
  | .lst xs, v, ⟨a, vs, e1, hm, h, hs⟩ => ⟨a, vs, e1, ⟨hm.1, fun z => (List.mem_cons.mp z).elim (fun q => by rw [q, hD] at h; cases h) hm.2⟩, h, RepVs.hide hD xs vs hs⟩
  | .obj c ns xs, v, ⟨a, dx, vs, e1, hm, h, hl, hs⟩ => ⟨a, dx, vs, e1, hm, h, hl, RepVs.hide hD xs vs hs⟩
  | .loc n, v, h => h
  | .scr ns, v, h => h
theorem RepVs.hide (hD : H Dd = none) : ∀ (xs : List D) (vs : List V), RepVs G m H xs vs → RepVs (G.z (Dd :: G.Z)) m H xs vs
  | [], _, h => h
  | x :: xs, _, ⟨v, t, e1, h1, h2⟩ => ⟨v, t, e1, RepV.hide hD x v h1, RepVs.hide hD xs t h2⟩
end
mutual
theorem RepV.show_ : ∀ (d : D) (v : V), RepV (G.z (Dd :: G.Z)) m H d v → RepV G m H d v
  | .non, _, h => h
  | .bl _, _, h => h
  | .int _, _, h => h
  | .str _, _, h => h
  | .tup xs, v, ⟨a, vs, e1, h, hs⟩ => ⟨a, vs, e1, h, RepVs.show_ xs vs hs⟩
  | .lst xs, v, ⟨a, vs, e1, hm, h, hs⟩ => ⟨a, vs, e1, ⟨hm.1, fun z => hm.2 (List.mem_cons_of_mem _ z)⟩, h, RepVs.show_ xs vs hs⟩
  | .obj c ns xs, v, ⟨a, dx, vs, e1, hm, h, hl, hs⟩ => ⟨a, dx, vs, e1, hm, h, hl, RepVs.show_ xs vs hs⟩
  | .loc n, v, h => h
  | .scr ns, v, h => h
theorem RepVs.show_ : ∀ (xs : List D) (vs : List V), RepVs (G.z (Dd :: G.Z)) m H xs vs → RepVs G m H xs vs
  | [], _, h => h
  | x :: xs, _, ⟨v, t, e1, h1, h2⟩ => ⟨v, t, e1, RepV.show_ x v h1, RepVs.show_ xs t h2⟩
end
theorem DK.map {G' : Gx} (k : ∀ d v, RepV G m H d v → RepV G' m H d v) : ∀ (kvs : List (D × D)) (l : List (Key × V)), DK G m H kvs l → DK G' m H kvs l
  | [], _, h => h
  | (_, x) :: t, _, ⟨kk, v, r', e1, hk, hx, ht⟩ => ⟨kk, v, r', e1, hk, k x v hx, DK.map k t r' ht⟩
theorem DT.map {G' : Gx} (k : ∀ d v, RepV G m H d v → RepV G' m H d v) : ∀ (kvs : List (D × D)) (l : List (List Key × V)), DT G m H kvs l → DT G' m H kvs l
  | [], _, h => h
  | (_, x) :: t, _, ⟨kk, v, r', ds, e1, hk, hd, hx, ht⟩ => ⟨kk, v, r', ds, e1, hk, hd, k x v hx, DT.map k t r' ht⟩
theorem RepVs.map {G' : Gx} (k : ∀ d v, RepV G m H d v → RepV G' m H d v) : ∀ {xs : List D} {vs : List V}, RepVs G m H xs vs → RepVs G' m H xs vs
  | [], _, h => h
  | x :: _, _, ⟨v, t, e1, h1, h2⟩ => ⟨v, t, e1, k x v h1, RepVs.map k h2⟩
theorem RepO.map {G' : Gx} (hc : G'.ca = G.ca) (k : ∀ d v, RepV G m H d v → RepV G' m H d v) : ∀ {o : LO} {a : Addr}, RepO G m H o a → RepO G' m H o a
  | .lst _, _, ⟨vs, h, hs⟩ => ⟨vs, h, RepVs.map k hs⟩
  | .dic _, _, .inl ⟨l, h, hs⟩ => .inl ⟨l, h, DK.map k _ _ hs⟩
  | .dic _, _, .inr ⟨l, h, hs⟩ => .inr ⟨l, h, DT.map k _ _ hs⟩
  | .ins c ns xs, _, ⟨dx, vs, h, hl, hs⟩ => ⟨dx, vs, by rw [hc]; exact h, hl, RepVs.map k hs⟩
theorem RepOs.map {G' : Gx} (hc : G'.ca = G.ca) (k : ∀ d v, RepV G m H d v → RepV G' m H d v) : ∀ {l : LH} {t : List Addr}, RepOs G m H l t → RepOs G' m H l t
  | [], _, h => h
  | o :: l, _, ⟨b, t, e1, ho, hr⟩ => ⟨b, t, e1, RepO.map hc k ho, RepOs.map hc k hr⟩
theorem RepS.map {G' : Gx} (k : ∀ d v, RepV G m H d v → RepV G' m H d v) : ∀ {σd : Env} {σ : St}, RepS G m H σd σ → RepS G' m H σd σ
  | [], _, h => h
  | x :: _, _, ⟨v, t, e1, h1, h2⟩ => ⟨v, t, e1, fun d hd => let ⟨w, hw, r⟩ := h1 d hd; ⟨w, hw, k d w r⟩, RepS.map k h2⟩
/-- the state with a new hidden list -/
theorem hide_new {vs : List V} (rh : RepH G m H lh) (hD : H Dd = none) : Ext m H m (upd H Dd (.lst vs)) ∧ RepH (G.z (Dd :: G.Z)) m (upd H Dd (.lst vs)) lh := by
  have e : Ext m H m (upd H Dd (.lst vs)) := ⟨⟨[], by simp, fun a h => by cases h⟩, fun a u _ hu => by rw [upd_ne (ne_of_none hu hD)]; exact hu⟩
  refine ⟨e, rh.nd, fun a ha => ?_, RepOs.keepT (G := G.z (Dd :: G.Z)) rh.th e (fun a ha => ?_) (RepOs.map (G := G) (G' := G.z (Dd :: G.Z)) rfl (fun d v => RepV.hide hD d v) rh.os)⟩
  · rcases List.mem_cons.mp ha with z | z
    · rw [z]; exact ⟨fun hm => rh.ne _ hm hD, vs, upd_same⟩
    · exact rh.zsK e a z
  · obtain ⟨u, hu, _⟩ := rh.there ha
    rw [upd_ne (ne_of_none hu hD)]
theorem hide_S {vs : List V} (rh : RepH G m H lh) (hD : H Dd = none) (e : Ext m H m (upd H Dd (.lst vs))) (rs : RepS G m H σd σ) : RepS (G.z (Dd :: G.Z)) m (upd H Dd (.lst vs)) σd σ :=
  RepS.keepT (G := G.z (Dd :: G.Z)) rh.th e (RepS.map (fun d v => RepV.hide hD d v) rs)
mutual
theorem RepV.mapH (nD : Dd ∉ m) {vs0 ws : List V} (hz : Dd ∈ G.Z) (hD : H Dd = some (.lst vs0)) : ∀ (d : D) (v : V), RepV G m H d v → RepV G m (upd H Dd (.lst ws)) d v
  | .non, _, h => h
  | .bl _, _, h => h
  | .int _, _, h => h
  | .str _, _, h => h
  | .tup xs, v, ⟨a, vs, e1, h, hs⟩ => ⟨a, vs, e1, by
      have ne : ∀ u, H a = some u → Hard u ∨ a ≠ Dd := fun u hu => by
        by_cases q : a = Dd
        · subst q; rw [hD] at hu; cases hu; exact .inl (by constructor <;> intros <;> intro z <;> cases z)
        · exact .inr q
      rcases h with (h | ⟨o, h⟩) | h
      · rcases ne _ h with q | q
        · exact absurd rfl (q.1 _)
        · exact .inl (.inl (by rw [upd_ne q]; exact h))
      · rcases ne _ h with q | q
        · exact absurd rfl (q.2 _ _)
        · exact .inl (.inr ⟨o, by rw [upd_ne q]; exact h⟩)
      · exact .inr h, RepVs.mapH nD hz hD xs vs hs⟩
  | .lst xs, v, ⟨a, vs, e1, hm, h, hs⟩ => ⟨a, vs, e1, hm, by rw [upd_ne (fun q => hm.2 (by rw [q]; exact hz))]; exact h, RepVs.mapH nD hz hD xs vs hs⟩
  | .obj c ns xs, v, ⟨a, dx, vs, e1, hm, h, hl, hs⟩ => ⟨a, dx, vs, e1, hm, by rw [upd_ne (ne_of h hD (by intro z; cases z))]; exact h, hl, RepVs.mapH nD hz hD xs vs hs⟩
  | .loc n, v, h => h
  | .scr ns, v, ⟨a, e1, h⟩ => ⟨a, e1, h.elim (fun ⟨o, h⟩ => .inl ⟨o, by rw [upd_ne (ne_of h hD (by intro z; cases z))]; exact h⟩) .inr⟩
theorem RepVs.mapH (nD : Dd ∉ m) {vs0 ws : List V} (hz : Dd ∈ G.Z) (hD : H Dd = some (.lst vs0)) : ∀ (xs : List D) (vs : List V), RepVs G m H xs vs → RepVs G m (upd H Dd (.lst ws)) xs vs
  | [], _, h => h
  | x :: xs, _, ⟨v, t, e1, h1, h2⟩ => ⟨v, t, e1, RepV.mapH nD hz hD x v h1, RepVs.mapH nD hz hD xs t h2⟩
end
theorem DK.mapK {H' : Hp} (k : ∀ d v, RepV G m H d v → RepV G m H' d v) : ∀ (kvs : List (D × D)) (l : List (Key × V)), DK G m H kvs l → DK G m H' kvs l
  | [], _, h => h
  | (_, x) :: t, _, ⟨kk, v, r', e1, hk, hx, ht⟩ => ⟨kk, v, r', e1, hk, k x v hx, DK.mapK k t r' ht⟩
theorem DT.mapK {H' : Hp} (k : ∀ d v, RepV G m H d v → RepV G m H' d v) : ∀ (kvs : List (D × D)) (l : List (List Key × V)), DT G m H kvs l → DT G m H' kvs l
  | [], _, h => h
  | (_, x) :: t, _, ⟨kk, v, r', ds, e1, hk, hd, hx, ht⟩ => ⟨kk, v, r', ds, e1, hk, hd, k x v hx, DT.mapK k t r' ht⟩
theorem RepVs.mapK {H' : Hp} (k : ∀ d v, RepV G m H d v → RepV G m H' d v) : ∀ {xs : List D} {vs : List V}, RepVs G m H xs vs → RepVs G m H' xs vs
  | [], _, h => h
  | x :: _, _, ⟨v, t, e1, h1, h2⟩ => ⟨v, t, e1, k x v h1, RepVs.mapK k h2⟩
theorem RepO.mapK {H' : Hp} (k : ∀ d v, RepV G m H d v → RepV G m H' d v) : ∀ {o : LO} {a : Addr}, H' a = H a → RepO G m H o a → RepO G m H' o a
  | .lst _, _, q, ⟨vs, h, hs⟩ => ⟨vs, q.trans h, RepVs.mapK k hs⟩
  | .dic _, _, q, .inl ⟨l, h, hs⟩ => .inl ⟨l, q.trans h, DK.mapK k _ _ hs⟩
  | .dic _, _, q, .inr ⟨l, h, hs⟩ => .inr ⟨l, q.trans h, DT.mapK k _ _ hs⟩
  | .ins c ns xs, _, q, ⟨dx, vs, h, hl, hs⟩ => ⟨dx, vs, q.trans h, hl, RepVs.mapK k hs⟩
theorem RepOs.mapK {H' : Hp} (k : ∀ d v, RepV G m H d v → RepV G m H' d v) : ∀ {l : LH} {t : List Addr}, (∀ a ∈ t, H' a = H a) → RepOs G m H l t → RepOs G m H' l t
  | [], _, _, h => h
  | o :: l, _, q, ⟨b, t, e1, ho, hr⟩ => by
    subst e1
    exact ⟨b, t, rfl, RepO.mapK k (q b List.mem_cons_self) ho, RepOs.mapK k (fun a h => q a (List.mem_cons_of_mem _ h)) hr⟩
theorem RepS.mapKS {H' : Hp} (k : ∀ d v, RepV G m H d v → RepV G m H' d v) : ∀ {σd : Env} {σ : St}, RepS G m H σd σ → RepS G m H' σd σ
  | [], _, h => h
  | x :: _, _, ⟨v, t, e1, h1, h2⟩ => ⟨v, t, e1, fun d hd => let ⟨w, hw, r⟩ := h1 d hd; ⟨w, hw, k d w r⟩, RepS.mapKS k h2⟩
/-- the hidden list written -/
theorem hide_write {vs ws : List V} (rh : RepH (G.z (Dd :: G.Z)) m H lh) (hD : H Dd = some (.lst vs)) : RepH (G.z (Dd :: G.Z)) m (upd H Dd (.lst ws)) lh ∧ (∀ d v, RepV (G.z (Dd :: G.Z)) m H d v → RepV (G.z (Dd :: G.Z)) m (upd H Dd (.lst ws)) d v) := by
  have nD : Dd ∉ m := (rh.zs Dd List.mem_cons_self).1
  have k : ∀ d v, RepV (G.z (Dd :: G.Z)) m H d v → RepV (G.z (Dd :: G.Z)) m (upd H Dd (.lst ws)) d v := RepV.mapH (G := G.z (Dd :: G.Z)) nD List.mem_cons_self hD
  refine ⟨⟨rh.nd, fun a ha => ?_, RepOs.mapK (G := G.z (Dd :: G.Z)) k (fun a ha => upd_ne (fun q => nD (by rw [← q]; exact ha))) rh.os⟩, k⟩
  obtain ⟨h1, xs, h2⟩ := rh.zs a ha
  refine ⟨h1, ?_⟩
  by_cases q : a = Dd
  · exact ⟨ws, by rw [q]; exact upd_same⟩
  · exact ⟨xs, by rw [upd_ne q]; exact h2⟩
/-- the hidden list is shown -/
theorem hide_end (rh : RepH (G.z (Dd :: G.Z)) m H lh) : RepH G m H lh :=
  ⟨rh.nd, fun a ha => rh.zs a (List.mem_cons_of_mem _ ha), RepOs.map (G := G.z (Dd :: G.Z)) (G' := G) rfl (fun d v => RepV.show_ d v) rh.os⟩
end
/-! ### sources -/
def iTupD (f : EV) : IV := fun σ h => bnd (f σ h) fun d h1 => match d with
  | .tup xs => some (.ok ⟨xs, none⟩, h1)
  | _ => none
theorem itt_ok {K : PySem.W.Frag} {a : Addr} {xs : List D} {vs : List V} (th : There m H) (q : SqT K H a vs) (hs : RepVs G m H xs vs) : ItOk G m H (Itt K a) ⟨xs, none⟩ where
  stop := fun m1 H1 lh1 i r1 e1 _ hi => ⟨vs, SqT.keepDT th e1 q, by rw [← hs.len]; exact hi⟩
  go := fun m1 H1 lh1 i x r1 e1 _ hx => by
    obtain ⟨v, hv, rv⟩ := RepVs.get (RepVs.keepT th e1 _ _ hs) hx
    refine ⟨⟨vs, v, SqT.keepDT th e1 q, hv⟩, fun w H' y => ?_⟩
    obtain ⟨eH, y⟩ := y
    subst eH
    have := y vs (SqT.keepDT th e1 q)
    rw [hv] at this; cases this
    exact ⟨r1, .refl, rv⟩
theorem di_tup (hG : X.K = G.K) (hl : DE G W X l f) : DI G W X tg l (iTupD f) := PI.imp (pi_tup hl) fun σ H R ⟨m, σd, lh, rh, rs, p⟩ => by
  refine (bindG rh rs p).mono fun v H1 ⟨m1, lh1, d1, rh1, rs1, e1, r1, p1⟩ => ?_
  cases d1 with
  | tup xs =>
    obtain ⟨a, vs, ea, q, hs⟩ := r1
    rw [hG]
    exact ⟨a, ea, ⟨vs, q⟩, p1 m1 H1 _ rh1 .refl ⟨itt_ok rh1.th q hs, fun Dd hD => itt_ok (G := G.z (Dd :: G.Z)) rh1.th q (RepVs.hide hD _ _ hs)⟩⟩
  | _ => exact p1.elim
/-- a list: a value, the script, or one of the logical heap -/
def srcL (h : LH) : D → Option Src
  | .lst xs => some ⟨xs, none⟩
  | .scr ns => some ⟨ns.map D.int, none⟩
  | .loc n => match h[n]? with
    | some (.lst xs) => some ⟨xs, some n⟩
    | _ => none
  | _ => none
def iLstD (f : EV) : IV := fun σ h => bnd (f σ h) fun d h1 => (srcL h1 d).elim none fun s => some (.ok s, h1)
def LiveOk (G : Gx) (m : List Addr) (H : Hp) (a : Addr) (s : Src) : Prop := ∀ m1 H1 lh1, RepH G m1 H1 lh1 → Ext m H m1 H1 → grd s lh1 → ∃ vs1, SqL G.K H1 a vs1 ∧ RepVs G m1 H1 s.items vs1
theorem scr_sq {ns : List Int} {v : V} (r : RepV G m H (.scr ns) v) : ∃ a, v = .ref a ∧ SqL G.K H a (ns.map V.int) := by
  obtain ⟨a, e, q⟩ := r
  exact ⟨a, e, q.elim (fun ⟨o, q⟩ => .inl (.inr ⟨o, q⟩)) .inr⟩
theorem live_of (th : There m H) {d : D} {a : Addr} {s : Src} (r : RepV G m H d (.ref a)) (h : srcL lh d = some s) : LiveOk G m H a s := by
  cases d with
  | lst xs =>
    have z : (⟨xs, none⟩ : Src) = s := Option.some.inj h
    subst z
    obtain ⟨a', vs, e, hm, hH, hs⟩ := r
    cases e
    exact fun m1 H1 lh1 r1 e1 _ => ⟨vs, SqL.of (e1.keep _ _ hm.1 hH), RepVs.keepT th e1 _ _ hs⟩
  | scr ns =>
    have z : (⟨ns.map D.int, none⟩ : Src) = s := Option.some.inj h
    subst z
    intro m1 H1 lh1 r1 e1 _
    obtain ⟨a', e', q'⟩ := scr_sq (RepV.keepT th e1 _ _ r)
    cases e'
    exact ⟨_, q', RepVs.ints _⟩
  | loc n =>
    obtain ⟨a', hm, e⟩ := r
    cases e
    cases q : lh[n]? with
    | none => simp only [srcL, q] at h; cases h
    | some o =>
      cases o with
      | lst xs =>
        simp only [srcL, q] at h
        have z : (⟨xs, some n⟩ : Src) = s := Option.some.inj h
        subst z
        intro m1 H1 lh1 r1 e1 hg
        obtain ⟨a2, ha2, vs2, hH2, hs2⟩ := r1.get (show lh1[n]? = some (.lst xs) from hg)
        rw [e1.get hm] at ha2; cases ha2
        exact ⟨vs2, SqL.of hH2, hs2⟩
      | dic _ => simp only [srcL, q] at h; cases h
      | ins _ _ _ => simp only [srcL, q] at h; cases h
  | _ => cases h
theorem srcL_grd {d : D} {s : Src} (h : srcL lh d = some s) : grd s lh := by
  cases d with
  | loc n =>
    cases q : lh[n]? with
    | none => simp only [srcL, q] at h; cases h
    | some o =>
      cases o with
      | lst xs =>
        simp only [srcL, q] at h
        have z : (⟨xs, some n⟩ : Src) = s := Option.some.inj h
        subst z
        exact q
      | dic _ => simp only [srcL, q] at h; cases h
      | ins _ _ _ => simp only [srcL, q] at h; cases h
  | lst xs =>
    have z : (⟨xs, none⟩ : Src) = s := Option.some.inj h
    subst z; trivial
  | scr ns =>
    have z : (⟨ns.map D.int, none⟩ : Src) = s := Option.some.inj h
    subst z; trivial
  | _ => cases h
theorem srcL_ref {d : D} {v : V} {s : Src} (r : RepV G m H d v) (h : srcL lh d = some s) : ∃ a, v = .ref a := by
  cases d with
  | lst xs => obtain ⟨a, _, e, _⟩ := r; exact ⟨a, e⟩
  | scr ns => obtain ⟨a, e, _⟩ := r; exact ⟨a, e⟩
  | loc n => obtain ⟨a, _, e⟩ := r; exact ⟨a, e⟩
  | _ => cases h
theorem itl_ok {K : PySem.W.Frag} {a : Addr} {s : Src} (hG : K = G.K) (k : LiveOk G m H a s) : ItOk G m H (Itl K a) s where
  stop := fun m1 H1 lh1 i r1 e1 hg hi => by
    obtain ⟨vs1, q1, hs1⟩ := k m1 H1 lh1 r1 e1 hg
    rw [hG]
    exact ⟨vs1, q1, by rw [← hs1.len]; exact hi⟩
  go := fun m1 H1 lh1 i x r1 e1 hg hx => by
    obtain ⟨vs1, q1, hs1⟩ := k m1 H1 lh1 r1 e1 hg
    obtain ⟨v, hv, rv⟩ := RepVs.get hs1 hx
    rw [hG]
    refine ⟨⟨vs1, v, q1, hv⟩, fun w H' y => ?_⟩
    obtain ⟨eH, y⟩ := y
    subst eH
    have := y vs1 q1
    rw [hv] at this; cases this
    exact ⟨r1, .refl, rv⟩
theorem di_list (hG : X.K = G.K) (hl : DE G W X l f) : DI G W X tg l (iLstD f) := PI.imp (pi_list hl) fun σ H R ⟨m, σd, lh, rh, rs, p⟩ => by
  refine (bindG rh rs p).mono fun v H1 ⟨m1, lh1, d1, rh1, rs1, e1, r1, p1⟩ => ?_
  cases q : srcL lh1 d1 with
  | none => rw [q] at p1; exact p1.elim
  | some s =>
    rw [q] at p1
    obtain ⟨a, ea⟩ := srcL_ref r1 q
    subst ea
    have k := live_of rh1.th r1 q
    obtain ⟨vs, hq, _⟩ := k m1 H1 lh1 rh1 .refl (srcL_grd q)
    rw [hG]
    exact ⟨a, rfl, ⟨vs, hq⟩, p1 m1 H1 _ rh1 .refl ⟨itl_ok rfl k, fun Dd hD => itl_ok (G := G.z (Dd :: G.Z)) rfl (live_of (G := G.z (Dd :: G.Z)) rh1.th (RepV.hide hD _ _ r1) q)⟩⟩
/-! range -/
def rngD (lo : Int) (k : Nat) : List D := (List.range k).map fun (i : Nat) => D.int (lo + (i : Int))
theorem rng_get {lo : Int} {k i : Nat} {x : D} (h : (rngD lo k)[i]? = some x) : i < k ∧ x = .int (lo + (i : Int)) := by
  unfold rngD at h
  rw [List.getElem?_map] at h
  cases e : (List.range k)[i]? with
  | none => rw [e] at h; cases h
  | some j =>
    rw [e] at h
    have hi := (List.getElem?_eq_some_iff.mp e).1
    rw [List.length_range] at hi
    rw [List.getElem?_range hi] at e
    cases e
    exact ⟨hi, (Option.some.inj h).symm⟩
theorem rng_len (lo : Int) (k : Nat) : (rngD lo k).length = k := by simp [rngD]
theorem itr_ok {lo : Int} {k : Nat} : ItOk G m H (Itr lo k) ⟨rngD lo k, none⟩ where
  stop := fun m1 H1 lh1 i r1 e1 _ hi => by rw [rng_len] at hi; exact hi
  go := fun m1 H1 lh1 i x r1 e1 _ hx => by
    obtain ⟨hi, ex⟩ := rng_get hx
    subst ex
    refine ⟨hi, fun w H' y => ?_⟩
    obtain ⟨eH, y⟩ := y
    subst eH y
    exact ⟨r1, .refl, rfl⟩
def rOk (i : Int) : Bool := decide (-(2 ^ 62) ≤ i) && decide (i < 2 ^ 62)
def iRg1 (g : AV) : IV := fun σ h => bnd (g σ h) fun xs h1 => match xs with
  | [.int j] => if rOk j then some (.ok ⟨rngD 0 j.toNat, none⟩, h1) else none
  | _ => none
def iRg2 (g : AV) : IV := fun σ h => bnd (g σ h) fun xs h1 => match xs with
  | [.int i, .int j] => if rOk i && rOk j then some (.ok ⟨rngD i (j - i).toNat, none⟩, h1) else none
  | _ => none
theorem rOk_of {i : Int} (h : rOk i = true) : -(2 ^ 62) ≤ i ∧ i < 2 ^ 62 := by
  unfold rOk at h
  simp only [Bool.and_eq_true, decide_eq_true_eq] at h
  exact h
theorem repVs1 {d : D} {vs : List V} (h : RepVs G m H [d] vs) : ∃ v, vs = [v] ∧ RepV G m H d v := by
  obtain ⟨v, t, e, h1, h2⟩ := h
  have h2 : t = [] := h2
  subst h2
  exact ⟨v, e, h1⟩
theorem repVs2 {d d' : D} {vs : List V} (h : RepVs G m H [d, d'] vs) : ∃ v v', vs = [v, v'] ∧ RepV G m H d v ∧ RepV G m H d' v' := by
  obtain ⟨v, t, e, h1, h2⟩ := h
  obtain ⟨v', e2, h3⟩ := repVs1 h2
  subst e2
  exact ⟨v, v', e, h1, h3⟩
theorem di_range1 {a : Expr} {ga : AV} {p pos : Pos} (hg : Gl X "range") (hm : X.mg "range" = none) (ha : DA G W X [a] ga) (hs : starEach [a] X.env = [(false, eval a X.env)] := by rfl) : DI G W X tg (.Call (.Name "range" p) [a] [] pos) (iRg1 ga) :=
  PI.imp (pi_range1 hg hm ha hs) fun σ H R ⟨m, σd, lh, rh, rs, p⟩ => by
  refine (bindG rh rs p).mono fun vs H1 ⟨m1, lh1, ds, rh1, rs1, e1, r1, p1⟩ => ?_
  split at p1
  · split at p1
    · rename_i j hj
      obtain ⟨v, ev, rv⟩ := repVs1 r1
      have rv : v = .int j := rv
      subst rv
      obtain ⟨h1, h2⟩ := rOk_of hj
      exact ⟨j, ev, h1, h2, p1 m1 H1 _ rh1 .refl ⟨itr_ok, fun _ _ => itr_ok⟩⟩
    · exact p1.elim
  · exact p1.elim
theorem di_range2 {a b : Expr} {ga : AV} {p pos : Pos} (hg : Gl X "range") (hm : X.mg "range" = none) (ha : DA G W X [a, b] ga) (hs : starEach [a, b] X.env = [(false, eval a X.env), (false, eval b X.env)] := by rfl) (hs2 : starEach [b] X.env = [(false, eval b X.env)] := by rfl) :
    DI G W X tg (.Call (.Name "range" p) [a, b] [] pos) (iRg2 ga) :=
  PI.imp (pi_range2 hg hm ha hs hs2) fun σ H R ⟨m, σd, lh, rh, rs, p⟩ => by
  refine (bindG rh rs p).mono fun vs H1 ⟨m1, lh1, ds, rh1, rs1, e1, r1, p1⟩ => ?_
  split at p1
  · split at p1
    · rename_i i j hj
      obtain ⟨v, v', ev, rv, rv'⟩ := repVs2 r1
      have rv : v = .int i := rv
      have rv' : v' = .int j := rv'
      subst rv rv'
      rw [Bool.and_eq_true] at hj
      obtain ⟨h1, h2⟩ := rOk_of hj.1
      obtain ⟨h3, h4⟩ := rOk_of hj.2
      exact ⟨i, j, ev, ⟨h1, h2, h3, h4⟩, p1 m1 H1 _ rh1 .refl ⟨itr_ok, fun _ _ => itr_ok⟩⟩
    · exact p1.elim
  · exact p1.elim
/-! enumerate of a list -/
def enumD : Nat → List D → List D
  | _, [] => []
  | i, x :: xs => .tup [.int i, x] :: enumD (i + 1) xs
theorem enum_len : ∀ (k : Nat) (xs : List D), (enumD k xs).length = xs.length
  | _, [] => rfl
  | k, x :: xs => by simp [enumD, enum_len]
theorem enum_get : ∀ {k : Nat} {xs : List D} {i : Nat} {y : D}, (enumD k xs)[i]? = some y → ∃ x, xs[i]? = some x ∧ y = .tup [.int ((k + i : Nat) : Int), x]
  | _, [], _, _, h => by simp [enumD] at h
  | k, x :: xs, 0, y, h => by simp [enumD] at h; exact ⟨x, by simp, by simp [← h]⟩
  | k, x :: xs, i + 1, y, h => by
    obtain ⟨z, h1, h2⟩ := enum_get (k := k + 1) (xs := xs) (i := i) (y := y) (by simpa [enumD] using h)
    exact ⟨z, by simpa using h1, by rw [h2]; congr 3; omega⟩
/-- the source's items and what is yielded of them may differ: the guard is about the list -/
structure Src2 where
  base : Src
  items : List D

/-! ### for -/
noncomputable def forD (s : Src) (g : GV) (b : SV) : List D → Env → LH → Res (Fl × Env)
  | [], σ, h => if grd s h then some (.ok (.nx, σ), h) else none
  | x :: xs, σ, h => if grd s h then bnd (g x σ h) fun σ1 h1 => bnd (b σ1 h1) fun r h2 => (match r with
      | (.nx, σ2) => forD s g b xs σ2 h2
      | (.ct, σ2) => forD s g b xs σ2 h2
      | (.bk, σ2) => some (.ok (.nx, σ2), h2)
      | (.rt d, σ2) => some (.ok (.rt d, σ2), h2)) else none
noncomputable def sFor (it : IV) (g : GV) (b : SV) : SV := fun σ h => bnd (it σ h) fun s h1 => forD s g b s.items σ h1
theorem ds_for {iter : Expr} {body : List Stmt} {it : IV} {b : SV} (hp : PassesOwn (model X.prog X.w) X.A X.env X.xe) (hc : X.calm = true) (hi : DI G W X tg iter it) (hg : DG G W X tg g) (hb : DSs G W X body b)
    (hs : ∀ x, foldedSetIterable iter X.env x = pure x := by intro _; rfl) : DS G W X (.For tg iter body [] pos) (sFor it g b) := PS.impL (ps_for hp hc hi hg hb hs) fun De σ H hl ⟨m, σd, lh, rh, rs, p⟩ => by
  refine (bindS hl rh rs p).mono fun J H1 ⟨m1, lh1, s, rh1, rs1, e1, ⟨ok, _⟩, p1⟩ => ?_
  refine ⟨fun i k σ' H' => k = s.items.length - i ∧ i ≤ s.items.length ∧ σ'.length = X.N.length ∧ ∃ m' σd' lh', RepH G m' H' lh' ∧ Ext m1 H1 m' H' ∧ RepS G m' H' σd' σ' ∧ PostS G W X.N.length m' H' De (forD s g b (s.items.drop i) σd' lh'),
    ⟨s.items.length, by simp, Nat.zero_le _, hl, m1, σd, lh1, rh1, .refl, rs1, p1⟩, ?_⟩
  rintro i k σ2 H2 ⟨rfl, hi2, hl2, m2, σd2, lh2, rh2, e2, rs2, p2⟩
  by_cases hlt : i < s.items.length
  · have hx : s.items[i]? = some s.items[i] := List.getElem?_eq_getElem hlt
    rw [List.drop_eq_getElem_cons hlt] at p2
    unfold forD at p2
    split at p2
    · rename_i gd
      obtain ⟨go, yl⟩ := ok.go m2 H2 lh2 i _ rh2 e2 gd hx
      refine .inr ⟨go, _, fun σ' H' z => ⟨s.items.length - (i + 1), by omega, rfl, hlt, z⟩, fun v H3 y => ?_⟩
      obtain ⟨rh3, e3, rv3⟩ := yl v H3 y
      have rs3 := rs2.keep rh2 e3
      have p3 := p2.later rh3 e3
      refine (bindGS rh3 rs3 rv3 hl2 p3).mono fun s4 H4 ⟨m4, lh4, σ4, rh4, rs4, l4, e4, p4⟩ => ?_
      refine ⟨m4, σ4, lh4, rh4, rs4, ?_⟩
      have e14 : Ext m1 H1 m4 H4 := (e2.trans rh2.ne e3).trans rh3.ne e4
      generalize b σ4 lh4 = r at p4
      match r, p4 with
      | some (.ok (.nx, σd'), lh'), p => exact fun m' H' s r e q l => ⟨l, m', σd', lh', r, e14.trans rh4.ne e, q, p.later r e⟩
      | some (.ok (.ct, σd'), lh'), p => exact fun m' H' s r e q l => ⟨l, m', σd', lh', r, e14.trans rh4.ne e, q, p.later r e⟩
      | some (.ok (.bk, σd'), lh'), p => exact p
      | some (.ok (.rt d, σd'), lh'), p => exact p
      | some (.ex c x, lh'), p => exact p
    · exact p2.elim
  · have e : i = s.items.length := by omega
    subst e
    rw [List.drop_length] at p2
    unfold forD at p2
    split at p2
    · rename_i gd
      exact .inl ⟨ok.stop m2 H2 lh2 _ rh2 e2 gd (Nat.le_refl _), p2 m2 H2 σ2 rh2 .refl rs2 hl2⟩
    · exact p2.elim

/-! ### list comprehensions -/
abbrev W0 : WX := fun _ _ _ _ => False
noncomputable def compD (s : Src) (g : GV) (t : TV) (e : EV) (σ0 : Env) : List D → LH → Res (List D)
  | [], h => if grd s h then some (.ok [], h) else none
  | x :: xs, h => if grd s h then bnd (g x σ0 h) fun σ1 h1 => bnd (t σ1 h1) fun k h2 =>
      if k = true then bnd (e σ1 h2) fun y h3 => bnd (compD s g t e σ0 xs h3) fun ys h4 => some (.ok (y :: ys), h4)
      else compD s g t e σ0 xs h2 else none
/-- nothing is raised within a comprehension -/
def calmR {α : Type} (r : Res α) : Res α := match r with
  | some (.ex _ _, _) => none
  | r => r
noncomputable def eComp (mu : Bool) (it : IV) (g : GV) (t : TV) (e : EV) (own : List Nat) : EV := fun σ h => bnd (it σ h) fun s h1 => if s.items.length ≤ line then bnd (calmR (compD s g t e (wipeD σ own) s.items h1)) fun ys h2 => newL mu ys h2 else none
def tYesD : TV := fun _ h => some (.ok true, h)
abbrev DTs (G : Gx) (W : WX) (X : Cx) (ifs : List Expr) (t : TV) : Prop := PTs X ifs (tT G W t)
theorem dts_nil : DTs G W X [] tYesD := ⟨fun pins s σ H Q I ⟨m, σd, lh, rh, rs, p⟩ => pts_nil.run pins s σ H Q I (p m H true rh .refl rfl)⟩
theorem dts_one {c : Expr} {t : TV} (h : DT' G W X c t) : DTs G W X [c] t := pts_one h
/-! the comprehension -/
theorem wipe_wipe (σ : St) : ∀ own : List Nat, L2.wipe (L2.wipe σ own) own = L2.wipe σ own := fun own => by
  have idem : ∀ (l : List Nat) (s : St), (∀ i ∈ l, ∀ x, s[i]? ≠ some (some x)) → L2.wipe s l = s := by
    intro l
    induction l with
    | nil => intro s _; rfl
    | cons v vs ih =>
      intro s h
      show (L2.wipe s vs).set v none = s
      rw [ih s fun i hi => h i (List.mem_cons_of_mem _ hi)]
      by_cases hv : v < s.length
      · have hn : s[v] = none := by
          cases e : s[v] with
          | none => rfl
          | some x => exact absurd (by rw [List.getElem?_eq_getElem hv, e]) (h v List.mem_cons_self x)
        rw [← hn]
        exact List.set_getElem_self hv
      · exact List.set_eq_of_length_le (by omega)
  refine idem own _ fun i hi x h => ?_
  exact (wipe_some h).2 hi
/-- a target that leaves the heap -/
def StillG (gv : GV) : Prop := ∀ d σ h σ1 h1, gv d σ h = some (.ok σ1, h1) → h1 = h
def StillGs (gv : GsV) : Prop := ∀ d σ h σ1 h1, gv d σ h = some (.ok σ1, h1) → h1 = h
theorem still_nm (i : Nat) : StillG (gNm i) := fun d σ h σ1 h1 e => by
  have e' : some (R.ok (σ.set i (some d)), h) = some (R.ok σ1, h1) := e
  injection e' with e'
  injection e' with _ e2
  exact e2.symm
theorem still_n : StillGs gN := fun d σ h σ1 h1 e => by
  cases d with
  | nil =>
    have e' : some (R.ok σ, h) = some (R.ok σ1, h1) := e
    injection e' with e'
    injection e' with _ e2
    exact e2.symm
  | cons _ _ => cases e
theorem still_c {g : GV} {gs : GsV} (h1 : StillG g) (h2 : StillGs gs) : StillGs (gC g gs) := fun d σ h σ1 lh1 e => by
  cases d with
  | nil => cases e
  | cons x xs =>
    have e : bnd (g x σ h) (fun σ1 h1 => gs xs σ1 h1) = some (.ok σ1, lh1) := e
    cases q : g x σ h with
    | none => rw [q] at e; cases e
    | some r =>
      obtain ⟨r, lh2⟩ := r
      cases r with
      | ex c y => rw [q] at e; cases e
      | ok σ2 =>
        rw [q] at e
        exact (h2 _ _ _ _ _ e).trans (h1 _ _ _ _ _ q)
theorem still_tp {gs : GsV} {n : Nat} (h2 : StillGs gs) : StillG (gTp gs n) := fun d σ h σ1 lh1 e => by
  unfold gTp at e
  split at e
  · split at e
    · exact h2 _ _ _ _ _ e
    · cases e
  · cases e
/-- a target of a block: its own reading g0 and its meaning gv; what it stores is forgotten with the block's own names -/
def NatG (K : PySem.W.Frag) (own : List Nat) (g0 : TG) (gv : GV) : Prop := StillG gv ∧ ∀ (G : Gx) (m : List Addr) (H : Hp) (lh : LH) (σd : Env) (σ : St) (d : D) (v : V) (σ1 : Env) (lh1 : LH), G.K = K → RepS G m H σd σ → RepV G m H d v → gv d σd lh = some (.ok σ1, lh1) →
  ∀ Q : St → Hp → Prop, (∀ σ', RepS G m H σ1 σ' → L2.wipe σ' own = L2.wipe σ own → Q σ' H) → g0 v σ H Q
def NatGs (K : PySem.W.Frag) (own : List Nat) (g0 : TGs) (gv : GsV) : Prop := StillGs gv ∧ ∀ (G : Gx) (m : List Addr) (H : Hp) (lh : LH) (σd : Env) (σ : St) (d : List D) (v : List V) (σ1 : Env) (lh1 : LH), G.K = K → RepS G m H σd σ → RepVs G m H d v → gv d σd lh = some (.ok σ1, lh1) →
  ∀ Q : St → Hp → Prop, (∀ σ', RepS G m H σ1 σ' → L2.wipe σ' own = L2.wipe σ own → Q σ' H) → g0 v σ H Q
theorem wipe_set {v : Option V} {i : Nat} : ∀ {own : List Nat} {σ : St}, i ∈ own → L2.wipe (σ.set i v) own = L2.wipe σ own
  | j :: own, σ, h => by
    have step : ∀ (own : List Nat) (σ : St), i ∉ own → L2.wipe (σ.set i v) own = (L2.wipe σ own).set i v := by
      intro own
      induction own with
      | nil => intro σ _; rfl
      | cons k ks ih =>
        intro σ hn
        have h1 : i ≠ k := fun q => hn (by rw [q]; exact List.mem_cons_self)
        have h2 : i ∉ ks := fun q => hn (List.mem_cons_of_mem _ q)
        show (L2.wipe (σ.set i v) ks).set k none = ((L2.wipe σ ks).set k none).set i v
        rw [ih σ h2, List.set_comm _ _ h1]
    by_cases hk : i ∈ own
    · show (L2.wipe (σ.set i v) own).set j none = (L2.wipe σ own).set j none
      rw [wipe_set hk]
    · have e : i = j := (List.mem_cons.mp h).elim id (fun q => absurd q hk)
      subst e
      show (L2.wipe (σ.set i v) own).set i none = (L2.wipe σ own).set i none
      rw [step own σ hk, List.set_set]
theorem natg_name {K : PySem.W.Frag} {own : List Nat} {i : Nat} (hi : i ∈ own) : NatG K own (gName i) (gNm i) := ⟨still_nm i, fun G m H lh σd σ d v σ1 lh1 _ rs rv e => by
  have e' : some (R.ok (σd.set i (some d)), lh) = some (R.ok σ1, lh1) := e
  injection e' with e'
  injection e' with e1 e2
  injection e1 with e1
  subst e1 e2
  exact fun Q k => k _ (rs.set rv i) (wipe_set hi)⟩
theorem natgs_nil {K : PySem.W.Frag} {own : List Nat} : NatGs K own gNil gN := ⟨still_n, fun G m H lh σd σ d v σ1 lh1 _ rs rv e => by
  cases d with
  | nil =>
    have e' : some (R.ok σd, lh) = some (R.ok σ1, lh1) := e
    injection e' with e'
    injection e' with e1 e2
    injection e1 with e1
    subst e1 e2
    exact fun Q k => ⟨rv, k _ rs rfl⟩
  | cons x y => cases e⟩
theorem natgs_cons {K : PySem.W.Frag} {own : List Nat} {g0 : TG} {g : GV} {gs0 : TGs} {gs : GsV} (h1 : NatG K own g0 g) (h2 : NatGs K own gs0 gs) : NatGs K own (gCons g0 gs0) (gC g gs) := ⟨still_c h1.1 h2.1, fun G m H lh σd σ d v σ1 lh1 hG rs rv e => by
  cases d with
  | nil => cases e
  | cons x xs =>
    obtain ⟨w, t, ev, r1, r2⟩ := rv
    have e : bnd (g x σd lh) (fun σ1 h1 => gs xs σ1 h1) = some (.ok σ1, lh1) := e
    cases q : g x σd lh with
    | none => rw [q] at e; cases e
    | some r =>
      obtain ⟨r, lh2⟩ := r
      cases r with
      | ex c y => rw [q] at e; cases e
      | ok σ2 =>
        rw [q] at e
        intro Q k
        exact ⟨w, t, ev, h1.2 G m H lh σd σ x w σ2 lh2 hG rs r1 q _ fun s2 rs2 hw => h2.2 G m H lh2 σ2 s2 xs t σ1 lh1 hG rs2 r2 e Q fun σ' r w => k σ' r (w.trans hw)⟩⟩
theorem natg_tup {K : PySem.W.Frag} {own : List Nat} {n : Nat} {gs0 : TGs} {gs : GsV} (h2 : NatGs K own gs0 gs) : NatG K own (gTup K n gs0) (gTp gs n) := ⟨still_tp h2.1, fun G m H lh σd σ d v σ1 lh1 hG rs rv e => by
  unfold gTp at e
  split at e
  · rename_i xs
    split at e
    · rename_i hl
      obtain ⟨a, vs, ea, q, hs⟩ := rv
      intro Q k
      exact ⟨a, vs, ea, by rw [← hG]; exact q, by rw [← hs.len]; exact hl, h2.2 G m H lh σd σ xs vs σ1 lh1 hG rs hs e Q k⟩
    · cases e
  · cases e⟩
mutual
theorem RepV.showM {Dd : Addr} {vs0 : List V} (hD : H Dd = some (.lst vs0)) : ∀ (d : D) (v : V), RepV (G.z (Dd :: G.Z)) m H d v → RepV G (m ++ [Dd]) H d v
  | .non, _, h => h
  | .bl _, _, h => h
  | .int _, _, h => h
  | .str _, _, h => h
  | .tup xs, v, ⟨a, vs, e1, h, hs⟩ => ⟨a, vs, e1, h, RepVs.showM hD xs vs hs⟩
  | .lst xs, v, ⟨a, vs, e1, hm, h, hs⟩ => ⟨a, vs, e1, ⟨fun z => (List.mem_append.mp z).elim hm.1 (fun z => hm.2 (by rw [List.mem_singleton.mp z]; exact List.mem_cons_self)), fun z => hm.2 (List.mem_cons_of_mem _ z)⟩, h, RepVs.showM hD xs vs hs⟩
  | .obj c ns xs, v, ⟨a, dx, vs, e1, hm, h, hl, hs⟩ => ⟨a, dx, vs, e1, fun z => (List.mem_append.mp z).elim hm (fun z => by rw [List.mem_singleton.mp z, hD] at h; cases h), h, hl, RepVs.showM hD xs vs hs⟩
  | .loc n, v, ⟨a, h, e1⟩ => ⟨a, by rw [List.getElem?_append_left (List.getElem?_eq_some_iff.mp h).1]; exact h, e1⟩
  | .scr ns, v, h => h
theorem RepVs.showM {Dd : Addr} {vs0 : List V} (hD : H Dd = some (.lst vs0)) : ∀ (xs : List D) (vs : List V), RepVs (G.z (Dd :: G.Z)) m H xs vs → RepVs G (m ++ [Dd]) H xs vs
  | [], _, h => h
  | x :: xs, _, ⟨v, t, e1, h1, h2⟩ => ⟨v, t, e1, RepV.showM hD x v h1, RepVs.showM hD xs t h2⟩
end
theorem DK.mapG {G' : Gx} {m' : List Addr} (k : ∀ d v, RepV G m H d v → RepV G' m' H d v) : ∀ (kvs : List (D × D)) (l : List (Key × V)), DK G m H kvs l → DK G' m' H kvs l
  | [], _, h => h
  | (_, x) :: t, _, ⟨kk, v, r', e1, hk, hx, ht⟩ => ⟨kk, v, r', e1, hk, k x v hx, DK.mapG k t r' ht⟩
theorem DT.mapG {G' : Gx} {m' : List Addr} (k : ∀ d v, RepV G m H d v → RepV G' m' H d v) : ∀ (kvs : List (D × D)) (l : List (List Key × V)), DT G m H kvs l → DT G' m' H kvs l
  | [], _, h => h
  | (_, x) :: t, _, ⟨kk, v, r', ds, e1, hk, hd, hx, ht⟩ => ⟨kk, v, r', ds, e1, hk, hd, k x v hx, DT.mapG k t r' ht⟩
theorem RepVs.mapG {G' : Gx} {m' : List Addr} (k : ∀ d v, RepV G m H d v → RepV G' m' H d v) : ∀ {xs : List D} {vs : List V}, RepVs G m H xs vs → RepVs G' m' H xs vs
  | [], _, h => h
  | x :: _, _, ⟨v, t, e1, h1, h2⟩ => ⟨v, t, e1, k x v h1, RepVs.mapG k h2⟩
theorem RepO.mapG {G' : Gx} {m' : List Addr} (hc : G'.ca = G.ca) (k : ∀ d v, RepV G m H d v → RepV G' m' H d v) : ∀ {o : LO} {a : Addr}, RepO G m H o a → RepO G' m' H o a
  | .lst _, _, ⟨vs, h, hs⟩ => ⟨vs, h, RepVs.mapG k hs⟩
  | .dic _, _, .inl ⟨l, h, hs⟩ => .inl ⟨l, h, DK.mapG k _ _ hs⟩
  | .dic _, _, .inr ⟨l, h, hs⟩ => .inr ⟨l, h, DT.mapG k _ _ hs⟩
  | .ins c ns xs, _, ⟨dx, vs, h, hl, hs⟩ => ⟨dx, vs, by rw [hc]; exact h, hl, RepVs.mapG k hs⟩
theorem RepOs.mapG {G' : Gx} {m' : List Addr} (hc : G'.ca = G.ca) (k : ∀ d v, RepV G m H d v → RepV G' m' H d v) : ∀ {l : LH} {t : List Addr}, RepOs G m H l t → RepOs G' m' H l t
  | [], _, h => h
  | o :: l, _, ⟨b, t, e1, ho, hr⟩ => ⟨b, t, e1, RepO.mapG hc k ho, RepOs.mapG hc k hr⟩
/-- the hidden list becomes an object of the logical heap -/
theorem hide_loc {Dd : Addr} {vs : List V} {acc : List D} (hZ : Dd ∉ G.Z) (rh : RepH (G.z (Dd :: G.Z)) m H lh) (hD : H Dd = some (.lst vs)) (ha : RepVs (G.z (Dd :: G.Z)) m H acc vs) : RepH G (m ++ [Dd]) H (lh ++ [.lst acc]) := by
  have nD : Dd ∉ m := (rh.zs Dd List.mem_cons_self).1
  have k : ∀ d v, RepV (G.z (Dd :: G.Z)) m H d v → RepV G (m ++ [Dd]) H d v := RepV.showM hD
  refine ⟨?_, fun a hz => ?_, (RepOs.mapG (G := G.z (Dd :: G.Z)) (G' := G) rfl k rh.os).append ⟨Dd, [], rfl, ⟨vs, hD, RepVs.mapG k ha⟩, rfl⟩⟩
  · rw [List.nodup_append]
    refine ⟨rh.nd, by simp, fun a ha b hb => ?_⟩
    rw [List.mem_singleton.mp hb]
    exact fun z => nD (by rw [← z]; exact ha)
  · obtain ⟨h1, h2⟩ := rh.zs a (List.mem_cons_of_mem _ hz)
    exact ⟨fun z => (List.mem_append.mp z).elim h1 (fun z => hZ (by rw [← List.mem_singleton.mp z]; exact hz)), h2⟩
theorem lc_sem {s : Src} {J : It} {t : TV} {te : EV} {gv : GV} {own : List Nat} {Q : VK} {mu : Bool} {W' : WX} {g0 : TG} (hO : NatG G.K own g0 gv)
    (rh : RepH G m H lh) (rs : RepS G m H σd σ) (ok : relI G m H s J) (hz : s.items.length ≤ line) (p : Post G W' σ (RepV G) m H Q (bnd (calmR (compD s gv t te (wipeD σd own) s.items lh)) fun ys h2 => newL mu ys h2))
    (D : Addr) (hD : H D = none) : ∃ Wv : Nat → Nat → Hp → Prop, (∃ m, Wv 0 m (upd H D (.lst []))) ∧ ∀ i k H, Wv i k H →
      (J.stop i H ∧ Q (.ref D) H) ∨ (J.go i H ∧ ∃ Nx : Hp → Prop, (∀ H', Nx H' → ∃ k', k' < k ∧ Wv (i + 1) k' H') ∧ ∀ x H', J.yld i H x H' → g0 x (L2.wipe σ own) H' fun σ2 H2 => L2.wipe σ2 own = L2.wipe σ own ∧ (fun σ H Q => ∃ Z : List Addr, tT (G.z Z) W0 t σ H Q : TT) σ2 H2 fun b H3 =>
        if b = true then (fun σ H Q => ∃ Z : List Addr, tE (G.z Z) W0 te σ H Q : TE) σ2 H3 fun y H4 => ∃ acc, H4 D = some (.lst acc) ∧ acc.length < sizeLine ∧ Nx (upd H4 D (.lst (acc ++ [y]))) else Nx H3) := by
  have ok := ok.2 D hD
  have nZ : D ∉ G.Z := rh.noZ hD
  refine ⟨fun i k H' => k = s.items.length - i ∧ i ≤ s.items.length ∧ ∃ m' lh' acc vs, RepH (G.z (D :: G.Z)) m' H' lh' ∧ Ext m H m' H' ∧ H' D = some (.lst vs) ∧ RepVs (G.z (D :: G.Z)) m' H' acc vs ∧ acc.length ≤ i ∧ RepS (G.z (D :: G.Z)) m' H' σd σ ∧
      Post G W' σ (RepV G) m H Q (bnd (calmR (compD s gv t te (wipeD σd own) (s.items.drop i) lh')) fun ys h2 => newL mu (acc ++ ys) h2), ⟨s.items.length, by simp, Nat.zero_le _, ?_⟩, ?_⟩
  · obtain ⟨e, r⟩ := hide_new (vs := []) rh hD
    exact ⟨m, lh, [], [], r, e, upd_same, rfl, Nat.zero_le _, hide_S rh hD e rs, p⟩
  · rintro i k H' ⟨rfl, hi, m', lh', acc, vs, rh', e', hDv, hacc, hal, rs', p'⟩
    by_cases hlt : i < s.items.length
    · have hx : s.items[i]? = some s.items[i] := List.getElem?_eq_getElem hlt
      rw [List.drop_eq_getElem_cons hlt] at p'
      unfold compD at p'
      split at p'
      · rename_i gd
        obtain ⟨go, yl⟩ := ok.go m' H' lh' i _ rh' e' gd hx
        refine .inr ⟨go, _, fun H' z => ⟨s.items.length - (i + 1), by omega, rfl, hlt, z⟩, fun v H3 y => ?_⟩
        obtain ⟨rh3, e3, rv3⟩ := yl v H3 y
        have e13 : Ext m H m' H3 := e'.trans rh'.ne e3
        have rs3 := rs'.keep rh' e3
        have nD : D ∉ m' := (rh'.zs D List.mem_cons_self).1
        have hD3 : H3 D = some (.lst vs) := e3.keep _ _ nD hDv
        have ha3 := RepVs.keep rh' e3 _ _ hacc
        rcases qr : gv s.items[i] (wipeD σd own) lh' with _ | ⟨σ4 | ⟨c, y⟩, lh4⟩
        · rw [qr] at p'; exact p'.elim
        rotate_left
        · rw [qr] at p'; exact p'.elim
        rw [qr] at p'
        have el := hO.1 _ _ _ _ _ qr
        subst el
        have p4 : Post G W' σ (RepV G) m H Q (bnd (calmR (bnd (t σ4 lh4) fun k h2 =>
            if k = true then bnd (te σ4 h2) fun y h3 => bnd (compD s gv t te (wipeD σd own) (s.items.drop (i + 1)) h3) fun ys h4 => some (.ok (y :: ys), h4)
            else compD s gv t te (wipeD σd own) (s.items.drop (i + 1)) h2)) fun ys h2 => newL mu (acc ++ ys) h2) := p'
        refine hO.2 (G.z (D :: G.Z)) m' H3 lh4 _ _ _ _ σ4 lh4 rfl (rs3.wipe own) rv3 qr _ fun σ2 rs4 hw => ⟨hw.trans (wipe_wipe σ own), ?_⟩
        obtain ⟨m4, e4, rh4, em4⟩ : ∃ m4, Ext m' H3 m4 H3 ∧ RepH (G.z (D :: G.Z)) m4 H3 lh4 ∧ m4 = m' := ⟨m', .refl, rh3, rfl⟩
        rw [← em4] at rs4
        have q1 : tT (G.z (D :: G.Z)) W0 t σ2 H3 fun b H5 => ∃ m5 lh5, RepH (G.z (D :: G.Z)) m5 H5 lh5 ∧ RepS (G.z (D :: G.Z)) m5 H5 σ4 σ2 ∧ Ext m4 H3 m5 H5 ∧ Post G W' σ (RepV G) m H Q (bnd (calmR (if b = true then bnd (te σ4 lh5) fun y h3 => bnd (compD s gv t te (wipeD σd own) (s.items.drop (i + 1)) h3) fun ys h4 => some (.ok (y :: ys), h4)
            else compD s gv t te (wipeD σd own) (s.items.drop (i + 1)) lh5)) fun ys h2 => newL mu (acc ++ ys) h2) := by
          refine ⟨m4, σ4, lh4, rh4, rs4, ?_⟩
          generalize t σ4 lh4 = r at p4
          match r, p4 with
          | some (.ok k, lh5), p4 => exact fun m5 H5 b r5 e5 q5 => ⟨m5, lh5, r5, rs4.keep rh4 e5, e5, by rw [← q5]; exact p4⟩
        refine ⟨D :: G.Z, q1.mono fun b H5 ⟨m5, lh5, rh5, rs5, e5, p5⟩ => ?_⟩
        have e35 : Ext m' H3 m5 H5 := e4.trans rh4.ne e5
        have nD5 : D ∉ m5 := e35.nin nD hD3
        have hD5 : H5 D = some (.lst vs) := e35.keep _ _ nD hD3
        have ha5 := RepVs.keep rh3 e35 _ _ ha3
        have e15 : Ext m H m5 H5 := e13.trans rh3.ne e35
        have rs35 := rs3.keep rh3 e35
        cases b with
        | false =>
          rw [if_neg Bool.false_ne_true] at p5 ⊢
          exact ⟨m5, lh5, acc, vs, rh5, e15, hD5, ha5, by omega, rs35, p5⟩
        | true =>
          rw [if_pos rfl] at p5 ⊢
          have q2 : tE (G.z (D :: G.Z)) W0 te σ2 H5 fun y H6 => ∃ m6 lh6 d6, RepH (G.z (D :: G.Z)) m6 H6 lh6 ∧ Ext m5 H5 m6 H6 ∧ RepV (G.z (D :: G.Z)) m6 H6 d6 y ∧ Post G W' σ (RepV G) m H Q (bnd (calmR (bnd (compD s gv t te (wipeD σd own) (s.items.drop (i + 1)) lh6) fun ys h4 => some (.ok (d6 :: ys), h4))) fun ys h2 => newL mu (acc ++ ys) h2) := by
            refine ⟨m5, σ4, lh5, rh5, rs5, ?_⟩
            generalize te σ4 lh5 = r at p5
            match r, p5 with
            | some (.ok d6, lh6), p5 => exact fun m6 H6 y r6 e6 q6 => ⟨m6, lh6, d6, r6, e6, q6, p5⟩
          refine ⟨D :: G.Z, q2.mono fun y H6 ⟨m6, lh6, d6, rh6, e6, r6, p6⟩ => ?_⟩
          have hD6 : H6 D = some (.lst vs) := e6.keep _ _ nD5 hD5
          have ha6 := RepVs.keep rh5 e6 _ _ ha5
          have hlen : vs.length < sizeLine := by rw [line_eq, ← ha6.len]; omega
          obtain ⟨rh7, k7⟩ := hide_write (ws := vs ++ [y]) rh6 hD6
          refine ⟨vs, hD6, hlen, m6, lh6, acc ++ [d6], vs ++ [y], rh7, ?_, upd_same, ?_, by rw [List.length_append, List.length_singleton]; omega, RepS.mapKS k7 (rs35.keep rh5 e6), ?_⟩
          · have e16 := e15.trans rh5.ne e6
            exact ⟨e16.more, fun a o ha ho => by rw [upd_ne (ne_of_none ho hD)]; exact e16.keep a o ha ho⟩
          · exact RepVs.mapK (G := G.z (D :: G.Z)) k7 (ha6.append ⟨y, [], rfl, r6, rfl⟩)
          · generalize compD s gv t te (wipeD σd own) (s.items.drop (i + 1)) lh6 = r at p6 ⊢
            match r, p6 with
            | some (.ok ys, lh7), p6 =>
              have p6 : Post G W' σ (RepV G) m H Q (newL mu (acc ++ d6 :: ys) lh7) := p6
              show Post G W' σ (RepV G) m H Q (newL mu (acc ++ [d6] ++ ys) lh7)
              rw [List.append_assoc]
              exact p6
      · exact p'.elim
    · have e : i = s.items.length := by omega
      subst e
      rw [List.drop_length] at p'
      unfold compD at p'
      split at p'
      · rename_i gd
        refine .inl ⟨ok.stop m' H' lh' _ rh' e' gd (Nat.le_refl _), ?_⟩
        have p2 : Post G W' σ (RepV G) m H Q (newL mu (acc ++ []) lh') := p'
        rw [List.append_nil] at p2
        have nD : D ∉ m' := (rh'.zs D List.mem_cons_self).1
        cases mu with
        | true =>
          refine p2 (m' ++ [D]) H' _ (hide_loc nZ rh' hDv hacc) ⟨?_, e'.keep⟩ ⟨D, by rw [rh'.len]; simp, rfl⟩
          obtain ⟨l, hl, hf⟩ := e'.more
          refine ⟨l ++ [D], by rw [hl, List.append_assoc], fun a ha => ?_⟩
          rcases List.mem_append.mp ha with q | q
          · exact hf a q
          · rw [List.mem_singleton.mp q]; exact hD
        | false => exact p2 m' H' _ (hide_end rh') e' ⟨D, vs, rfl, ⟨nD, nZ⟩, hDv, RepVs.map (G := G.z (D :: G.Z)) (G' := G) (fun d v => RepV.show_ d v) hacc⟩
      · exact p'.elim
theorem pe_all {X : Cx} {e : Expr} {α : Type} {t : α → TE} (h : ∀ z, PE X e (t z)) : PE X e (fun σ H Q => ∃ z, t z σ H Q) := ⟨fun pins s σ H Q I ⟨z, hw⟩ => (h z).run pins s σ H Q I hw⟩
theorem pts_all {X : Cx} {e : List Expr} {α : Type} {t : α → TT} (h : ∀ z, PTs X e (t z)) : PTs X e (fun σ H Q => ∃ z, t z σ H Q) := ⟨fun pins s σ H Q I ⟨z, hw⟩ => (h z).run pins s σ H Q I hw⟩
theorem t_comp {mu : Bool} {own : List Nat} {it : IV} {gv : GV} {g0 : TG} {t : TV} {te : EV} {Q : VK} (hg0 : NatG G.K own g0 gv) (h : tE G W (eComp mu it gv t te own) σ H Q) :
    tLc (tI G W it) g0 (fun σ H Q => ∃ Z : List Addr, tT (G.z Z) W0 t σ H Q) (fun σ H Q => ∃ Z : List Addr, tE (G.z Z) W0 te σ H Q) own σ H Q := by
  obtain ⟨m, σd, lh, rh, rs, p⟩ := h
  refine (bindG rh rs p).mono fun J H1 ⟨m1, lh1, s, rh1, rs1, e1, r1, p1⟩ => ?_
  intro D hD
  split at p1
  · rename_i hz
    obtain ⟨Wv, h0, hw⟩ := lc_sem hg0 rh1 rs1 r1 hz p1 D hD
    exact ⟨Wv, h0, hw⟩
  · exact p1.elim
theorem de_comp (mu : Bool) {elt iter : Expr} {ifs : List Expr} {scope : Scope} {own : List (Str × Nat)} {it : IV} {gv : GV} {g0 : TG} {t : TV} {te : EV} (hc : X.calm = true) (hN : X.N.Nodup) (ok : BlkOk X.N X.env.scope scope own)
    (hi : DI G W X tg iter it) (hg0 : NatG G.K (own.map (·.2)) g0 gv)
    (hg : ∀ (s : Shared) (H : Hp) (C : Addr) (cl : List (Str × Addr)) (fp : List Addr), PG (X.blk s H scope (compEnvC scope cl C X.env) fp) tg g0)
    (ht : ∀ (Z : List Addr) (s : Shared) (H : Hp) (C : Addr) (cl : List (Str × Addr)) (fp : List Addr), DTs (G.z Z) W0 (X.blk s H scope (compEnvC scope cl C X.env) fp) ifs t)
    (he : ∀ (Z : List Addr) (s : Shared) (H : Hp) (C : Addr) (cl : List (Str × Addr)) (fp : List Addr), DE (G.z Z) W0 (X.blk s H scope (compEnvC scope cl C X.env) fp) elt te) (hs : ∀ x, foldedSetIterable iter X.env x = pure x := by intro _; rfl) :
    DE G W X (.ListComp elt [⟨tg, iter, ifs, 0⟩] scope pos) (eComp mu it gv t te (own.map (·.2))) :=
  PE.imp (pe_lc hc hN hi ok hg (fun s H C cl fp => pts_all fun Z => ht Z s H C cl fp) (fun s H C cl fp => pe_all fun Z => he Z s H C cl fp) hs) fun σ H Q h => t_comp hg0 h
/-- name = [..] on one line, the name a local -/
theorem ds_setLc (mu : Bool) {i : Nat} {y : Str} {py spos : Pos} {elt iter : Expr} {ifs : List Expr} {scope : Scope} {own : List (Str × Nat)} {it : IV} {gv : GV} {g0 : TG} {t : TV} {te : EV} (hc : X.calm = true) (hN : X.N.Nodup) (hy : X.N[i]? = some y) (hyl : X.env.scope.names.lookup y = some .local)
    (hsw : swapsWith (.ListComp elt [⟨tg, iter, ifs, 0⟩] scope pos) (some (.Name y py)) spos.line X.env = pure true) (ok : BlkOk X.N X.env.scope scope own)
    (hi : DI G W X tg iter it) (hg0 : NatG G.K (own.map (·.2)) g0 gv)
    (hg : ∀ (s : Shared) (H : Hp) (C : Addr) (cl : List (Str × Addr)) (fp : List Addr), PG (X.blk s H scope (compEnvC scope cl C X.env) fp) tg g0)
    (ht : ∀ (Z : List Addr) (s : Shared) (H : Hp) (C : Addr) (cl : List (Str × Addr)) (fp : List Addr), DTs (G.z Z) W0 (X.blk s H scope (compEnvC scope cl C X.env) fp) ifs t)
    (he : ∀ (Z : List Addr) (s : Shared) (H : Hp) (C : Addr) (cl : List (Str × Addr)) (fp : List Addr), DE (G.z Z) W0 (X.blk s H scope (compEnvC scope cl C X.env) fp) elt te) (hs : ∀ x, foldedSetIterable iter X.env x = pure x := by intro _; rfl) :
    DS G W X (.Assign [.Name y py] (.ListComp elt [⟨tg, iter, ifs, 0⟩] scope pos) spos) (sAsg (eComp mu it gv t te (own.map (·.2))) (gNm i)) :=
  PS.impL (ps_setLc hc hN hy hyl hsw hi ok hg (fun s H C cl fp => pts_all fun Z => ht Z s H C cl fp) (fun s H C cl fp => pe_all fun Z => he Z s H C cl fp) hs) fun De σ H hl ⟨m, σd, lh, rh, rs, p⟩ => by
  refine t_comp (mu := mu) hg0 ?_
  refine (bindS hl rh rs p).mono fun x H1 ⟨m1, lh1, d1, rh1, rs1, e1, r1, p1⟩ => ?_
  exact p1 m1 H1 _ rh1 .refl (rs1.set r1 i) (by rw [List.length_set]; exact hl)
end
end DL

set_option maxRecDepth 100000
set_option maxHeartbeats 400000
set_option linter.all false
/-! DenF: own defs: bodies, promises, calls; what a def leaves behind. -/
namespace DL
open PySem PySem.Spec L2
open PyProof.Rows hiding St

/-- a def's meaning: of its arguments -/
abbrev FV := List D → LH → Res D
/-- an exception as the def's context takes it -/
abbrev WF (E : XK) : WX := fun cls d _ H => E cls d H
def spF (G : Gx) (n : Nat) (f : FV) : Sp := fun vs H Q E => ∃ Z m lh ds, RepH (G.z Z) m H lh ∧ RepVs (G.z Z) m H ds vs ∧ ds.length = n ∧ Post (G.z Z) (WF E) [] (RepV (G.z Z)) m H Q (f ds lh)
/-- a body as a def: p parameters, q further slots -/
def bodyD (q : Nat) (b : SV) : FV := fun ds h => match b (ds.map some ++ List.replicate q none) h with
  | some (.ok (.nx, _), h') => some (.ok .non, h')
  | some (.ok (.rt d, _), h') => some (.ok d, h')
  | some (.ex c x, h') => some (.ex c x, h')
  | _ => none

section
variable {G : Gx} {m : List Addr} {H : Hp} {lh : LH}
theorem repS_none : ∀ n : Nat, RepS G m H (List.replicate n none) (List.replicate n none)
  | 0 => rfl
  | n + 1 => ⟨none, List.replicate n none, rfl, (fun d h => by cases h), repS_none n⟩
theorem repS_args : ∀ {ds : List D} {vs : List V} {σd : Env} {σ : St}, RepVs G m H ds vs → RepS G m H σd σ → RepS G m H (ds.map some ++ σd) (vs.map some ++ σ)
  | [], _, _, _, h, r => by cases h; exact r
  | d :: ds, _, σd, σ, ⟨v, t, e, hv, ht⟩, r => by
    subst e
    exact ⟨some v, t.map some ++ σ, rfl, fun d' h => by cases h; exact ⟨v, rfl, hv⟩, repS_args ht r⟩
theorem Post.anyσ {α β : Type} {rel : List Addr → Hp → α → β → Prop} {E : XK} {W : WX} {σ σ' : St} {Q : β → Hp → Prop} {r : Res α} (hE : ∀ c d H, W c d σ H → E c d H) (h : Post G W σ rel m H Q r) : Post G (WF E) σ' rel m H Q r := by
  match r, h with
  | some (.ok a, lh'), h => exact h
  | some (.ex c x, lh'), h => exact fun m' H' cls dd r e q => hE _ _ _ (h m' H' cls dd r e q)
theorem Post.toW {α β : Type} {rel : List Addr → Hp → α → β → Prop} {E : XK} {W : WX} {σ σ' : St} {Q : β → Hp → Prop} {r : Res α} (hE : ∀ c d H, E c d H → W c d σ' H) (h : Post G (WF E) σ rel m H Q r) : Post G W σ' rel m H Q r := by
  match r, h with
  | some (.ok a, lh'), h => exact h
  | some (.ex c x, lh'), h => exact fun m' H' cls dd r e q => hE _ _ _ (h m' H' cls dd r e q)
end

/-! ### what is left behind -/
mutual
/-- no place at n or above -/
def below (n : Nat) : D → Bool
  | .loc k => decide (k < n)
  | .tup xs => belows n xs
  | .lst xs => belows n xs
  | .obj _ _ xs => belows n xs
  | _ => true
def belows (n : Nat) : List D → Bool
  | [] => true
  | x :: xs => below n x && belows n xs
end
def belowK (n : Nat) : List (D × D) → Bool
  | [] => true
  | (_, x) :: r => below n x && belowK n r
def belowO (n : Nat) : LO → Bool
  | .lst xs => belows n xs
  | .dic kvs => belowK n kvs
  | .ins _ _ xs => belows n xs
def mapO (g : D → Option D) : List D → Option (List D)
  | [] => some []
  | x :: xs => (g x).bind fun y => (mapO g xs).map (y :: ·)
/-- what is new becomes a value -/
def frz (h : LH) (n : Nat) : Nat → D → Option D
  | 0, _ => none
  | f + 1, .loc k => if k < n then some (.loc k) else (match h[k]? with
    | some (.lst xs) => (mapO (frz h n f) xs).map .lst
    | some (.ins c ns xs) => (mapO (frz h n f) xs).map (.obj c ns)
    | _ => none)
  | f + 1, .tup xs => (mapO (frz h n f) xs).map .tup
  | f + 1, .lst xs => (mapO (frz h n f) xs).map .lst
  | f + 1, .obj c ns xs => (mapO (frz h n f) xs).map (.obj c ns)
  | _ + 1, d => some d
section
variable {G : Gx} {m l : List Addr} {H : Hp} {lh : LH}
mutual
theorem RepV.cut : ∀ (d : D) (v : V), below m.length d = true → RepV G (m ++ l) H d v → RepV G m H d v
  | .non, _, _, h => h
  | .bl _, _, _, h => h
  | .int _, _, _, h => h
  | .str _, _, _, h => h
  | .tup xs, v, b, ⟨a, vs, e1, h, hs⟩ => ⟨a, vs, e1, h, RepVs.cut xs vs b hs⟩
  | .lst xs, v, b, ⟨a, vs, e1, hm, h, hs⟩ => ⟨a, vs, e1, ⟨fun z => hm.1 (List.mem_append_left _ z), hm.2⟩, h, RepVs.cut xs vs b hs⟩
  | .obj c ns xs, v, b, ⟨a, dx, vs, e1, hm, h, hl, hs⟩ => ⟨a, dx, vs, e1, fun z => hm (List.mem_append_left _ z), h, hl, RepVs.cut xs vs b hs⟩
  | .loc n, v, b, ⟨a, h, e1⟩ => ⟨a, by rw [List.getElem?_append_left (of_decide_eq_true b)] at h; exact h, e1⟩
  | .scr ns, v, _, h => h
theorem RepVs.cut : ∀ (xs : List D) (vs : List V), belows m.length xs = true → RepVs G (m ++ l) H xs vs → RepVs G m H xs vs
  | [], _, _, h => h
  | x :: xs, _, b, ⟨v, t, e1, h1, h2⟩ => ⟨v, t, e1, RepV.cut x v (Bool.and_eq_true_iff.mp b).1 h1, RepVs.cut xs t (Bool.and_eq_true_iff.mp b).2 h2⟩
end
theorem DK.cut : ∀ (kvs : List (D × D)) (t : List (Key × V)), belowK m.length kvs = true → DK G (m ++ l) H kvs t → DK G m H kvs t
  | [], _, _, h => h
  | (_, x) :: t, _, b, ⟨kk, v, r', e1, hk, hx, ht⟩ => ⟨kk, v, r', e1, hk, RepV.cut x v (Bool.and_eq_true_iff.mp b).1 hx, DK.cut t r' (Bool.and_eq_true_iff.mp b).2 ht⟩
theorem DT.cut : ∀ (kvs : List (D × D)) (t : List (List Key × V)), belowK m.length kvs = true → DT G (m ++ l) H kvs t → DT G m H kvs t
  | [], _, _, h => h
  | (_, x) :: t, _, b, ⟨kk, v, r', ds, e1, hk, hd, hx, ht⟩ => ⟨kk, v, r', ds, e1, hk, hd, RepV.cut x v (Bool.and_eq_true_iff.mp b).1 hx, DT.cut t r' (Bool.and_eq_true_iff.mp b).2 ht⟩
theorem RepO.cut : ∀ {o : LO} {a : Addr}, belowO m.length o = true → RepO G (m ++ l) H o a → RepO G m H o a
  | .lst _, _, b, ⟨vs, h, hs⟩ => ⟨vs, h, RepVs.cut _ _ b hs⟩
  | .dic _, _, b, .inl ⟨t, h, hs⟩ => .inl ⟨t, h, DK.cut _ _ b hs⟩
  | .dic _, _, b, .inr ⟨t, h, hs⟩ => .inr ⟨t, h, DT.cut _ _ b hs⟩
  | .ins _ _ _, _, b, ⟨dx, vs, h, hl, hs⟩ => ⟨dx, vs, h, hl, RepVs.cut _ _ b hs⟩
theorem mapO_rep {g : D → Option D} (hg : ∀ d d' v, g d = some d' → RepV G (m ++ l) H d v → RepV G m H d' v) : ∀ (xs ys : List D) (vs : List V), mapO g xs = some ys → RepVs G (m ++ l) H xs vs → RepVs G m H ys vs
  | [], ys, vs, e, h => by unfold mapO at e; cases e; exact h
  | x :: xs, ys, vs, e, ⟨v, t, ev, h1, h2⟩ => by
    unfold mapO at e
    obtain ⟨y, ey, e⟩ := Option.bind_eq_some_iff.mp e
    obtain ⟨zs', ez, rfl⟩ := Option.map_eq_some_iff.mp e
    exact ⟨v, t, ev, hg x y v ey h1, mapO_rep hg xs zs' t ez h2⟩
theorem frz_rep (nd : (m ++ l).Nodup) (zs : ∀ a ∈ G.Z, a ∉ m ++ l) (os : RepOs G (m ++ l) H lh (m ++ l)) : ∀ (f : Nat) (d d' : D) (v : V), frz lh m.length f d = some d' → RepV G (m ++ l) H d v → RepV G m H d' v
  | 0, _, _, _, e, _ => by simp [frz] at e
  | f + 1, .loc k, d', v, e, h => by
    unfold frz at e
    split at e
    · rename_i hk
      cases e
      exact RepV.cut _ _ (decide_eq_true hk) h
    · rename_i hk
      obtain ⟨a, ha, ev⟩ := h
      have am : a ∉ m := fun z => by
        obtain ⟨j, hj, ej⟩ := List.getElem_of_mem z
        have hlt : k < (m ++ l).length := (List.getElem?_eq_some_iff.mp ha).1
        have e1 : (m ++ l)[k] = a := (List.getElem?_eq_some_iff.mp ha).2
        have hj' : j < (m ++ l).length := by rw [List.length_append]; omega
        have e2 : (m ++ l)[j] = a := by rw [List.getElem_append_left hj]; exact ej
        have := (List.nodup_iff_pairwise_ne.mp nd)
        have hjk : j < k := by omega
        exact (List.pairwise_iff_getElem.mp this j k hj' hlt hjk) (e2.trans e1.symm)
      have az : a ∉ G.Z := fun z => zs a z (List.mem_of_getElem? ha)
      split at e
      · rename_i xs q
        obtain ⟨ys, ey, rfl⟩ := Option.map_eq_some_iff.mp e
        obtain ⟨a', ha', vs, hH, hs⟩ := os.get q
        rw [ha] at ha'; cases ha'
        exact ⟨a, vs, ev, ⟨am, az⟩, hH, mapO_rep (frz_rep nd zs os f) xs ys vs ey hs⟩
      · rename_i c ns xs q
        obtain ⟨ys, ey, rfl⟩ := Option.map_eq_some_iff.mp e
        obtain ⟨a', ha', dx, vs, hH, hl, hs⟩ := os.get q
        rw [ha] at ha'; cases ha'
        exact ⟨a, dx, vs, ev, am, hH, hl, mapO_rep (frz_rep nd zs os f) xs ys vs ey hs⟩
      · cases e
  | f + 1, .tup xs, d', v, e, ⟨a, vs, ev, h, hs⟩ => by
    unfold frz at e
    obtain ⟨ys, ey, rfl⟩ := Option.map_eq_some_iff.mp e
    exact ⟨a, vs, ev, h, mapO_rep (frz_rep nd zs os f) xs ys vs ey hs⟩
  | f + 1, .lst xs, d', v, e, ⟨a, vs, ev, hm, h, hs⟩ => by
    unfold frz at e
    obtain ⟨ys, ey, rfl⟩ := Option.map_eq_some_iff.mp e
    exact ⟨a, vs, ev, ⟨fun z => hm.1 (List.mem_append_left _ z), hm.2⟩, h, mapO_rep (frz_rep nd zs os f) xs ys vs ey hs⟩
  | f + 1, .obj c ns xs, d', v, e, ⟨a, dx, vs, ev, hm, h, hl, hs⟩ => by
    unfold frz at e
    obtain ⟨ys, ey, rfl⟩ := Option.map_eq_some_iff.mp e
    exact ⟨a, dx, vs, ev, fun z => hm (List.mem_append_left _ z), h, hl, mapO_rep (frz_rep nd zs os f) xs ys vs ey hs⟩
  | f + 1, .non, d', v, e, h => by unfold frz at e; cases e; exact h
  | f + 1, .bl _, d', v, e, h => by unfold frz at e; cases e; exact h
  | f + 1, .int _, d', v, e, h => by unfold frz at e; cases e; exact h
  | f + 1, .str _, d', v, e, h => by unfold frz at e; cases e; exact h
  | f + 1, .scr _, d', v, e, h => by unfold frz at e; cases e; exact h
end
section
variable {G : Gx} {m l : List Addr} {H : Hp} {lh : LH}
mutual
theorem RepV.below : ∀ (d : D) (v : V), RepV G m H d v → DL.below m.length d = true
  | .non, _, _ => rfl
  | .bl _, _, _ => rfl
  | .int _, _, _ => rfl
  | .str _, _, _ => rfl
  | .tup xs, v, ⟨a, vs, e1, h, hs⟩ => RepVs.below xs vs hs
  | .lst xs, v, ⟨a, vs, e1, hm, h, hs⟩ => RepVs.below xs vs hs
  | .obj c ns xs, v, ⟨a, dx, vs, e1, hm, h, hl, hs⟩ => RepVs.below xs vs hs
  | .loc n, v, ⟨a, h, e1⟩ => decide_eq_true (List.getElem?_eq_some_iff.mp h).1
  | .scr ns, v, h => rfl
theorem RepVs.below : ∀ (xs : List D) (vs : List V), RepVs G m H xs vs → belows m.length xs = true
  | [], _, h => rfl
  | x :: xs, _, ⟨v, t, e1, h1, h2⟩ => Bool.and_eq_true_iff.mpr ⟨RepV.below x v h1, RepVs.below xs t h2⟩
end
theorem DK.below : ∀ (kvs : List (D × D)) (t : List (Key × V)), DK G m H kvs t → belowK m.length kvs = true
  | [], _, h => rfl
  | (_, x) :: t, _, ⟨kk, v, r', e1, hk, hx, ht⟩ => Bool.and_eq_true_iff.mpr ⟨RepV.below x v hx, DK.below t r' ht⟩
theorem DT.below : ∀ (kvs : List (D × D)) (t : List (List Key × V)), DT G m H kvs t → belowK m.length kvs = true
  | [], _, h => rfl
  | (_, x) :: t, _, ⟨kk, v, r', ds, e1, hk, hd, hx, ht⟩ => Bool.and_eq_true_iff.mpr ⟨RepV.below x v hx, DT.below t r' ht⟩
theorem RepO.below : ∀ {o : LO} {a : Addr}, RepO G m H o a → belowO m.length o = true
  | .lst _, _, ⟨vs, h, hs⟩ => RepVs.below _ _ hs
  | .dic _, _, .inl ⟨t, h, hs⟩ => DK.below _ _ hs
  | .dic _, _, .inr ⟨t, h, hs⟩ => DT.below _ _ hs
  | .ins _ _ _, _, ⟨dx, vs, h, hl, hs⟩ => RepVs.below _ _ hs
theorem RepOs.below : ∀ {lh : LH} {t : List Addr}, RepOs G m H lh t → ∀ o ∈ lh, belowO m.length o = true
  | [], _, h, o, ho => by cases ho
  | u :: r, _, ⟨a, t, e, h1, h2⟩, o, ho => by
    rcases List.mem_cons.mp ho with rfl | ho
    · exact h1.below
    · exact h2.below o ho
/-- what was there is as it was, or tells of nothing new -/
def gcOk (h0 h : LH) : Prop := ∀ i o, i < h0.length → h[i]? = some o → h0[i]? = some o ∨ belowO h0.length o = true
noncomputable instance (h0 h : LH) : Decidable (gcOk h0 h) := Classical.propDecidable _
noncomputable def gcR (h0 : LH) : Res D → Res D
  | some (.ok d, h) => if gcOk h0 h then (frz h h0.length 64 d).elim none fun d' => some (.ok d', h.take h0.length) else none
  | some (.ex c x, h) => if gcOk h0 h then (frz h h0.length 64 x).elim none fun d' => some (.ex c d', h.take h0.length) else none
  | none => none
theorem RepOs.cut : ∀ {lh : LH} {t u : List Addr}, (∀ i o, i < t.length → lh[i]? = some o → belowO m.length o = true) → RepOs G (m ++ l) H lh (t ++ u) → RepOs G m H (lh.take t.length) t
  | _, [], u, _, h => by simp [RepOs]
  | [], a :: t, u, _, h => by cases h
  | o :: lh, a :: t, u, b, ⟨a', t', e, ho, hr⟩ => by
    cases e
    exact ⟨a, t, rfl, ho.cut (b 0 o (Nat.zero_lt_succ _) rfl), RepOs.cut (fun i o' hi h => b (i + 1) o' (Nat.succ_lt_succ hi) (by simpa using h)) hr⟩
theorem gc_cut {H' : Hp} {m' : List Addr} {lh' : LH} (rh : RepH G m H lh) (rh' : RepH G m' H' lh') (e : Ext m H m' H') (ok : gcOk lh lh') :
    RepH G m H' (lh'.take lh.length) ∧ ∀ f d d' v, frz lh' lh.length f d = some d' → RepV G m' H' d v → RepV G m H' d' v := by
  obtain ⟨l, rfl, _⟩ := e.more
  have hlen := rh.len
  refine ⟨⟨rh.nd, fun a ha => ?_, ?_⟩, fun f d d' v h r => ?_⟩
  · obtain ⟨h1, h2⟩ := rh'.zs a ha
    exact ⟨fun z => h1 (List.mem_append_left _ z), h2⟩
  · rw [hlen]
    refine RepOs.cut (l := l) (fun i o hi h => ?_) rh'.os
    rcases ok i o (by rw [hlen]; exact hi) h with q | q
    · exact rh.os.below o (List.mem_of_getElem? q)
    · rw [← hlen]; exact q
  · rw [hlen] at h
    exact frz_rep rh'.nd (fun a ha => (rh'.zs a ha).1) rh'.os f d d' v h r
theorem gc_post {W : WX} {σ : St} {Q : VK} {r : Res D} (rh : RepH G m H lh) (p : Post G W σ (RepV G) m H Q (gcR lh r)) : Post G W σ (RepV G) m H Q r := by
  match r, p with
  | some (.ok d, lh'), p =>
    unfold gcR at p
    dsimp only at p
    split at p
    · rename_i ok
      cases q : frz lh' lh.length 64 d with
      | none => rw [q] at p; exact p.elim
      | some d' =>
        rw [q] at p
        intro m' H' v rh' e rv
        obtain ⟨r1, r2⟩ := gc_cut rh rh' e ok
        exact p m H' v r1 e.less (r2 64 d d' v q rv)
    · exact p.elim
  | some (.ex c d, lh'), p =>
    unfold gcR at p
    dsimp only at p
    split at p
    · rename_i ok
      cases q : frz lh' lh.length 64 d with
      | none => rw [q] at p; exact p.elim
      | some d' =>
        rw [q] at p
        intro m' H' cls dd rh' e ⟨ec, a, v, ed, ha, rv⟩
        obtain ⟨r1, r2⟩ := gc_cut rh rh' e ok
        exact p m H' cls dd r1 e.less ⟨ec, a, v, ed, ha, r2 64 d d' v q rv⟩
    · exact p.elim
end
/-! ### a def -/
noncomputable def finD (gc : Bool) (q : Nat) (b : SV) : FV := fun ds h => if gc = true then gcR h (bodyD q b ds h) else bodyD q b ds h
section
variable {P : Program} {w : World} {K : PySem.W.Frag} {mg : Str → Option Value} {base : Heap} {G : Gx}
theorem fn_body {x qual : Str} {st : Stmt} {f : Addr} {fd : FuncData} {N ps : List Str} {k q : Nat} {b : SV} (gc : Bool) (F : Fun K x qual st f fd) (S : FnScope N ps (defScope st)) (hN : N.length = ps.length + q)
    (hb : ∀ (Z : List Addr) (cdv : Value) (A : Around) (outer : List PySem.Env) (s : Shared) (H : Hp) (E : XK), Room k (A.deeper (envOfC qual (defScope st) s.heap.objs.size f cdv)) →
      DSs (G.z Z) (WF E) (cxOf (L2.CX P w) P w K mg base N qual (defScope st) f cdv A outer s H E) (defBody st) b) : FnOk P w K mg base (L2.CX P w) (k + 1) f fd ps (spF G ps.length (finD gc q b)) := by
  refine F.okX S (fun vs H Q E h => ?_) (fun cdv A outer s H vs Q E hr h => ?_)
  · obtain ⟨Z, m, lh, ds, rh, rv, hl, p⟩ := h
    rw [← rv.len]; exact hl
  · obtain ⟨Z, m, lh, ds, rh, rv, hl, p⟩ := h
    have p : Post (G.z Z) (WF E) [] (RepV (G.z Z)) m H Q (bodyD q b ds lh) := by
      unfold finD at p
      split at p
      · exact gc_post rh p
      · exact p
    refine ⟨_, hb Z cdv A outer s H E hr, m, ds.map some ++ List.replicate q none, lh, rh, ?_, ?_⟩
    · have e : L2.start N vs = vs.map some ++ List.replicate q none := by
        unfold L2.start
        rw [hN, ← rv.len, hl, Nat.add_sub_cancel_left]
      rw [e]
      exact repS_args rv (repS_none q)
    · unfold bodyD at p
      generalize b (ds.map some ++ List.replicate q none) lh = r at p
      match r, p with
      | some (.ok (.nx, _), h'), p => exact fun m' H' σ' rh' e rs hl => p m' H' .non rh' e rfl
      | some (.ok (.rt d, _), h'), p => exact fun m' H' v rh' e rv => p m' H' v rh' e rv
      | some (.ex c x, h'), p => exact fun m' H' cls dd σ' rh' e q hl => p m' H' cls dd rh' e q
end
/-! ### a call -/
def eCall (f : FV) (dd : List D) (g : AV) : EV := fun σ h => bnd (g σ h) fun xs h1 => f (xs ++ dd) h1
section
variable {G : Gx} {W : WX} {X : Cx} {Z : List Addr} {k n : Nat} {f : Addr} {fd : FuncData} {ps : List Str} {fv : FV} {dvs : List V} {dd : List D} {ds : List Value} {x : Str} {p pos : Pos} {e : Expr} {es : List Expr} {g : AV}
theorem de_call (F : FnOk X.prog X.w X.K X.mg X.base (L2.CX X.prog X.w) k f fd ps (spF G n fv)) (hr : Room k X.A) (hg : Gl X x) (hm : X.mg x = some (.ref f)) (hk : PySem.W.keepIn X.K (.ref f) = true) (hb : Binds X.K fd ps ds) (hd : Vals dvs ds) (hdd : ∀ G m H, RepVs G m H dd dvs)
    (hn : n = (e :: es).length + dd.length) (hl : ∀ σ h xs h', g σ h = some (.ok xs, h') → xs.length = (e :: es).length) (tk : Takes X W)
    (ha : DA (G.z Z) W X (e :: es) g) (hdb : (x == ("__debug__" : Str)) = false := by decide) (he : starEach (e :: es) X.env = (false, eval e X.env) :: starEach es X.env := by rfl) (hpl : (backTo pos (starEach es X.env)).any (·.1) = false := by rfl) :
    DE (G.z Z) W X (.Call (.Name x p) (e :: es) [] pos) (eCall fv dd g) := PE.imp (pe_callSD F hr hg hm hk hb hd (fun σ => passAt tk σ) ha hdb he hpl) fun σ H Q ⟨m, σd, lh, rh, rs, pp⟩ => by
  refine ⟨m, σd, lh, rh, rs, ?_⟩
  unfold eCall at pp
  cases q : g σd lh with
  | none => rw [q] at pp; exact pp.elim
  | some r =>
    obtain ⟨r, lh1⟩ := r
    cases r with
    | ex c y => rw [q] at pp; exact pp
    | ok xs =>
      rw [q] at pp
      intro m' H' vs rh' e' rv
      have pp : Post (G.z Z) W σ (RepV (G.z Z)) m H Q (fv (xs ++ dd) lh1) := pp
      exact ⟨Z, m', lh1, xs ++ dd, rh', rv.append (hdd _ _ _), by rw [hn, List.length_append, hl _ _ _ _ q], (pp.later rh' e').anyσ fun c d H h => h⟩
end
end DL

set_option maxRecDepth 100000
set_option maxHeartbeats 400000
set_option linter.all false
/-! DenG: built-in functions, methods of lists. -/
namespace HT
open PySem PySem.Spec PyProof.Rows
section
variable {prog : Program} {w : World} {A : Around} {E : Value → Shared → Prop} {s : Shared}
theorem adjust_rev (n : Nat) : Builtin.Slice.sliceAdjust none none (-1) (n : Int) = ((n : Int) - 1, -1) := by
  simp [Builtin.Slice.sliceAdjust]
  try omega
theorem places_rev (n : Nat) : Builtin.Slice.slicePlaces ((n : Int) - 1) (-1) (-1) = n := by
  simp [Builtin.Slice.slicePlaces]
  try omega
theorem sliceApplied_rev {sl : Addr} {vk : Value} {n : Nat} {Q : Int × Int × Nat → Shared → Prop} (hs : s.heap.IsSliceOf sl .none .none vk) (pk : IsPart vk (some (-1)))
    (h : Q ((n : Int) - 1, -1, n) s) : wpAny (model prog w) A (Builtin.Slice.sliceApplied (.ref sl) (pure (n : Int))) Q E s := by
  obtain ⟨os, hos, hcs, hds⟩ := id hs
  unfold Builtin.Slice.sliceApplied Builtin.Slice.sliceFields
  refine wpAny_bind (wpAny_bind (wpAny_field hos hds (x := .none) rfl (wpAny_bind (wpAny_field hos hds (x := .none) rfl (wpAny_bind (wpAny_field hos hds (x := vk) rfl (wpAny_pure ?_)))))))
  refine wpAny_bind (slicePart_ pk ?_)
  show wpAny _ _ (if ((-1 : Int) == 0) = true then _ else _) _ _ s
  rw [if_neg (by decide)]
  refine wpAny_bind (slicePart_ .none (wpAny_bind (slicePart_ .none (wpAny_bind (wpAny_pure ?_)))))
  show wpAny _ _ (match Builtin.Slice.sliceAdjust none none (-1) (n : Int) with | (lo, hi) => pure (lo, (-1 : Int), Builtin.Slice.slicePlaces lo hi (-1))) _ _ s
  rw [adjust_rev n]
  show wpAny _ _ (pure (((n : Int) - 1), (-1 : Int), Builtin.Slice.slicePlaces ((n : Int) - 1) (-1) (-1))) _ _ s
  rw [places_rev]
  exact wpAny_pure h
theorem pick_rev (xs : Array Value) : ((List.range xs.size).filterMap fun (m : Nat) => xs[(((xs.size : Int) - 1) + (m : Int) * (-1)).toNat]?).toArray = xs.toList.reverse.toArray := by
  have e : (fun (m : Nat) => xs[(((xs.size : Int) - 1) + (m : Int) * (-1)).toNat]?) = (xs[·]?) ∘ fun k => xs.size - 1 - k := by
    funext m
    have h1 : (((xs.size : Int) - 1) + (m : Int) * (-1)).toNat = xs.size - 1 - m := by omega
    show xs[(((xs.size : Int) - 1) + (m : Int) * (-1)).toNat]? = xs[xs.size - 1 - m]?
    rw [h1]
  rw [e, ← List.filterMap_map, PySem.W.krv_range, List.filterMap_reverse, PySem.W.krv_all]
theorem getItem_tuple_rev {t sl : Addr} {items : Array Value} {vk : Value} {Q : Value → Shared → Prop} (ht : IsTup s.heap t items) (hs : s.heap.IsSliceOf sl .none .none vk) (pk : IsPart vk (some (-1)))
    (h : Q (.ref s.heap.objs.size) { s with heap := s.heap.push { cls := .type "tuple", data := .seq items.toList.reverse.toArray } })
    (hsz : items.size ≤ sizeLine) : wpAny (model prog w) A (getItem (.ref t) (.ref sl)) Q E s := by
  have htake : sizeOk (.seq items.toList.reverse.toArray) := by
    show items.toList.reverse.toArray.size ≤ sizeLine
    rw [List.size_toArray, List.length_reverse, Array.length_toList]
    omega
  obtain ⟨os, hos, hcs, hds⟩ := id hs
  have hTs : s.TypeIs (.ref sl) "slice" := ⟨os, hos, hcs⟩
  unfold getItem
  try with_reducible refine wpAny_holding ?_
  first | refine wpAny_bind (wpAny_pure ?_) | skip
  refine wpAny_bind (wpAny_sequenceKey ht.typeIs (by decide) ?_)
  refine wpAny_bind (wpAny_callSpecial?_slot (name := Str.ofString "__getitem__") ht.typeIs PyProof.Rows.slot_tuple_getitem
    (wpAny_call_entry PyProof.Rows.slot_tuple_getitem ht.typeIs entry_tuple_getitem ?_ (args_tuple_getitem _ _)))
  show wpAny _ _ (Builtin.Tuple.tupleItemsOf (.ref t) >>= _) _ _ s
  refine wpAny_bind (tupleItemsOf_ ht ?_)
  refine wpAny_bind (wpAny_typeOf hTs ?_)
  rw [if_pos (by decide)]
  refine wpAny_bind (sliceApplied_rev hs pk ?_)
  have hno : ¬ ((((items.size : Int) - 1) == 0 && (-1 : Int) == 1 && items.size == items.size) = true) := by
    intro q
    rw [Bool.and_eq_true, Bool.and_eq_true] at q
    exact absurd q.1.2 (by decide)
  show wpAny _ _ (if (((items.size : Int) - 1) == 0 && (-1 : Int) == 1 && items.size == items.size) = true then _ else _) _ _ s
  rw [if_neg hno, pick_rev]
  first
    | exact wpAny_bind (m := Builtin.Tuple.tupleExact _) (wpAny_newObj_type (wpAny_pure ⟨_, rfl, wpAny_pure h⟩) htake)
    | exact wpAny_bind (m := Builtin.Tuple.tupleExact _) (wpAny_newObj_type (wpAny_bind (wpAny_pure (wpAny_pure ⟨_, rfl, wpAny_pure h⟩))) htake)
    | exact wpAny_bind (wpAny_bind (m := Builtin.Tuple.tupleExact _) (wpAny_newObj_type (wpAny_pure (wpAny_pure ⟨_, rfl, wpAny_pure h⟩)) htake))
    | exact wpAny_bind (wpAny_bind (m := Builtin.Tuple.tupleExact _) (wpAny_newObj_type (wpAny_pure ⟨_, rfl, wpAny_pure h⟩) htake))
end
end HT

namespace L2
open PySem PySem.Spec PyProof.Rows
section
variable {X : Cx}
/-- xs[::-1], a list or a tuple -/
def tRevA (K : PySem.W.Frag) (te : TE) : TE := fun σ H Q => te σ H fun x H1 => ∃ a xs, x = .ref a ∧ ((SqL K H1 a xs ∧ ∀ p, H1 p = none → Q (.ref p) (upd H1 p (.lst xs.reverse))) ∨ (SqT K H1 a xs ∧ ∀ p, H1 p = none → Q (.ref p) (upd H1 p (.tup xs.reverse))))
theorem pe_revA {e : Expr} {te : TE} {k : Nat} {p1 p2 p3 pos : Pos} (he : PE X e te) : PE X (.Subscript e (.Slice none none (some (.UnaryOp .USub (.Constant (.int 1) k p1) p2)) p3) pos) (tRevA X.K te) := by
  refine ⟨fun pins s σ H Q I h => ?_⟩
  refine Subscript_ (thn (he.run pins s σ H _ I h) fun v s1 ⟨x, H1, I1, r1, q1⟩ => ?_)
  obtain ⟨a, xs, ex, hx⟩ := q1
  subst ex
  cases r1
  have hst : PO X (some (.UnaryOp .USub (.Constant (.int 1) k p1) p2)) (tPart (tUn (rU fun i => .int (-i)) (tC (.int 1)))) := po_some (pe_un un_neg pe_int)
  refine wpAny_Slice (thn (po_none.run pins s1 σ H1 (fun o H2 => o = none ∧ H2 = H1) I1 ⟨rfl, rfl⟩) fun vl s2 ⟨l, H2, I2, pl, el, e2⟩ => ?_)
  subst el e2
  refine thn (po_none.run pins s2 σ H2 (fun o H3 => o = none ∧ H3 = H2) I2 ⟨rfl, rfl⟩) fun vu s3 ⟨u, H3, I3, pu, eu, e3⟩ => ?_
  subst eu e3
  refine thn (hst.run pins s3 σ H3 (fun o H4 => o = some (-1) ∧ H4 = H3) I3 ⟨1, rfl, -1, rfl, rfl, rfl⟩) fun vs s4 ⟨o, H4, I4, ps, eo, e4⟩ => ?_
  subst eo e4
  have I5 : Inv X pins σ H4 { s4 with heap := s4.heap.push { cls := .type "slice", data := .fields #[vl, vu, vs] } } := I4.kept (t' := s4.toks) fun b ob q => Heap.get?_push_of_some _ q
  show wpAny (model X.prog X.w) X.A (subscriptTail e (.Slice none none (some (.UnaryOp .USub (.Constant (.int 1) k p1) p2)) p3) (.ref a) (.ref s4.heap.objs.size)) (EP X pins σ Q) X.xe { s4 with heap := s4.heap.push { cls := .type "slice", data := .fields #[vl, vu, vs] } }
  rcases hx with ⟨hx, q⟩ | ⟨hx, q⟩
  · obtain ⟨its, r, ht, hz⟩ := I5.list hx
    have hlen := r.length
    refine tail_any (ops := [.ref a, .ref s4.heap.objs.size]) ht.isList.typeIs (PySem.slot_list_getitem.lookup) ?_ (by with_unfolding_all rfl)
    refine wpAny_getItem_list_slice ht.isList (Heap.IsSliceOf.new _ vl vu vs) pl pu ps (by decide) ?_ (by rw [List.size_toArray]; omega)
    rw [PySem.W.krv_pick]
    refine ⟨.ref _, _, I5.laid (t' := s4.toks) (o := .lst xs.reverse) (fun b ob q => Heap.get?_push_of_some _ q) (Nat.le_refl _) ?_, rfl, q _ (I5.hok.fresh (Nat.le_refl _))⟩
    exact ⟨by rw [List.length_reverse]; exact hz, _, 0, r.reverse, Heap.get?_push_size _ rfl⟩
  · obtain ⟨its, r, ht, hz⟩ := I5.tuple hx
    have hlen := r.length
    refine tail_any (ops := [.ref a, .ref s4.heap.objs.size]) ht.typeIs (PyProof.Rows.slot_tuple_getitem.lookup) ?_ (by with_unfolding_all rfl)
    cases pl
    cases pu
    refine HT.getItem_tuple_rev ht (Heap.IsSliceOf.new _ .none .none vs) ps ?_ (by rw [List.size_toArray]; omega)
    refine ⟨.ref _, _, I5.laid (t' := s4.toks) (o := .tup xs.reverse) (fun b ob q => Heap.get?_push_of_some _ q) (Nat.le_refl _) ?_, rfl, q _ (I5.hok.fresh (Nat.le_refl _))⟩
    exact ⟨by rw [List.length_reverse]; exact hz, _, r.reverse, IsTup.new _ _⟩
/-- a op1 b op2 c op3 d -/
def tChain3 (r r' r'' : R2) (ta tb tc td : TE) : TE := fun σ H Q => ta σ H fun x H1 => tb σ H1 fun y H2 => r x y H2 fun z H3 => ∃ k, z = .bl k ∧
  (if k = true then tc σ H3 fun w' H4 => r' y w' H4 fun z2 H5 => ∃ k2, z2 = .bl k2 ∧ (if k2 = true then td σ H5 fun u' H6 => r'' w' u' H6 Q else Q (.bl false) H5) else Q (.bl false) H3)
theorem pe_chain3 {op op' op'' : CmpOp} {r r' r'' : R2} {a b c d : Expr} {ta tb tc td : TE} {pos : Pos} (ho : OpR X (compareOp op) r) (ho' : OpR X (compareOp op') r') (ho'' : OpR X (compareOp op'') r'') (ha : PE X a ta) (hb : PE X b tb) (hc : PE X c tc) (hd : PE X d td)
    (hm : lastMarks [op, op', op''] [b, c, d] = false := by with_unfolding_all rfl) : PE X (.Compare a [op, op', op''] [b, c, d] pos) (tChain3 r r' r'' ta tb tc td) := by
  refine ⟨fun pins s σ H Q I h => ?_⟩
  refine Compare_chain (thn (ha.run pins s σ H _ I h) fun v s1 ⟨x, H1, I1, r1, q1⟩ => chain_link (thn (hb.run pins s1 σ H1 _ I1 q1) fun u s2 ⟨y, H2, I2, r2, q2⟩ =>
    thn (ho pins s2 σ H2 x y v u _ I2 r1 r2 q2) fun d s3 ⟨z, H3, I3, r3, k, e, q3⟩ => ?_)) hm
  subst e
  cases r3
  refine wpAny_truthy_bool ?_
  cases k with
  | false => exact ite_ff ⟨.bl false, H3, I3, rfl, q3⟩
  | true =>
    refine ite_tt (chain_link (thn (hc.run pins s3 σ H3 _ I3 q3) fun w' s4 ⟨z', H4, I4, r4, q4⟩ => thn (ho' pins s4 σ H4 y z' u w' _ I4 r2 r4 q4) fun d' s5 ⟨z2, H5, I5, r5, k2, e2, q5⟩ => ?_))
    subst e2
    cases r5
    refine wpAny_truthy_bool ?_
    cases k2 with
    | false => exact ite_ff ⟨.bl false, H5, I5, rfl, q5⟩
    | true => exact ite_tt (chain_last (thn (hd.run pins s5 σ H5 _ I5 q5) fun x' s6 ⟨z3, H6, I6, r6, q6⟩ => ho'' pins s6 σ H6 z' z3 w' x' Q I6 r4 r6 q6))
end
end L2

namespace DL
open PySem PySem.Spec L2
section
variable {G : Gx} {W : WX} {X : Cx} {σ : St} {m m' : List Addr} {H H' : Hp} {lh lh' : LH} {σd : Env} {n : Nat}
variable {a b c d e : Expr} {es : List Expr} {fa fb fc fd f : EV} {g : AV} {pos p : Pos} {x : Str}
/-! ### xs[::-1], chains of three, a, b, c = x, y, z -/
def oRevA (mu : Bool) : D → LH → Res D := fun x h => match x with
  | .tup xs => some (.ok (.tup xs.reverse), h)
  | x => (seqL h x).elim none fun xs => newL mu xs.reverse h
theorem de_rev (mu : Bool) {k : Nat} {p1 p2 p3 : Pos} (hG : X.K = G.K) (ha : DE G W X a fa) : DE G W X (.Subscript a (.Slice none none (some (.UnaryOp .USub (.Constant (.int 1) k p1) p2)) p3) pos) (e1 (oRevA mu) fa) :=
  PE.imp (pe_revA ha) fun σ H Q ⟨m, σd, lh, rh, rs, p⟩ => by
  refine (bindG rh rs p).mono fun x H1 ⟨m1, lh1, d1, rh1, rs1, e1, r1, p1⟩ => ?_
  unfold oRevA at p1
  split at p1
  · obtain ⟨a, vs, ea, q, hs⟩ := r1
    exact ⟨a, vs, ea, .inr ⟨by rw [hG]; exact q, fun t ht => newT_post rh1 hs.reverse ht p1⟩⟩
  · cases e : seqL lh1 d1 with
    | none => rw [e] at p1; exact p1.elim
    | some xs =>
      rw [e] at p1
      obtain ⟨a, vs, ea, q, hs⟩ := seqL_rep rh1 r1 e
      exact ⟨a, vs, ea, .inl ⟨by rw [hG]; exact q, fun t ht => newL_post rh1 hs.reverse ht p1⟩⟩
def eChain3 (op op' op'' : D → D → LH → Res D) (a b c d : EV) : EV := fun σ h => bnd (a σ h) fun x h1 => bnd (b σ h1) fun y h2 => bnd (op x y h2) fun z h3 => match z with
  | .bl true => bnd (c σ h3) fun w h4 => bnd (op' y w h4) fun z h5 => (match z with
    | .bl true => bnd (d σ h5) fun u h6 => op'' w u h6
    | .bl false => some (.ok (.bl false), h5)
    | _ => none)
  | .bl false => some (.ok (.bl false), h3)
  | _ => none
theorem de_chain3 {o o' o'' : CmpOp} {r r' r'' : R2} {op op' op'' : D → D → LH → Res D} (ho : OpR X (compareOp o) r) (ho' : OpR X (compareOp o') r') (ho'' : OpR X (compareOp o'') r'') (h2 : Op2 G r op) (h2' : Op2 G r' op') (h2'' : Op2 G r'' op'')
    (ha : DE G W X a fa) (hb : DE G W X b fb) (hc : DE G W X c fc) (hd : DE G W X d fd) (hm : lastMarks [o, o', o''] [b, c, d] = false := by with_unfolding_all rfl) :
    DE G W X (.Compare a [o, o', o''] [b, c, d] pos) (eChain3 op op' op'' fa fb fc fd) := PE.imp (pe_chain3 ho ho' ho'' ha hb hc hd hm) fun σ H Q ⟨m, σd, lh, rh, rs, p⟩ => by
  refine (bindG rh rs p).mono fun x H1 ⟨m1, lh1, d1, rh1, rs1, e1, r1, p1⟩ => ?_
  refine (bindG rh1 rs1 p1).mono fun y H2 ⟨m2, lh2, d2, rh2, rs2, e2, r2, p2⟩ => ?_
  refine h2 W σ m2 H2 lh2 d1 d2 x y _ rh2 (RepV.keep rh1 e2 _ _ r1) r2 ?_
  generalize op d1 d2 lh2 = rr at p2
  match rr, p2 with
  | some (.ok (.bl true), lh3), p2 =>
    intro m3 H3 z rh3 e3 rz
    refine ⟨true, rz, ?_⟩
    rw [if_pos rfl]
    have p3 := p2.later rh3 e3
    refine (bindG rh3 (rs2.keep rh2 e3) p3).mono fun w H4 ⟨m4, lh4, d4, rh4, rs4, e4, r4, p4⟩ => ?_
    refine h2' W σ m4 H4 lh4 d2 d4 y w _ rh4 (RepV.keep rh3 e4 _ _ (RepV.keep rh2 e3 _ _ r2)) r4 ?_
    generalize op' d2 d4 lh4 = rr at p4
    match rr, p4 with
    | some (.ok (.bl true), lh5), p4 =>
      intro m5 H5 z rh5 e5 rz
      refine ⟨true, rz, ?_⟩
      rw [if_pos rfl]
      have p5 := p4.later rh5 e5
      refine (bindG rh5 (rs4.keep rh4 e5) p5).mono fun u H6 ⟨m6, lh6, d6, rh6, rs6, e6, r6, p6⟩ => ?_
      exact h2'' W σ m6 H6 lh6 d4 d6 w u _ rh6 (RepV.keep rh5 e6 _ _ (RepV.keep rh4 e5 _ _ r4)) r6 p6
    | some (.ok (.bl false), lh5), p4 =>
      intro m5 H5 z rh5 e5 rz
      refine ⟨false, rz, ?_⟩
      rw [if_neg Bool.false_ne_true]
      exact p4 m5 H5 _ rh5 e5 rfl
    | some (.ex c x, lh5), p4 => exact p4
  | some (.ok (.bl false), lh3), p2 =>
    intro m3 H3 z rh3 e3 rz
    refine ⟨false, rz, ?_⟩
    rw [if_neg Bool.false_ne_true]
    exact p2 m3 H3 _ rh3 e3 rfl
  | some (.ex c x, lh3), p2 => exact p2
def sPar3 (i j l : Nat) (g : AV) : SV := fun σ h => bnd (g σ h) fun xs h1 => match xs with
  | [x, y, z] => some (.ok (.nx, ((σ.set i (some x)).set j (some y)).set l (some z)), h1)
  | _ => none
theorem ds_par3 {i j l : Nat} {x y z : Str} {u v w : Expr} {g : AV} {px py pz pt : Pos} {kt k2 pt2} (hc : X.calm = true) (hN : X.N.Nodup) (hi : X.N[i]? = some x) (hj : X.N[j]? = some y) (hl : X.N[l]? = some z) (hij : i ≠ j) (hil : i ≠ l) (hjl : j ≠ l)
    (hx : X.env.scope.names.lookup x = some .local) (hy : X.env.scope.names.lookup y = some .local) (hz : X.env.scope.names.lookup z = some .local) (ha : DA G W X [u, v, w] g)
    (hw : swappedStores [.Tuple [.Name x px, .Name y py, .Name z pz] kt pt] (.Tuple [u, v, w] k2 pt2) X.env = pure (some [x, y, z]))
    (hs : swapsWithSole [.Tuple [.Name x px, .Name y py, .Name z pz] kt pt] (.Tuple [u, v, w] k2 pt2) pos.line X.env = pure false := by rfl) :
    DS G W X (.Assign [.Tuple [.Name x px, .Name y py, .Name z pz] kt pt] (.Tuple [u, v, w] k2 pt2) pos) (sPar3 i j l g) := PS.impL (ps_par3 hc hN hi hj hl hij hil hjl hx hy hz ha hw hs) fun De σ H hln ⟨m, σd, lh, rh, rs, p⟩ => by
  refine (bindS hln rh rs p).mono fun vs H1 ⟨m1, lh1, ds, rh1, rs1, e1, r1, p1⟩ => ?_
  rcases ds with _ | ⟨d1, _ | ⟨d2, _ | ⟨d3, _ | ⟨d4, t⟩⟩⟩⟩
  · exact p1.elim
  · exact p1.elim
  · exact p1.elim
  · obtain ⟨v1, t1, ev1, q1, v2, t2, ev2, q2, v3, t3, ev3, q3, q4⟩ := r1
    have q4 : t3 = [] := q4
    subst q4
    subst ev3
    subst ev2
    subst ev1
    exact ⟨v1, v2, v3, rfl, p1 m1 H1 _ rh1 .refl (((rs1.set q1 i).set q2 j).set q3 l) (by rw [List.length_set, List.length_set, List.length_set]; exact hln)⟩
  · exact p1.elim

/-! ### built-in functions -/
def eBi (op : List D → LH → Res D) (g : AV) : EV := fun σ h => bnd (g σ h) op
def Bi (G : Gx) (r : List V → Hp → VK → Prop) (op : List D → LH → Res D) : Prop := ∀ (W : WX) (σ : St) (m : List Addr) (H : Hp) (lh : LH) (ds : List D) (vs : List V) (Q : VK), RepH G m H lh → RepVs G m H ds vs → Post G W σ (RepV G) m H Q (op ds lh) → r vs H Q
theorem t_bi {r : List V → Hp → VK → Prop} {op : List D → LH → Res D} (ok : Bi G r op) {Q : VK} (h : tE G W (eBi op g) σ H Q) : tCB r (tA G W g) σ H Q := by
  obtain ⟨m, σd, lh, rh, rs, p⟩ := h
  refine (bindG rh rs p).mono fun vs H1 ⟨m1, lh1, d1, rh1, rs1, e1, r1, p1⟩ => ?_
  exact ok W σ m1 H1 lh1 d1 vs Q rh1 r1 p1
theorem de_callB {r : List V → Hp → VK → Prop} {id : String} {op : List D → LH → Res D} (hc : CallR X (.builtin id) r) (ok : Bi G r op) (hg : Gl X x) (hm : X.mg x = none) (hv : bootBuiltins x = some (.builtin id)) (ha : DA G W X (e :: es) g) (hn : x ≠ "__name__" := by decide) (hdb : (x == ("__debug__" : Str)) = false := by decide)
    (he : starEach (e :: es) X.env = (false, eval e X.env) :: starEach es X.env := by rfl) (hpl : (backTo pos (starEach es X.env)).any (·.1) = false := by rfl) : DE G W X (.Call (.Name x p) (e :: es) [] pos) (eBi op g) :=
  PE.imp (pe_callB hc hg hm hv ha hn hdb he hpl) fun σ H Q h => t_bi ok h
theorem de_callTy {r : List V → Hp → VK → Prop} {T : String} {op : List D → LH → Res D} (hc : CallR X (.type T) r) (ok : Bi G r op) (hg : Gl X x) (hm : X.mg x = none) (hv : bootBuiltins x = some (.type T)) (ha : DA G W X (e :: es) g) (hn : x ≠ "__name__" := by decide) (hdb : (x == ("__debug__" : Str)) = false := by decide)
    (he : starEach (e :: es) X.env = (false, eval e X.env) :: starEach es X.env := by rfl) (hpl : (backTo pos (starEach es X.env)).any (·.1) = false := by rfl) : DE G W X (.Call (.Name x p) (e :: es) [] pos) (eBi op g) :=
  PE.imp (pe_callTy hc hg hm hv ha hn hdb he hpl) fun σ H Q h => t_bi ok h
theorem bi1 {d : D} {vs : List V} (r : RepVs G m H [d] vs) : ∃ v, vs = [v] ∧ RepV G m H d v := repVs1 r
def bLen : List D → LH → Res D
  | [x], h => (seqA h x).elim none fun xs => some (.ok (.int xs.length), h)
  | _, _ => none
theorem bi_len : Bi G (fun xs H Q => ∃ p ys, xs = [.ref p] ∧ (SqL G.K H p ys ∨ SqT G.K H p ys) ∧ Q (.int ys.length) H) bLen := by
  intro W σ m H lh ds vs Q rh rv p
  unfold bLen at p
  split at p
  · rename_i x
    obtain ⟨v, rfl, r⟩ := bi1 rv
    cases e : seqA lh x with
    | none => rw [e] at p; exact p.elim
    | some xs =>
      rw [e] at p
      obtain ⟨a, vs, ea, q, hs⟩ := seqA_rep rh r e
      exact ⟨a, vs, by rw [ea], q, p m H _ rh .refl (show V.int _ = V.int _ by rw [hs.len])⟩
  · exact p.elim
def bInt : List D → LH → Res D
  | [.int i], h => some (.ok (.int i), h)
  | [.bl b], h => some (.ok (.int (if b then 1 else 0)), h)
  | _, _ => none
theorem bi_int : Bi G (fun xs H Q => (∃ i, xs = [.int i] ∧ Q (.int i) H) ∨ ∃ k, xs = [.bl k] ∧ Q (.int (if k then 1 else 0)) H) bInt := by
  intro W σ m H lh ds vs Q rh rv p
  unfold bInt at p
  split at p
  · obtain ⟨v, rfl, r⟩ := bi1 rv
    have r : v = V.int _ := r
    exact .inl ⟨_, by rw [r], p m H _ rh .refl rfl⟩
  · obtain ⟨v, rfl, r⟩ := bi1 rv
    have r : v = V.bl _ := r
    exact .inr ⟨_, by rw [r], p m H _ rh .refl rfl⟩
  · exact p.elim
def bAbs : List D → LH → Res D
  | [.int i], h => some (.ok (.int (if i < 0 then -i else i)), h)
  | _, _ => none
theorem bi_abs : Bi G (fun xs H Q => ∃ i, xs = [.int i] ∧ Q (.int (if i < 0 then -i else i)) H) bAbs := by
  intro W σ m H lh ds vs Q rh rv p
  unfold bAbs at p
  split at p
  · obtain ⟨v, rfl, r⟩ := bi1 rv
    have r : v = V.int _ := r
    exact ⟨_, by rw [r], p m H _ rh .refl rfl⟩
  · exact p.elim
def bTup : List D → LH → Res D
  | [.tup xs], h => some (.ok (.tup xs), h)
  | [x], h => (seqL h x).elim none fun xs => some (.ok (.tup xs), h)
  | _, _ => none
theorem bi_tup : Bi G (fun xs H Q => ∃ p ys, xs = [.ref p] ∧ ((SqL G.K H p ys ∧ ∀ l, H l = none → Q (.ref l) (upd H l (.tup ys))) ∨ (SqT G.K H p ys ∧ Q (.ref p) H))) bTup := by
  intro W σ m H lh ds vs Q rh rv p
  unfold bTup at p
  split at p
  · obtain ⟨v, rfl, r⟩ := bi1 rv
    obtain ⟨a, vs, ea, q, hs⟩ := r
    exact ⟨a, vs, by rw [ea], .inr ⟨q, p m H _ rh .refl ⟨a, vs, rfl, q, hs⟩⟩⟩
  · rename_i x _
    obtain ⟨v, rfl, r⟩ := bi1 rv
    cases e : seqL lh x with
    | none => rw [e] at p; exact p.elim
    | some xs =>
      rw [e] at p
      obtain ⟨a, vs, ea, q, hs⟩ := seqL_rep rh r e
      exact ⟨a, vs, by rw [ea], .inl ⟨q, fun t ht => newT_post rh hs ht p⟩⟩
  · exact p.elim
def bLst (mu : Bool) : List D → LH → Res D
  | [x], h => (seqA h x).elim none fun xs => newL mu xs h
  | _, _ => none
theorem bi_lst {mu : Bool} : Bi G (fun xs H Q => ∃ p ys, xs = [.ref p] ∧ (SqL G.K H p ys ∨ SqT G.K H p ys) ∧ ∀ l, H l = none → Q (.ref l) (upd H l (.lst ys))) (bLst mu) := by
  intro W σ m H lh ds vs Q rh rv p
  unfold bLst at p
  split at p
  · rename_i x
    obtain ⟨v, rfl, r⟩ := bi1 rv
    cases e : seqA lh x with
    | none => rw [e] at p; exact p.elim
    | some xs =>
      rw [e] at p
      obtain ⟨a, vs, ea, q, hs⟩ := seqA_rep rh r e
      exact ⟨a, vs, by rw [ea], q, fun t ht => newL_post rh hs ht p⟩
  · exact p.elim
def intsD : List D → Option (List Int)
  | [] => some []
  | .int i :: r => (intsD r).map (i :: ·)
  | _ :: _ => none
def blsD : List D → Option (List Bool)
  | [] => some []
  | .bl i :: r => (blsD r).map (i :: ·)
  | _ :: _ => none
theorem intsD_rep : ∀ {xs : List D} {ns : List Int} {vs : List V}, intsD xs = some ns → RepVs G m H xs vs → vs = ns.map V.int
  | [], _, _, h, r => by cases h; exact r
  | .int i :: r, ns, _, h, ⟨v, t, e, hv, ht⟩ => by
    unfold intsD at h
    obtain ⟨ms, e1, rfl⟩ := Option.map_eq_some_iff.mp h
    subst e
    rw [intsD_rep e1 ht]
    have hv : v = V.int i := hv
    rw [hv] <;> rfl
theorem blsD_rep : ∀ {xs : List D} {ns : List Bool} {vs : List V}, blsD xs = some ns → RepVs G m H xs vs → vs = ns.map V.bl
  | [], _, _, h, r => by cases h; exact r
  | .bl i :: r, ns, _, h, ⟨v, t, e, hv, ht⟩ => by
    unfold blsD at h
    obtain ⟨ms, e1, rfl⟩ := Option.map_eq_some_iff.mp h
    subst e
    rw [blsD_rep e1 ht]
    have hv : v = V.bl i := hv
    rw [hv] <;> rfl
theorem intsD_map (ns : List Int) : intsD (ns.map D.int) = some ns := by
  induction ns with
  | nil => rfl
  | cons a r ih => show (intsD (r.map D.int)).map (a :: ·) = _; rw [ih] <;> rfl
theorem blsD_map (ns : List Bool) : blsD (ns.map D.bl) = some ns := by
  induction ns with
  | nil => rfl
  | cons a r ih => show (blsD (r.map D.bl)).map (a :: ·) = _; rw [ih] <;> rfl
def maxL : List Int → Int
  | [] => 0
  | a :: r => r.foldl max a
def minL : List Int → Int
  | [] => 0
  | a :: r => r.foldl min a
theorem foldl_max : ∀ (r : List Int) (a : Int), (a ≤ r.foldl max a ∧ ∀ y ∈ r, y ≤ r.foldl max a) ∧ (r.foldl max a = a ∨ r.foldl max a ∈ r)
  | [], a => ⟨⟨Int.le_refl _, fun y h => by cases h⟩, .inl rfl⟩
  | b :: r, a => by
    obtain ⟨⟨h1, h2⟩, h3⟩ := foldl_max r (max a b)
    refine ⟨⟨?_, fun y hy => ?_⟩, ?_⟩
    · show a ≤ r.foldl max (max a b); omega
    · show y ≤ r.foldl max (max a b)
      rcases List.mem_cons.mp hy with rfl | hy
      · omega
      · exact h2 y hy
    · show r.foldl max (max a b) = a ∨ r.foldl max (max a b) ∈ b :: r
      rcases h3 with h3 | h3
      · rw [h3]
        rcases Int.le_total a b with z | z
        · right; rw [Int.max_eq_right z]; exact List.mem_cons_self
        · left; exact Int.max_eq_left z
      · right; exact List.mem_cons_of_mem _ h3
theorem foldl_min : ∀ (r : List Int) (a : Int), (r.foldl min a ≤ a ∧ ∀ y ∈ r, r.foldl min a ≤ y) ∧ (r.foldl min a = a ∨ r.foldl min a ∈ r)
  | [], a => ⟨⟨Int.le_refl _, fun y h => by cases h⟩, .inl rfl⟩
  | b :: r, a => by
    obtain ⟨⟨h1, h2⟩, h3⟩ := foldl_min r (min a b)
    refine ⟨⟨?_, fun y hy => ?_⟩, ?_⟩
    · show r.foldl min (min a b) ≤ a; omega
    · show r.foldl min (min a b) ≤ y
      rcases List.mem_cons.mp hy with rfl | hy
      · omega
      · exact h2 y hy
    · show r.foldl min (min a b) = a ∨ r.foldl min (min a b) ∈ b :: r
      rcases h3 with h3 | h3
      · rw [h3]
        rcases Int.le_total a b with z | z
        · left; exact Int.min_eq_left z
        · right; rw [Int.min_eq_right z]; exact List.mem_cons_self
      · right; exact List.mem_cons_of_mem _ h3
theorem maxL_mem {ns : List Int} (h : ns ≠ []) : maxL ns ∈ ns ∧ ∀ y ∈ ns, y ≤ maxL ns := by
  cases ns with
  | nil => exact absurd rfl h
  | cons a r =>
    obtain ⟨⟨h1, h2⟩, h3⟩ := foldl_max r a
    refine ⟨?_, fun y hy => ?_⟩
    · show r.foldl max a ∈ a :: r
      rcases h3 with h3 | h3
      · rw [h3]; exact List.mem_cons_self
      · exact List.mem_cons_of_mem _ h3
    · rcases List.mem_cons.mp hy with rfl | hy
      · exact h1
      · exact h2 y hy
theorem minL_mem {ns : List Int} (h : ns ≠ []) : minL ns ∈ ns ∧ ∀ y ∈ ns, minL ns ≤ y := by
  cases ns with
  | nil => exact absurd rfl h
  | cons a r =>
    obtain ⟨⟨h1, h2⟩, h3⟩ := foldl_min r a
    refine ⟨?_, fun y hy => ?_⟩
    · show r.foldl min a ∈ a :: r
      rcases h3 with h3 | h3
      · rw [h3]; exact List.mem_cons_self
      · exact List.mem_cons_of_mem _ h3
    · rcases List.mem_cons.mp hy with rfl | hy
      · exact h1
      · exact h2 y hy
def bSum : List D → LH → Res D
  | [x], h => (seqL h x).elim none fun xs => (intsD xs).elim none fun ns => some (.ok (.int ns.sum), h)
  | _, _ => none
theorem ints_rep {x : D} {v : V} {xs : List D} {ns : List Int} (rh : RepH G m H lh) (r : RepV G m H x v) (e : seqL lh x = some xs) (e2 : intsD xs = some ns) : ∃ a, v = .ref a ∧ SqL G.K H a (ns.map V.int) := by
  obtain ⟨a, vs, ea, q, hs⟩ := seqL_rep rh r e
  rw [intsD_rep e2 hs] at q
  exact ⟨a, ea, q⟩
theorem bi_sum : Bi G (rSum G.K) bSum := by
  intro W σ m H lh ds vs Q rh rv p
  unfold bSum at p
  split at p
  · rename_i x
    obtain ⟨v, rfl, r⟩ := bi1 rv
    cases e : seqL lh x with
    | none => rw [e] at p; exact p.elim
    | some xs =>
      rw [e] at p
      cases e2 : intsD xs with
      | none => simp only [Option.elim, e2] at p; exact p.elim
      | some ns =>
        simp only [Option.elim, e2] at p
        obtain ⟨a, ea, q⟩ := ints_rep rh r e e2
        exact ⟨a, ns, by rw [ea], q, p m H _ rh .refl rfl⟩
  · exact p.elim
def bMax : List D → LH → Res D
  | [.int i, .int j], h => some (.ok (.int (max i j)), h)
  | [x], h => (seqL h x).elim none fun xs => (intsD xs).elim none fun ns => if ns.isEmpty then none else some (.ok (.int (maxL ns)), h)
  | _, _ => none
theorem bi_max : Bi G (fun vs H Q => (∃ i j, vs = [.int i, .int j] ∧ Q (.int (if j > i then j else i)) H) ∨ rMax G.K vs H Q) bMax := by
  intro W σ m H lh ds vs Q rh rv p
  unfold bMax at p
  split at p
  · rename_i i j
    obtain ⟨v, v', rfl, r, r'⟩ := repVs2 rv
    have r : v = V.int _ := r
    have r' : v' = V.int _ := r'
    refine .inl ⟨i, j, by rw [r, r'], ?_⟩
    have e : (if j > i then j else i) = max i j := by split <;> omega
    rw [e]
    exact p m H _ rh .refl rfl
  · rename_i x
    obtain ⟨v, rfl, r⟩ := bi1 rv
    cases e : seqL lh x with
    | none => rw [e] at p; exact p.elim
    | some xs =>
      rw [e] at p
      cases e2 : intsD xs with
      | none => simp only [Option.elim, e2] at p; exact p.elim
      | some ns =>
        simp only [Option.elim, e2] at p
        obtain ⟨a, ea, q⟩ := ints_rep rh r e e2
        split at p
        · exact p.elim
        · rename_i hne
          have hne : ns ≠ [] := fun z => hne (by rw [z]; rfl)
          obtain ⟨h1, h2⟩ := maxL_mem hne
          refine .inr ⟨a, ns, by rw [ea], q, List.length_pos_iff.mpr hne, fun k hk hk2 => ?_⟩
          have : k = maxL ns := Int.le_antisymm (h2 k hk) (hk2 _ h1)
          rw [this]
          exact p m H _ rh .refl rfl
  · exact p.elim
def bMin : List D → LH → Res D
  | [.int i, .int j], h => some (.ok (.int (min i j)), h)
  | [x], h => (seqL h x).elim none fun xs => (intsD xs).elim none fun ns => if ns.isEmpty then none else some (.ok (.int (minL ns)), h)
  | _, _ => none
theorem bi_min : Bi G (fun vs H Q => (∃ i j, vs = [.int i, .int j] ∧ Q (.int (if j < i then j else i)) H) ∨ rMin G.K vs H Q) bMin := by
  intro W σ m H lh ds vs Q rh rv p
  unfold bMin at p
  split at p
  · rename_i i j
    obtain ⟨v, v', rfl, r, r'⟩ := repVs2 rv
    have r : v = V.int _ := r
    have r' : v' = V.int _ := r'
    refine .inl ⟨i, j, by rw [r, r'], ?_⟩
    have e : (if j < i then j else i) = min i j := by split <;> omega
    rw [e]
    exact p m H _ rh .refl rfl
  · rename_i x
    obtain ⟨v, rfl, r⟩ := bi1 rv
    cases e : seqL lh x with
    | none => rw [e] at p; exact p.elim
    | some xs =>
      rw [e] at p
      cases e2 : intsD xs with
      | none => simp only [Option.elim, e2] at p; exact p.elim
      | some ns =>
        simp only [Option.elim, e2] at p
        obtain ⟨a, ea, q⟩ := ints_rep rh r e e2
        split at p
        · exact p.elim
        · rename_i hne
          have hne : ns ≠ [] := fun z => hne (by rw [z]; rfl)
          obtain ⟨h1, h2⟩ := minL_mem hne
          refine .inr ⟨a, ns, by rw [ea], q, List.length_pos_iff.mpr hne, fun k hk hk2 => ?_⟩
          have : k = minL ns := Int.le_antisymm (hk2 _ h1) (h2 k hk)
          rw [this]
          exact p m H _ rh .refl rfl
  · exact p.elim
def bAll : List D → LH → Res D
  | [x], h => (seqL h x).elim none fun xs => (blsD xs).elim none fun ns => some (.ok (.bl (ns.all id)), h)
  | _, _ => none
def bAny : List D → LH → Res D
  | [x], h => (seqL h x).elim none fun xs => (blsD xs).elim none fun ns => some (.ok (.bl (ns.any id)), h)
  | _, _ => none
theorem bi_all : Bi G (rAll G.K) bAll := by
  intro W σ m H lh ds vs Q rh rv p
  unfold bAll at p
  split at p
  · rename_i x
    obtain ⟨v, rfl, r⟩ := bi1 rv
    cases e : seqL lh x with
    | none => rw [e] at p; exact p.elim
    | some xs =>
      rw [e] at p
      cases e2 : blsD xs with
      | none => simp only [Option.elim, e2] at p; exact p.elim
      | some ns =>
        simp only [Option.elim, e2] at p
        obtain ⟨a, vs, ea, q, hs⟩ := seqL_rep rh r e
        rw [blsD_rep e2 hs] at q
        exact ⟨a, ns, by rw [ea], q, p m H _ rh .refl rfl⟩
  · exact p.elim
theorem bi_any : Bi G (rAny G.K) bAny := by
  intro W σ m H lh ds vs Q rh rv p
  unfold bAny at p
  split at p
  · rename_i x
    obtain ⟨v, rfl, r⟩ := bi1 rv
    cases e : seqL lh x with
    | none => rw [e] at p; exact p.elim
    | some xs =>
      rw [e] at p
      cases e2 : blsD xs with
      | none => simp only [Option.elim, e2] at p; exact p.elim
      | some ns =>
        simp only [Option.elim, e2] at p
        obtain ⟨a, vs, ea, q, hs⟩ := seqL_rep rh r e
        rw [blsD_rep e2 hs] at q
        exact ⟨a, ns, by rw [ea], q, p m H _ rh .refl rfl⟩
  · exact p.elim
/-! ### methods of lists -/
def isLs (h : LH) (x : D) : Bool := (lstM h x).isSome
def eM (op : D → List D → LH → Res D) (fo : EV) (g : AV) : EV := fun σ h => bnd (fo σ h) fun x h1 => if isLs h1 x = true then bnd (g σ h1) fun xs h2 => op x xs h2 else none
def Mt (G : Gx) (r : V → List V → Hp → VK → Prop) (op : D → List D → LH → Res D) : Prop := ∀ (W : WX) (σ : St) (m : List Addr) (H : Hp) (lh : LH) (x : D) (v : V) (ds : List D) (vs : List V) (Q : VK), RepH G m H lh → RepV G m H x v → RepVs G m H ds vs → Post G W σ (RepV G) m H Q (op x ds lh) → r v vs H Q
theorem ty_ls (rh : RepH G m H lh) {x : D} {v : V} (r : RepV G m H x v) (h : isLs lh x = true) : tyV G.K "list" v H := by
  obtain ⟨xs, e⟩ := Option.isSome_iff_exists.mp h
  obtain ⟨a, vs, ea, q, _⟩ := lstM_rep rh r e
  subst ea
  exact .inl ⟨rfl, vs, SqL.of q⟩
theorem de_m {o : Expr} {fo : EV} {name : Str} {id : String} {r : V → List V → Hp → VK → Prop} {op : D → List D → LH → Res D} {apos cpos : Pos} (slot : Slot "list" name id) (hty : typeOf (.builtin id) = pure (.type "method_descriptor")) (hm : MtR X id r) (ok : Mt G r op) (hG : X.K = G.K) (ho : DE G W X o fo) (ha : DA G W X (e :: es) g)
    (hbase : attributeBase o name X.env (eval o X.env) = eval o X.env := by rfl)
    (hfew : ((backTo cpos (starEach (e :: es) X.env)).all (fun x => !x.1) && (backToKw cpos (keywordEach [] X.env)).all (fun x => x.1.isSome)
      && decide ((e :: es).length + ([] : List Keyword).length + (if ([] : List Keyword).isEmpty then 0 else 1) < 30)) = true := by rfl)
    (hline : (apos.endLine == cpos.line) = true := by rfl) (hs : starEach (e :: es) X.env = (false, eval e X.env) :: starEach es X.env := by rfl) (hplain : (backTo cpos (starEach es X.env)).any (·.1) = false := by rfl) :
    DE G W X (.Call (.Attribute o name apos) (e :: es) [] cpos) (eM op fo g) :=
  PE.imp (pe_bm PySem.F.plainAttrs_list slot hty hm ho ha hbase hfew hline hs hplain) fun σ H Q ⟨m, σd, lh, rh, rs, p⟩ => by
  refine (bindG rh rs p).mono fun v H1 ⟨m1, lh1, d1, rh1, rs1, e1, r1, p1⟩ => ?_
  split at p1
  · rename_i hl
    refine ⟨by rw [hG]; exact ty_ls rh1 r1 hl, ?_⟩
    refine (bindG rh1 rs1 p1).mono fun vs H2 ⟨m2, lh2, d2, rh2, rs2, e2, r2, p2⟩ => ?_
    exact ok W σ m2 H2 lh2 d1 v d2 vs Q rh2 (RepV.keep rh1 e2 _ _ r1) r2 p2
  · exact p1.elim
theorem de_m0 {o : Expr} {fo : EV} {name : Str} {id : String} {r : V → List V → Hp → VK → Prop} {op : D → List D → LH → Res D} {apos cpos : Pos} (slot : Slot "list" name id) (hty : typeOf (.builtin id) = pure (.type "method_descriptor")) (hm : MtR X id r) (ok : Mt G r op) (hG : X.K = G.K) (ho : DE G W X o fo)
    (hbase : attributeBase o name X.env (eval o X.env) = eval o X.env := by rfl) (hline : (apos.endLine == cpos.line) = true := by rfl) :
    DE G W X (.Call (.Attribute o name apos) [] [] cpos) (eM op fo aNil) :=
  PE.imp (pe_bm0 PySem.F.plainAttrs_list slot hty hm ho hbase hline) fun σ H Q ⟨m, σd, lh, rh, rs, p⟩ => by
  refine (bindG rh rs p).mono fun v H1 ⟨m1, lh1, d1, rh1, rs1, e1, r1, p1⟩ => ?_
  split at p1
  · rename_i hl
    refine ⟨by rw [hG]; exact ty_ls rh1 r1 hl, ?_⟩
    exact ok W σ m1 H1 lh1 d1 v [] [] Q rh1 r1 rfl p1
  · exact p1.elim
/-- the list of the logical heap -/
theorem loc_rep (rh : RepH G m H lh) {n : Nat} {v : V} {xs : List D} (r : RepV G m H (.loc n) v) (h : lh[n]? = some (.lst xs)) : ∃ a vs, v = .ref a ∧ m[n]? = some a ∧ H a = some (.lst vs) ∧ RepVs G m H xs vs := by
  obtain ⟨a, ha, ea⟩ := r
  obtain ⟨a', ha', vs, hH, hs⟩ := rh.get h
  rw [ha] at ha'; cases ha'
  exact ⟨a, vs, ea, ha, hH, hs⟩
/-- the i-th object's list -/
def lsAt (h : LH) (n : Nat) : Option (List D) := match h[n]? with
  | some (.lst xs) => some xs
  | _ => none
theorem lsAt_some {h : LH} {n : Nat} {xs : List D} (e : lsAt h n = some xs) : h[n]? = some (.lst xs) := by
  unfold lsAt at e
  split at e
  · rename_i ys q
    cases e
    exact q
  · cases e
@[simp] theorem lsAt_of {h : LH} {n : Nat} {xs : List D} (e : h[n]? = some (.lst xs)) : lsAt h n = some xs := by
  unfold lsAt
  rw [e]
def mAppend : D → List D → LH → Res D
  | .loc n, [d], h => (lsAt h n).elim none fun xs => if xs.length < line then some (.ok .non, h.set n (.lst (xs ++ [d]))) else none
  | _, _, _ => none
theorem mt_app : Mt G rAppend mAppend := by
  intro W σ m H lh x v ds vs Q rh rv rvs p
  unfold mAppend at p
  split at p
  · rename_i n d
    cases e : lsAt lh n with
    | none => rw [e] at p; exact p.elim
    | some xs =>
      rw [e] at p
      dsimp only [Option.elim] at p
      split at p
      · rename_i hl
        obtain ⟨w, rfl, rw'⟩ := bi1 rvs
        obtain ⟨a, us, ea, ha, hH, hs⟩ := loc_rep rh rv (lsAt_some e)
        refine ⟨a, us, w, ea, rfl, hH, by rw [line_eq, ← hs.len]; exact hl, ?_⟩
        obtain ⟨e3, r3⟩ := ext_write (o := .lst (us ++ [w])) (lo := .lst (xs ++ [d])) rh ha fun e3 => ⟨_, upd_same, (RepVs.keep rh e3 _ _ hs).append ⟨w, [], rfl, RepV.keep rh e3 _ _ rw', rfl⟩⟩
        exact p m _ _ r3 e3 rfl
      · exact p.elim
  · exact p.elim
def mExtend : D → List D → LH → Res D
  | .loc n, [d], h => (lsAt h n).elim none fun xs => (lstM h d).elim none fun ys => if xs.length + ys.length ≤ line then some (.ok .non, h.set n (.lst (xs ++ ys))) else none
  | _, _, _ => none
theorem mt_ext : Mt G rExtend mExtend := by
  intro W σ m H lh x v ds vs Q rh rv rvs p
  unfold mExtend at p
  split at p
  · rename_i n d
    cases e : lsAt lh n with
    | none => rw [e] at p; exact p.elim
    | some xs =>
      rw [e] at p
      dsimp only [Option.elim] at p
      cases e2 : lstM lh d with
      | none => rw [e2] at p; exact p.elim
      | some ys =>
        rw [e2] at p
        dsimp only at p
        split at p
        · rename_i hl
          obtain ⟨w, rfl, rw'⟩ := bi1 rvs
          obtain ⟨a, us, ea, ha, hH, hs⟩ := loc_rep rh rv (lsAt_some e)
          obtain ⟨b, ws, eb, hB, hs2⟩ := lstM_rep rh rw' e2
          subst eb
          refine ⟨a, b, us, ws, ea, rfl, hH, hB, by rw [line_eq, ← hs.len, ← hs2.len]; exact hl, ?_⟩
          obtain ⟨e3, r3⟩ := ext_write (o := .lst (us ++ ws)) (lo := .lst (xs ++ ys)) rh ha fun e3 => ⟨_, upd_same, (RepVs.keep rh e3 _ _ hs).append (RepVs.keep rh e3 _ _ hs2)⟩
          exact p m _ _ r3 e3 rfl
        · exact p.elim
  · exact p.elim
def ixOk (i : Int) : Bool := decide (-(2 ^ 63) ≤ i) && decide (i < 2 ^ 63)
def mPop : D → List D → LH → Res D
  | .loc n, [], h => (lsAt h n).elim none fun xs => (xs[xs.length - 1]?).elim none fun d => some (.ok d, h.set n (.lst xs.dropLast))
  | .loc n, [.int i], h => (lsAt h n).elim none fun xs => if ixOk i = true then (seqIndex? i xs.length).elim none fun k => (xs[k]?).elim none fun d => some (.ok d, h.set n (.lst (xs.eraseIdx k))) else none
  | _, _, _ => none
theorem mt_pp : Mt G (fun x xs H Q => rPop x xs H Q ∨ rPopAt x xs H Q) mPop := by
  intro W σ m H lh x v ds vs Q rh rv rvs p
  unfold mPop at p
  split at p
  · rename_i n
    have rvs : vs = [] := rvs
    subst rvs
    cases e : lsAt lh n with
    | none => rw [e] at p; exact p.elim
    | some xs =>
      rw [e] at p
      dsimp only [Option.elim] at p
      cases e2 : xs[xs.length - 1]? with
      | none => rw [e2] at p; exact p.elim
      | some d =>
        rw [e2] at p
        obtain ⟨a, us, ea, ha, hH, hs⟩ := loc_rep rh rv (lsAt_some e)
        obtain ⟨w, hw, rw'⟩ := RepVs.get hs e2
        rw [hs.len] at hw
        refine .inl ⟨a, us, w, ea, rfl, hH, hw, ?_⟩
        obtain ⟨e3, r3⟩ := ext_write (o := .lst us.dropLast) (lo := .lst xs.dropLast) rh ha fun e3 => ⟨_, upd_same, (RepVs.keep rh e3 _ _ hs).dropLast⟩
        exact p m _ _ r3 e3 (RepV.keep rh e3 _ _ rw')
  · rename_i n i
    obtain ⟨w0, rfl, rw0⟩ := bi1 rvs
    have rw0 : w0 = V.int i := rw0
    subst rw0
    cases e : lsAt lh n with
    | none => rw [e] at p; exact p.elim
    | some xs =>
      rw [e] at p
      dsimp only [Option.elim] at p
      split at p
      · rename_i hi
        cases e4 : seqIndex? i xs.length with
        | none => rw [e4] at p; exact p.elim
        | some k =>
          rw [e4] at p
          dsimp only at p
          cases e2 : xs[k]? with
          | none => rw [e2] at p; exact p.elim
          | some d =>
            rw [e2] at p
            obtain ⟨a, us, ea, ha, hH, hs⟩ := loc_rep rh rv (lsAt_some e)
            obtain ⟨w, hw, rw'⟩ := RepVs.get hs e2
            have hi := Bool.and_eq_true_iff.mp hi
            refine .inr ⟨a, us, i, k, w, ea, rfl, hH, of_decide_eq_true hi.1, of_decide_eq_true hi.2, by rw [← hs.len]; exact e4, hw, ?_⟩
            obtain ⟨e3, r3⟩ := ext_write (o := .lst (us.eraseIdx k)) (lo := .lst (xs.eraseIdx k)) rh ha fun e3 => ⟨_, upd_same, (RepVs.keep rh e3 _ _ hs).erase k⟩
            exact p m _ _ r3 e3 (RepV.keep rh e3 _ _ rw')
      · exact p.elim
  · exact p.elim
theorem mt_pop2 : MtR X "list.pop" (fun x xs H Q => rPop x xs H Q ∨ rPopAt x xs H Q) := MtR.or mt_pop mt_popAt
def mRemove : D → List D → LH → Res D
  | .loc n, [.int k], h => (lsAt h n).elim none fun xs => (intsD xs).elim none fun ns => if k ∈ ns then some (.ok .non, h.set n (.lst ((ns.erase k).map D.int))) else none
  | _, _, _ => none
theorem erase_first : ∀ {ns : List Int} {k : Int}, k ∈ ns → ∃ j, ns[j]? = some k ∧ (∀ i, i < j → ns[i]? ≠ some k) ∧ ns.eraseIdx j = ns.erase k
  | a :: r, k, h => by
    by_cases e : a = k
    · exact ⟨0, by simp [e], fun i hi => absurd hi (Nat.not_lt_zero _), by simp [e]⟩
    · have h' : k ∈ r := (List.mem_cons.mp h).elim (fun z => absurd z.symm e) id
      obtain ⟨j, h1, h2, h3⟩ := erase_first h'
      refine ⟨j + 1, by simpa using h1, fun i hi => ?_, ?_⟩
      · cases i with
        | zero => simpa using e
        | succ i => simpa using h2 i (Nat.lt_of_succ_lt_succ hi)
      · rw [List.eraseIdx_cons_succ, h3, List.erase_cons_tail (by simpa using e)]
theorem mt_rem : Mt G rRemI mRemove := by
  intro W σ m H lh x v ds vs Q rh rv rvs p
  unfold mRemove at p
  split at p
  · rename_i n k
    obtain ⟨w0, rfl, rw0⟩ := bi1 rvs
    have rw0 : w0 = V.int k := rw0
    subst rw0
    cases e : lsAt lh n with
    | none => rw [e] at p; exact p.elim
    | some xs =>
      rw [e] at p
      dsimp only [Option.elim] at p
      cases e2 : intsD xs with
      | none => rw [e2] at p; exact p.elim
      | some ns =>
        rw [e2] at p
        dsimp only at p
        split at p
        · rename_i hk
          obtain ⟨a, us, ea, ha, hH, hs⟩ := loc_rep rh rv (lsAt_some e)
          have eu := intsD_rep e2 hs
          subst eu
          obtain ⟨j, h1, h2, h3⟩ := erase_first hk
          refine ⟨a, ns, k, j, ea, rfl, hH, h1, h2, ?_⟩
          rw [h3]
          obtain ⟨e3, r3⟩ := ext_write (o := .lst ((ns.erase k).map V.int)) (lo := .lst ((ns.erase k).map D.int)) rh ha fun e3 => ⟨_, upd_same, RepVs.ints _⟩
          exact p m _ _ r3 e3 rfl
        · exact p.elim
  · exact p.elim
/-! ### lengths of arguments -/
def AL (n : Nat) (g : AV) : Prop := ∀ σ h xs h', g σ h = some (.ok xs, h') → xs.length = n
theorem al_nil : AL 0 aNil := fun σ h xs h' e => by cases e; rfl
theorem al_cons {n : Nat} (hg : AL n g) : AL (n + 1) (aCons f g) := fun σ h xs h' e => by
  unfold aCons at e
  cases q : f σ h with
  | none => rw [q] at e; cases e
  | some r =>
    obtain ⟨r, h1⟩ := r
    cases r with
    | ex c y => rw [q] at e; cases e
    | ok x =>
      rw [q] at e
      have e : bnd (g σ h1) (fun xs h2 => some (R.ok (x :: xs), h2)) = some (.ok xs, h') := e
      cases q2 : g σ h1 with
      | none => rw [q2] at e; cases e
      | some r =>
        obtain ⟨r, h2⟩ := r
        cases r with
        | ex c y => rw [q2] at e; cases e
        | ok ys =>
          rw [q2] at e
          have e : some (R.ok (x :: ys), h2) = some (R.ok xs, h') := e
          have el : x :: ys = xs := by
            injection e with e
            injection e with e _
            injection e
          rw [← el, List.length_cons, hg _ _ _ _ q2]
end
end DL

set_option maxRecDepth 100000
set_option maxHeartbeats 400000
set_option linter.all false
/-! DenH: isinstance, min of a list of tuples of ints. -/
namespace L2
open PySem PySem.Spec PyProof.Rows PySem.W
section
variable {prog : Program} {w : World} {A : Around} {E : Value → Shared → Prop} {s : Shared}
theorem min_tups {l : Addr} {its : Array Value} {nss : List (List Int)} {Q : Value → Shared → Prop} (hh : A.handled = none) (hl : s.heap.IsList l its) (hT : ∀ i v, its[i]? = some v → ∃ t items, v = .ref t ∧ IsTup s.heap t items ∧ IntsAre items.toList (nss.getD i []))
    (hu : A.units + 1 < cLine) (hn : its.size = nss.length) (hne : 0 < nss.length)
    (h : ∀ v h' tk, its[argBest (fun i j => HT.lexLt (nss.getD i []) (nss.getD j [])) (nss.length - 1)]? = some v → (∀ b o, s.heap.get? b = some o → h'.get? b = some o) → Q v { s with heap := h', toks := tk }) :
    wpAny (model prog w) A (call (.builtin "min") [.ref l]) Q E s := by
  refine call_min_walkH (iter_listW (A := A.in1) hh hl fun s₂ e W st hfp hw hk => ?_)
  refine ⟨_, _, _, _, _, _, _, s.heap, (fun i j => HT.lexLt (nss.getD i []) (nss.getD j [])), rfl, W, st, hfp, by omega, hw, hk, fun i j vi vj s' Q E hk hi hj q => ?_, fun v s' hP m => ?_⟩
  · obtain ⟨t, items, rfl, ht, hi'⟩ := hT i vi hi
    obtain ⟨t2, items2, rfl, ht2, hj'⟩ := hT j vj hj
    exact HT.lt_tupInts (ht.keeps hk) (ht2.keeps hk) hi' hj' (by show A.units + 1 < cLine; exact hu) q
  · obtain ⟨h', tk, rfl, hk'⟩ := moved_old e rfl m
    rw [hn] at hP
    exact h v h' tk hP hk'
end
section
variable {X : Cx}
/-- min(xs) of a list of tuples of ints: the first of the least -/
def rMinT (K : PySem.W.Frag) : List V → Hp → VK → Prop := fun vs H Q => ∃ (a : Addr) (xs : List V) (nss : List (List Int)), vs = [V.ref a] ∧ SqL K H a xs ∧ xs.length = nss.length ∧ 0 < nss.length ∧ (∀ i x, xs[i]? = some x → ∃ t, x = .ref t ∧ SqT K H t ((nss.getD i []).map V.int)) ∧
  ∀ x, xs[argBest (fun i j => HT.lexLt (nss.getD i []) (nss.getD j [])) (nss.length - 1)]? = some x → Q x H
theorem cr_minT (hc : X.calm = true) (hu : X.A.units + 1 < cLine) : CallR X (.builtin "min") (rMinT X.K) := by
  intro pins s σ H vs us Q I r h
  obtain ⟨a, xs, nss, rfl, hs, hn, hne, hx, q⟩ := h
  obtain ⟨its, rv, hl, _⟩ := I.list hs
  have hlen := rv.length
  rw [Vals.ref1 r]
  have atV : ∀ (i : Nat) (v : Value), its.toArray[i]? = some v → ∃ x, xs[i]? = some x ∧ RelV x v := fun i v hv => by
    have hv : its[i]? = some v := by simpa using hv
    have hi : i < its.length := (List.getElem?_eq_some_iff.mp hv).1
    have hi' : i < xs.length := by omega
    obtain ⟨v', hv', rv'⟩ := Vals.get rv (List.getElem?_eq_getElem hi')
    rw [hv] at hv'
    cases hv'
    exact ⟨_, List.getElem?_eq_getElem hi', rv'⟩
  refine min_tups (I.ok.hd hc) hl.isList (nss := nss) (fun i v hv => ?_) hu (by simp; omega) hne fun v h' tk hv hk => ?_
  · obtain ⟨x, hx1, rx⟩ := atV i v hv
    obtain ⟨t, rfl, hT⟩ := hx i x hx1
    cases rx
    obtain ⟨items, r2, ht, _⟩ := I.tuple hT
    exact ⟨t, items.toArray, rfl, ht, by simpa using intsAre_of r2⟩
  · obtain ⟨x, hx1, rx⟩ := atV _ v hv
    exact ⟨x, H, I.kept hk, rx, q x hx1⟩
end
end L2
namespace DL
open PySem PySem.Spec L2
section
variable {G : Gx} {W : WX} {X : Cx} {σ : St} {m m' : List Addr} {H H' : Hp} {lh lh' : LH} {σd : Env} {n : Nat}
variable {a b c d e : Expr} {es : List Expr} {fa fb fc fd f : EV} {g : AV} {pos p : Pos} {x : Str}
def tupI : D → Option (List Int)
  | .tup xs => intsD xs
  | _ => none
def tupsI : List D → Option (List (List Int))
  | [] => some []
  | x :: r => (tupI x).bind fun y => (tupsI r).map (y :: ·)
theorem tupsI_at : ∀ {xs : List D} {nss : List (List Int)}, tupsI xs = some nss → xs.length = nss.length ∧ ∀ i d, xs[i]? = some d → tupI d = some (nss.getD i [])
  | [], _, h => by cases h; exact ⟨rfl, fun i d e => by simp at e⟩
  | x :: r, nss, h => by
    unfold tupsI at h
    obtain ⟨y, hy, h⟩ := Option.bind_eq_some_iff.mp h
    obtain ⟨ys, hys, rfl⟩ := Option.map_eq_some_iff.mp h
    obtain ⟨h1, h2⟩ := tupsI_at hys
    refine ⟨by simp [h1], fun i d e => ?_⟩
    cases i with
    | zero => simp at e; subst e; simpa using hy
    | succ i => simpa using h2 i d (by simpa using e)
def argMin (nss : List (List Int)) : Nat := argBest (fun i j => HT.lexLt (nss.getD i []) (nss.getD j [])) (nss.length - 1)
theorem argBest_lt (bt : Nat → Nat → Bool) : ∀ k, argBest bt k ≤ k
  | 0 => Nat.le_refl _
  | k + 1 => by
    unfold argBest
    split
    · exact Nat.le_refl _
    · exact Nat.le_succ_of_le (argBest_lt bt k)
theorem argMin_lt {nss : List (List Int)} (h : nss ≠ []) : argMin nss < nss.length := by
  have := argBest_lt (fun i j => HT.lexLt (nss.getD i []) (nss.getD j [])) (nss.length - 1)
  have h2 := List.length_pos_iff.mpr h
  show argBest _ _ < _
  omega
def bMinA : List D → LH → Res D
  | [.int i, .int j], h => some (.ok (.int (min i j)), h)
  | [x], h => (seqL h x).elim none fun xs => if xs.isEmpty then none else match intsD xs with
    | some ns => some (.ok (.int (minL ns)), h)
    | none => (tupsI xs).elim none fun nss => (xs[argMin nss]?).elim none fun d => some (.ok d, h)
  | _, _ => none
theorem bi_minA : Bi G (fun vs H Q => ((∃ i j, vs = [.int i, .int j] ∧ Q (.int (if j < i then j else i)) H) ∨ rMin G.K vs H Q) ∨ rMinT G.K vs H Q) bMinA := by
  intro W σ m H lh ds vs Q rh rv p
  unfold bMinA at p
  split at p
  · rename_i i j
    obtain ⟨v, v', rfl, r, r'⟩ := repVs2 rv
    have r : v = V.int _ := r
    have r' : v' = V.int _ := r'
    refine .inl (.inl ⟨i, j, by rw [r, r'], ?_⟩)
    have e : (if j < i then j else i) = min i j := by split <;> omega
    rw [e]
    exact p m H _ rh .refl rfl
  · rename_i x
    obtain ⟨v, rfl, r⟩ := bi1 rv
    cases e : seqL lh x with
    | none => rw [e] at p; exact p.elim
    | some xs =>
      rw [e] at p
      dsimp only [Option.elim] at p
      split at p
      · exact p.elim
      · rename_i hne
        have hne : xs ≠ [] := fun z => hne (by rw [z]; rfl)
        obtain ⟨a, vs, ea, q, hs⟩ := seqL_rep rh r e
        split at p
        · rename_i ns e2
          have ev := intsD_rep e2 hs
          subst ev
          have hl := hs.len
          rw [List.length_map] at hl
          have hne' : ns ≠ [] := fun z => hne (List.eq_nil_of_length_eq_zero (by rw [hl, z]; rfl))
          obtain ⟨h1, h2⟩ := minL_mem hne'
          refine .inl (.inr ⟨a, ns, by rw [ea], q, List.length_pos_iff.mpr hne', fun k hk hk2 => ?_⟩)
          have : k = minL ns := Int.le_antisymm (hk2 _ h1) (h2 k hk)
          rw [this]
          exact p m H _ rh .refl rfl
        · cases e3 : tupsI xs with
          | none => rw [e3] at p; exact p.elim
          | some nss =>
            rw [e3] at p
            dsimp only at p
            obtain ⟨h1, h2⟩ := tupsI_at e3
            refine .inr ⟨a, vs, nss, by rw [ea], q, by rw [← hs.len, h1], by rw [← h1]; exact List.length_pos_iff.mpr hne, fun i y hy => ?_, fun y hy => ?_⟩
            · obtain ⟨d, hd, rd⟩ := RepVs.getV hs hy
              have ht := h2 i d hd
              cases d with
              | tup ds =>
                obtain ⟨t, ws, et, qt, ht'⟩ := rd
                rw [intsD_rep (show intsD ds = _ from ht) ht'] at qt
                exact ⟨t, et, qt⟩
              | _ => cases ht
            · obtain ⟨d, hd, rd⟩ := RepVs.getV hs hy
              rw [show xs[argMin nss]? = some d from hd] at p
              exact p m H y rh .refl rd
  · exact p.elim
/-! ### isinstance -/
inductive T0 where
  | non | bl | int | str | lst | tup | dic
def T0.nm : T0 → String
  | .non => "NoneType" | .bl => "bool" | .int => "int" | .str => "str" | .lst => "list" | .tup => "tuple" | .dic => "dict"
def isT : T0 → T0 → Bool
  | .non, .non => true | .bl, .bl => true | .bl, .int => true | .int, .int => true | .str, .str => true | .lst, .lst => true | .tup, .tup => true | .dic, .dic => true
  | _, _ => false
theorem isT_kit {K : PySem.W.Frag} : ∀ a b : T0, PySem.W.kitOne K (.type a.nm) (.type b.nm) = some (isT a b) := fun a b => kit_ty (by cases a <;> cases b <;> decide +kernel)
def tyD (h : LH) : D → Option T0
  | .non => some .non
  | .bl _ => some .bl
  | .int _ => some .int
  | .str _ => some .str
  | .tup _ => some .tup
  | .lst _ => some .lst
  | .scr _ => some .lst
  | .loc n => (match h[n]? with
    | some (.lst _) => some .lst
    | some (.dic _) => some .dic
    | _ => none)
  | .obj _ _ _ => none
theorem tyD_rep (rh : RepH G m H lh) {d : D} {v : V} {t : T0} (r : RepV G m H d v) (h : tyD lh d = some t) : TyX G.K H v (.type t.nm) := by
  cases d with
  | non => cases h; have r : v = .non := r; subst r; exact .base .non
  | bl b => cases h; have r : v = .bl b := r; subst r; exact .base (.bl b)
  | int b => cases h; have r : v = .int b := r; subst r; exact .base (.int b)
  | str b => cases h; have r : v = .str b := r; subst r; exact .base (.str b)
  | tup xs =>
    cases h
    obtain ⟨a, vs, rfl, q, _⟩ := r
    rcases q with (q | ⟨o, q⟩) | ⟨o, its, n, q, c, _⟩
    · exact .base (.tup q)
    · exact .fTuple q
    · exact .kTuple q c
  | lst xs =>
    cases h
    obtain ⟨a, vs, rfl, _, q, _⟩ := r
    exact .base (.lst q)
  | scr ns =>
    cases h
    obtain ⟨a, rfl, q⟩ := r
    rcases q with ⟨o, q⟩ | ⟨o, its, n, q, c, _⟩
    · exact .base (.frz q)
    · exact .kList q c
  | loc n =>
    obtain ⟨a, ha, rfl⟩ := r
    unfold tyD at h
    dsimp only at h
    split at h
    · rename_i xs q
      cases h
      obtain ⟨a', ha', vs, hH, _⟩ := rh.get q
      rw [ha] at ha'; cases ha'
      exact .base (.lst hH)
    · rename_i xs q
      cases h
      obtain ⟨a', ha', hH⟩ := rh.get q
      rw [ha] at ha'; cases ha'
      rcases hH with ⟨l, hH, _⟩ | ⟨l, hH, _⟩
      · exact .base (.dK hH)
      · exact .base (.dT hH)
    · cases h
  | obj _ _ _ => cases h
def eIsi (t : T0) (f : EV) : EV := fun σ h => bnd (f σ h) fun d h1 => (tyD h1 d).elim none fun T => some (.ok (.bl (isT T t)), h1)
theorem de_isi {t : T0} {tn : Str} {p1 p2 : Pos} (hG : X.K = G.K) (hg : Gl X "isinstance") (hm : X.mg "isinstance" = none) (hg2 : Gl X tn) (hm2 : X.mg tn = none) (hb2 : bootBuiltins tn = some (.type t.nm)) (ha : DE G W X a fa) (hn2 : tn ≠ "__name__" := by decide) (hd2 : (tn == ("__debug__" : Str)) = false := by decide)
    (hs : starEach [a, .Name tn p2] X.env = (false, eval a X.env) :: starEach [.Name tn p2] X.env := by rfl) (hs2 : starEach [.Name tn p2] X.env = (false, eval (.Name tn p2) X.env) :: starEach [] X.env := by rfl)
    (hpl : (backTo pos (starEach [.Name tn p2] X.env)).any (·.1) = false := by rfl) :
    DE G W X (.Call (.Name "isinstance" p1) [a, .Name tn p2] [] pos) (eIsi t fa) :=
  PE.imp (pe_callB call_isi hg hm (by decide +kernel) (pa_cons ha (pa_cons (pe_bltn (v := .ty t.nm) (pos := p2) hg2 hm2 hb2 rfl hn2 hd2) pa_nil hs2) hs) (he := hs) (hpl := hpl)) fun σ H Q ⟨m, σd, lh, rh, rs, p⟩ => by
  refine (bindG rh rs p).mono fun v H1 ⟨m1, lh1, d1, rh1, rs1, e1, r1, p1⟩ => ?_
  cases e : tyD lh1 d1 with
  | none => rw [e] at p1; exact p1.elim
  | some T =>
    rw [e] at p1
    refine ⟨v, .ty t.nm, .type T.nm, .type t.nm, isT T t, rfl, .ty _, by rw [hG]; exact tyD_rep rh1 r1 e, isT_kit T t, p1 m1 H1 _ rh1 .refl rfl⟩
end
end DL

set_option maxRecDepth 100000
set_option maxHeartbeats 400000
set_option linter.all false
/-! DenI: what the head hands over; short words for the walks. -/
namespace DL
open PySem PySem.Spec L2
open PyProof.Rows hiding St
/-- a def of the text as it stands behind the top -/
structure FnF (K : PySem.W.Frag) (mg : Str → Option Value) (x qual : Str) (st : Stmt) (dvs : List V) where
  f : Addr
  fd : FuncData
  F : FunD K x qual (defArgs st) (defBody st) (defScope st) dvs [] f fd
  g : mg x = some (.ref f)
/-- no default -/
theorem funD_mk {K : PySem.W.Frag} {x qual : Str} {st : Stmt} {f : Addr} {oc : Value} {od an : Option Addr} {osl : Array (Option Value)} {kV doc pm cdv ct : Value} (l : K.lookup f = some ⟨oc, od, .func (PySem.W.fnOf x qual (defArgs st) (defBody st) (defScope st) .none kV doc pm an cdv ct), osl⟩)
    (c : PySem.W.codeIn K cdv qual = true) (k : PySem.W.keepIn K (.ref f) = true) : FunD K x qual (defArgs st) (defBody st) (defScope st) [] [] f (PySem.W.fnOf x qual (defArgs st) (defBody st) (defScope st) .none kV doc pm an cdv ct) :=
  ⟨⟨oc, od, .none, kV, doc, pm, an, cdv, ct, osl, rfl, l, c, .inl ⟨rfl, rfl⟩, .inl rfl⟩, k⟩
/-- one default, None -/
theorem funD_mkN {K : PySem.W.Frag} {x qual : Str} {st : Stmt} {f T : Addr} {oc : Value} {od an : Option Addr} {osl : Array (Option Value)} {kV doc pm cdv ct tc : Value} {td : Option Addr} {tn : Nat} {ts : Array (Option Value)} (l : K.lookup f = some ⟨oc, od, .func (PySem.W.fnOf x qual (defArgs st) (defBody st) (defScope st) (.ref T) kV doc pm an cdv ct), osl⟩)
    (t : K.lookup T = some ⟨tc, td, .seq #[Value.none] tn, ts⟩)
    (c : PySem.W.codeIn K cdv qual = true) (k : PySem.W.keepIn K (.ref f) = true) : FunD K x qual (defArgs st) (defBody st) (defScope st) [V.non] [] f (PySem.W.fnOf x qual (defArgs st) (defBody st) (defScope st) (.ref T) kV doc pm an cdv ct) :=
  ⟨⟨oc, od, .ref T, kV, doc, pm, an, cdv, ct, osl, rfl, l, c, .inr ⟨by simp, T, _, [Value.none], tn, rfl, t, rfl, .cons rfl .nil⟩, .inl rfl⟩, k⟩
section
variable {P : Program} {w : World} {K : PySem.W.Frag} {mg : Str → Option Value} {base : Heap} {G : Gx}
theorem fn_def {x qual : Str} {st : Stmt} {dvs : List V} {N ps : List Str} {k q : Nat} {b : SV} (gc : Bool) (T : FnF K mg x qual st dvs) (S : FnScope N ps (defScope st)) (hN : N.length = ps.length + q)
    (hb : ∀ (Z : List Addr) (cdv : Value) (A : Around) (outer : List PySem.Env) (s : Shared) (H : Hp) (E : XK), Room k (A.deeper (envOfC qual (defScope st) s.heap.objs.size T.f cdv)) →
      DSs (G.z Z) (WF E) (cxOf (L2.CX P w) P w K mg base N qual (defScope st) T.f cdv A outer s H E) (defBody st) b) : FnOk P w K mg base (L2.CX P w) (k + 1) T.f T.fd ps (spF G ps.length (finD gc q b)) := by
  refine T.F.ok S (fun vs H Q E h => ?_) (fun cdv A outer s H vs Q E hr h => ?_)
  · obtain ⟨Z, m, lh, ds, rh, rv, hl, p⟩ := h
    rw [← rv.len]; exact hl
  · obtain ⟨Z, m, lh, ds, rh, rv, hl, p⟩ := h
    have p : Post (G.z Z) (WF E) [] (RepV (G.z Z)) m H Q (bodyD q b ds lh) := by
      unfold finD at p
      split at p
      · exact gc_post rh p
      · exact p
    refine ⟨_, hb Z cdv A outer s H E hr, m, ds.map some ++ List.replicate q none, lh, rh, ?_, ?_⟩
    · have e : L2.start N vs = vs.map some ++ List.replicate q none := by
        unfold L2.start
        rw [hN, ← rv.len, hl, Nat.add_sub_cancel_left]
      rw [e]
      exact repS_args rv (repS_none q)
    · unfold bodyD at p
      generalize b (ds.map some ++ List.replicate q none) lh = r at p
      match r, p with
      | some (.ok (.nx, _), h'), p => exact fun m' H' σ' rh' e rs hl => p m' H' .non rh' e rfl
      | some (.ok (.rt d, _), h'), p => exact fun m' H' v rh' e rv => p m' H' v rh' e rv
      | some (.ex c x, h'), p => exact fun m' H' cls dd σ' rh' e q hl => p m' H' cls dd rh' e q
end
theorem bindsAll {K : PySem.W.Frag} {x qual : Str} {params : Arguments} {body : List Stmt} {scope : Scope} {dvs : List V} {kws : List (Str × V)} {f : Addr} {fd : FuncData} {ps : List Str} (F : FunD K x qual params body scope dvs kws f fd) (hd : dvs ≠ [])
    (h : ∀ (T : Addr) (kV doc pm : Value) (an : Option Addr) (cdv ct : Value) (us its : List Value), us.length = ps.length → its.length = dvs.length →
      ∃ k, bindArgs (PySem.W.fnOf x qual params body scope (.ref T) kV doc pm an cdv ct) ⟨us, []⟩ = seqItems? (.ref T) >>= k ∧ k (some its.toArray) = pure (ps.zip (us ++ its.drop dvs.length))) : Binds K fd ps [] := by
  obtain ⟨ds, r, b⟩ := F.binds1 ps.length dvs.length hd (by omega) h
  rw [List.drop_length] at r
  cases r
  exact b
theorem ru64 {k : Nat} {A : Around} (h : Room k A) : A.units + 64 < cLine := by have := h.un; omega
theorem ru65 {k : Nat} {A : Around} (h : Room k A) : A.units + 65 < cLine := by have := h.un; omega
theorem ru1 {k : Nat} {A : Around} (h : Room k A) : A.units + 1 < cLine := by have := h.un; omega
section
variable {G : Gx} {W : WX} {X : Cx} {a b c d e : Expr} {es : List Expr} {fa fb fc fd f : EV} {g : AV} {pos p : Pos} {x : Str}
/-- a global whole number -/
theorem de_gint {i : Int} (h : ∃ u, X.mg x = some u ∧ RelV (V.int i) u) (hg : Gl X x := by rfl) (hd : (x == ("__debug__" : Str)) = false := by decide) : DE G W X (.Name x pos) (eC (.int i)) :=
  let ⟨u, h1, h2⟩ := h
  de_glob hg h1 h2 (fun _ _ => rfl) hd
theorem de_add (mu : Bool) (hG : X.K = G.K) (ha : DE G W X a fa) (hb : DE G W X b fb) : DE G W X (.BinOp a .Add b pos) (e2 (oAdd mu) fa fb) := de_op (op_addAll (X := X)) (by rw [hG]; exact ok_add) ha hb
theorem de_sub (ha : DE G W X a fa) (hb : DE G W X b fb) : DE G W X (.BinOp a .Sub b pos) (e2 iSub fa fb) := de_op op_sub ok_sub ha hb
theorem de_mul (mu : Bool) (ha : DE G W X a fa) (hb : DE G W X b fb) : DE G W X (.BinOp a .Mult b pos) (e2 (oMul mu) fa fb) := de_op op_mulAll ok_mul ha hb
theorem de_mod (ha : DE G W X a fa) (hb : DE G W X b fb) : DE G W X (.BinOp a .Mod b pos) (e2 iMod fa fb) := de_op op_mod ok_mod ha hb
theorem de_div (ha : DE G W X a fa) (hb : DE G W X b fb) : DE G W X (.BinOp a .FloorDiv b pos) (e2 iDiv fa fb) := de_op op_fdivW ok_div ha hb
theorem de_pow (ha : DE G W X a fa) (hb : DE G W X b fb) : DE G W X (.BinOp a .Pow b pos) (e2 iPow fa fb) := de_op op_pow ok_pow ha hb
theorem de_len (hG : X.K = G.K) (hm : X.mg "len" = none) (ha : DA G W X [a] g) (hg : Gl X "len" := by rfl) (he : starEach [a] X.env = [(false, eval a X.env)] := by rfl) : DE G W X (.Call (.Name "len" p) [a] [] pos) (eBi bLen g) :=
  de_callB call_len_seq (by rw [hG]; exact bi_len) hg hm (by decide +kernel) ha (he := he)
theorem de_int1 (hm : X.mg "int" = none) (ha : DA G W X [a] g) (hg : Gl X "int" := by rfl) (he : starEach [a] X.env = [(false, eval a X.env)] := by rfl) : DE G W X (.Call (.Name "int" p) [a] [] pos) (eBi bInt g) :=
  de_callTy call_int1 bi_int hg hm (by decide +kernel) ha (he := he)
theorem de_abs (hm : X.mg "abs" = none) (ha : DA G W X [a] g) (hg : Gl X "abs" := by rfl) (he : starEach [a] X.env = [(false, eval a X.env)] := by rfl) : DE G W X (.Call (.Name "abs" p) [a] [] pos) (eBi bAbs g) :=
  de_callB call_abs bi_abs hg hm (by decide +kernel) ha (he := he)
theorem de_tuple (hG : X.K = G.K) (hm : X.mg "tuple" = none) (ha : DA G W X [a] g) (hg : Gl X "tuple" := by rfl) (he : starEach [a] X.env = [(false, eval a X.env)] := by rfl) : DE G W X (.Call (.Name "tuple" p) [a] [] pos) (eBi bTup g) :=
  de_callTy call_tuple_of (by rw [hG]; exact bi_tup) hg hm (by decide +kernel) ha (he := he)
theorem de_list (mu : Bool) (hG : X.K = G.K) (hm : X.mg "list" = none) (ha : DA G W X [a] g) (hg : Gl X "list" := by rfl) (he : starEach [a] X.env = [(false, eval a X.env)] := by rfl) : DE G W X (.Call (.Name "list" p) [a] [] pos) (eBi (bLst mu) g) :=
  de_callTy call_list_of (by rw [hG]; exact bi_lst) hg hm (by decide +kernel) ha (he := he)
theorem de_sum (hG : X.K = G.K) (hc : X.calm = true) (hm : X.mg "sum" = none) (ha : DA G W X [a] g) (hg : Gl X "sum" := by rfl) (he : starEach [a] X.env = [(false, eval a X.env)] := by rfl) : DE G W X (.Call (.Name "sum" p) [a] [] pos) (eBi bSum g) :=
  de_callB (cr_sum hc) (by rw [hG]; exact bi_sum) hg hm (by decide +kernel) ha (he := he)
theorem de_all (hG : X.K = G.K) (hc : X.calm = true) (hm : X.mg "all" = none) (ha : DA G W X [a] g) (hg : Gl X "all" := by rfl) (he : starEach [a] X.env = [(false, eval a X.env)] := by rfl) : DE G W X (.Call (.Name "all" p) [a] [] pos) (eBi bAll g) :=
  de_callB (cr_all hc) (by rw [hG]; exact bi_all) hg hm (by decide +kernel) ha (he := he)
theorem de_any (hG : X.K = G.K) (hc : X.calm = true) (hm : X.mg "any" = none) (ha : DA G W X [a] g) (hg : Gl X "any" := by rfl) (he : starEach [a] X.env = [(false, eval a X.env)] := by rfl) : DE G W X (.Call (.Name "any" p) [a] [] pos) (eBi bAny g) :=
  de_callB (cr_any hc) (by rw [hG]; exact bi_any) hg hm (by decide +kernel) ha (he := he)
theorem de_max (hG : X.K = G.K) (hc : X.calm = true) (hm : X.mg "max" = none) (ha : DA G W X (a :: es) g) (hg : Gl X "max" := by rfl) (he : starEach (a :: es) X.env = (false, eval a X.env) :: starEach es X.env := by rfl) (hpl : (backTo pos (starEach es X.env)).any (·.1) = false := by rfl) : DE G W X (.Call (.Name "max" p) (a :: es) [] pos) (eBi bMax g) :=
  de_callB (CallR.or (call_max2 hc) (cr_max hc)) (by rw [hG]; exact bi_max) hg hm (by decide +kernel) ha (he := he) (hpl := hpl)
theorem de_min (hG : X.K = G.K) (hc : X.calm = true) (hu : X.A.units + 1 < cLine) (hm : X.mg "min" = none) (ha : DA G W X (a :: es) g) (hg : Gl X "min" := by rfl) (he : starEach (a :: es) X.env = (false, eval a X.env) :: starEach es X.env := by rfl) (hpl : (backTo pos (starEach es X.env)).any (·.1) = false := by rfl) : DE G W X (.Call (.Name "min" p) (a :: es) [] pos) (eBi bMinA g) :=
  de_callB (CallR.or (CallR.or (call_min2 hc) (cr_min hc)) (cr_minT hc hu)) (by rw [hG]; exact bi_minA) hg hm (by decide +kernel) ha (he := he) (hpl := hpl)
theorem de_eq (hG : X.K = G.K) (hu : X.A.units + 64 < cLine) (ha : DE G W X a fa) (hb : DE G W X b fb) : DE G W X (.Compare a [.Eq] [b] pos) (e2 oEq fa fb) := de_cmp (op_eqD hu) (by rw [hG]; exact ok_eq) ha hb (nomark _)
theorem dt_eq (hG : X.K = G.K) (hu : X.A.units + 64 < cLine) (ha : DE G W X a fa) (hb : DE G W X b fb) : DT' G W X (.Compare a [.Eq] [b] pos) (tOf (e2 oEq fa fb)) := dt_cmp (op_eqD hu) (by rw [hG]; exact ok_eq) ha hb (nomark _)
theorem de_ne (hG : X.K = G.K) (hu : X.A.units + 64 < cLine) (ha : DE G W X a fa) (hb : DE G W X b fb) : DE G W X (.Compare a [.NotEq] [b] pos) (e2 oNe fa fb) := de_cmp (op_neD hu) (by rw [hG]; exact ok_ne) ha hb (nomark _)
theorem dt_ne (hG : X.K = G.K) (hu : X.A.units + 64 < cLine) (ha : DE G W X a fa) (hb : DE G W X b fb) : DT' G W X (.Compare a [.NotEq] [b] pos) (tOf (e2 oNe fa fb)) := dt_cmp (op_neD hu) (by rw [hG]; exact ok_ne) ha hb (nomark _)
theorem de_in (hG : X.K = G.K) (hu : X.A.units + 65 < cLine) (ha : DE G W X a fa) (hb : DE G W X b fb) (hm : behindInMarks .In b = false := by with_unfolding_all rfl) : DE G W X (.Compare a [.In] [b] pos) (e2 (oIn false) fa fb) := de_cmp (or_in hu) (by rw [hG]; exact ok_in) ha hb hm
theorem dt_in (hG : X.K = G.K) (hu : X.A.units + 65 < cLine) (ha : DE G W X a fa) (hb : DE G W X b fb) (hm : behindInMarks .In b = false := by with_unfolding_all rfl) : DT' G W X (.Compare a [.In] [b] pos) (tOf (e2 (oIn false) fa fb)) := dt_cmp (or_in hu) (by rw [hG]; exact ok_in) ha hb hm
theorem de_nin (hG : X.K = G.K) (hu : X.A.units + 65 < cLine) (ha : DE G W X a fa) (hb : DE G W X b fb) (hm : behindInMarks .NotIn b = false := by with_unfolding_all rfl) : DE G W X (.Compare a [.NotIn] [b] pos) (e2 (oIn true) fa fb) := de_cmp (or_notIn hu) (by rw [hG]; exact ok_notIn) ha hb hm
theorem dt_nin (hG : X.K = G.K) (hu : X.A.units + 65 < cLine) (ha : DE G W X a fa) (hb : DE G W X b fb) (hm : behindInMarks .NotIn b = false := by with_unfolding_all rfl) : DT' G W X (.Compare a [.NotIn] [b] pos) (tOf (e2 (oIn true) fa fb)) := dt_cmp (or_notIn hu) (by rw [hG]; exact ok_notIn) ha hb hm
theorem de_lt (ha : DE G W X a fa) (hb : DE G W X b fb) : DE G W X (.Compare a [.Lt] [b] pos) (e2 cLt fa fb) := de_cmp op_lt ok_lt ha hb (nomark _)
theorem dt_lt (ha : DE G W X a fa) (hb : DE G W X b fb) : DT' G W X (.Compare a [.Lt] [b] pos) (tOf (e2 cLt fa fb)) := dt_cmp op_lt ok_lt ha hb (nomark _)
theorem de_le (ha : DE G W X a fa) (hb : DE G W X b fb) : DE G W X (.Compare a [.LtE] [b] pos) (e2 cLe fa fb) := de_cmp op_le ok_le ha hb (nomark _)
theorem dt_le (ha : DE G W X a fa) (hb : DE G W X b fb) : DT' G W X (.Compare a [.LtE] [b] pos) (tOf (e2 cLe fa fb)) := dt_cmp op_le ok_le ha hb (nomark _)
theorem de_gt (ha : DE G W X a fa) (hb : DE G W X b fb) : DE G W X (.Compare a [.Gt] [b] pos) (e2 cGt fa fb) := de_cmp op_gt ok_gt ha hb (nomark _)
theorem dt_gt (ha : DE G W X a fa) (hb : DE G W X b fb) : DT' G W X (.Compare a [.Gt] [b] pos) (tOf (e2 cGt fa fb)) := dt_cmp op_gt ok_gt ha hb (nomark _)
theorem de_ge (ha : DE G W X a fa) (hb : DE G W X b fb) : DE G W X (.Compare a [.GtE] [b] pos) (e2 cGe fa fb) := de_cmp op_ge ok_ge ha hb (nomark _)
theorem dt_ge (ha : DE G W X a fa) (hb : DE G W X b fb) : DT' G W X (.Compare a [.GtE] [b] pos) (tOf (e2 cGe fa fb)) := dt_cmp op_ge ok_ge ha hb (nomark _)
theorem de_isN (ha : DE G W X a fa) (hb : DE G W X b fb) : DE G W X (.Compare a [.Is] [b] pos) (e2 (oIsN false) fa fb) := de_cmp op_isN ok_isN ha hb (nomark _)
theorem dt_isN (ha : DE G W X a fa) (hb : DE G W X b fb) : DT' G W X (.Compare a [.Is] [b] pos) (tOf (e2 (oIsN false) fa fb)) := dt_cmp op_isN ok_isN ha hb (nomark _)
theorem de_notN (ha : DE G W X a fa) (hb : DE G W X b fb) : DE G W X (.Compare a [.IsNot] [b] pos) (e2 (oIsN true) fa fb) := de_cmp op_notN ok_notN ha hb (nomark _)
theorem dt_notN (ha : DE G W X a fa) (hb : DE G W X b fb) : DT' G W X (.Compare a [.IsNot] [b] pos) (tOf (e2 (oIsN true) fa fb)) := dt_cmp op_notN ok_notN ha hb (nomark _)
theorem dt_pv (h : DE G W X e f) (he : ∀ whole, isTrue e X.env whole = (do let v ← whole; standAt e.pos; holding [v] (truthy v)) := by intro _; rfl) : DT' G W X e (tOf f) := dt_val (t := tE G W f) h fun h => pt_val h he
theorem de_append {o : Expr} {fo : EV} {apos cpos : Pos} (hG : X.K = G.K) (ho : DE G W X o fo) (ha : DA G W X [e] g)
    (hbase : attributeBase o "append" X.env (eval o X.env) = eval o X.env := by rfl)
    (hfew : ((backTo cpos (starEach [e] X.env)).all (fun x => !x.1) && (backToKw cpos (keywordEach [] X.env)).all (fun x => x.1.isSome)
      && decide ([e].length + ([] : List Keyword).length + (if ([] : List Keyword).isEmpty then 0 else 1) < 30)) = true := by rfl)
    (hline : (apos.endLine == cpos.line) = true := by rfl) (hs : starEach [e] X.env = (false, eval e X.env) :: starEach [] X.env := by rfl) :
    DE G W X (.Call (.Attribute o "append" apos) [e] [] cpos) (eM mAppend fo g) := de_m PySem.F.slot_list_append PySem.F.type_list_append mt_append mt_app hG ho ha hbase hfew hline hs
theorem de_extend {o : Expr} {fo : EV} {apos cpos : Pos} (hG : X.K = G.K) (ho : DE G W X o fo) (ha : DA G W X [e] g)
    (hbase : attributeBase o "extend" X.env (eval o X.env) = eval o X.env := by rfl)
    (hfew : ((backTo cpos (starEach [e] X.env)).all (fun x => !x.1) && (backToKw cpos (keywordEach [] X.env)).all (fun x => x.1.isSome)
      && decide ([e].length + ([] : List Keyword).length + (if ([] : List Keyword).isEmpty then 0 else 1) < 30)) = true := by rfl)
    (hline : (apos.endLine == cpos.line) = true := by rfl) (hs : starEach [e] X.env = (false, eval e X.env) :: starEach [] X.env := by rfl) :
    DE G W X (.Call (.Attribute o "extend" apos) [e] [] cpos) (eM mExtend fo g) := de_m PySem.F.slot_list_extend PySem.F.type_list_extend mt_extend mt_ext hG ho ha hbase hfew hline hs
theorem de_remove {o : Expr} {fo : EV} {apos cpos : Pos} (hG : X.K = G.K) (ho : DE G W X o fo) (ha : DA G W X [e] g)
    (hbase : attributeBase o "remove" X.env (eval o X.env) = eval o X.env := by rfl)
    (hfew : ((backTo cpos (starEach [e] X.env)).all (fun x => !x.1) && (backToKw cpos (keywordEach [] X.env)).all (fun x => x.1.isSome)
      && decide ([e].length + ([] : List Keyword).length + (if ([] : List Keyword).isEmpty then 0 else 1) < 30)) = true := by rfl)
    (hline : (apos.endLine == cpos.line) = true := by rfl) (hs : starEach [e] X.env = (false, eval e X.env) :: starEach [] X.env := by rfl) :
    DE G W X (.Call (.Attribute o "remove" apos) [e] [] cpos) (eM mRemove fo g) := de_m PySem.F.slot_list_remove PySem.F.type_list_remove mt_remove mt_rem hG ho ha hbase hfew hline hs
theorem de_popA {o : Expr} {fo : EV} {apos cpos : Pos} (hG : X.K = G.K) (ho : DE G W X o fo) (ha : DA G W X [e] g)
    (hbase : attributeBase o "pop" X.env (eval o X.env) = eval o X.env := by rfl)
    (hfew : ((backTo cpos (starEach [e] X.env)).all (fun x => !x.1) && (backToKw cpos (keywordEach [] X.env)).all (fun x => x.1.isSome)
      && decide ([e].length + ([] : List Keyword).length + (if ([] : List Keyword).isEmpty then 0 else 1) < 30)) = true := by rfl)
    (hline : (apos.endLine == cpos.line) = true := by rfl) (hs : starEach [e] X.env = (false, eval e X.env) :: starEach [] X.env := by rfl) :
    DE G W X (.Call (.Attribute o "pop" apos) [e] [] cpos) (eM mPop fo g) := de_m PySem.F.slot_list_pop PySem.F.type_list_pop mt_pop2 mt_pp hG ho ha hbase hfew hline hs
theorem de_pop {o : Expr} {fo : EV} {apos cpos : Pos} (hG : X.K = G.K) (ho : DE G W X o fo)
    (hbase : attributeBase o "pop" X.env (eval o X.env) = eval o X.env := by rfl) (hline : (apos.endLine == cpos.line) = true := by rfl) :
    DE G W X (.Call (.Attribute o "pop" apos) [] [] cpos) (eM mPop fo aNil) := de_m0 PySem.F.slot_list_pop PySem.F.type_list_pop mt_pop2 mt_pp hG ho hbase hline
end
/-- a law: the walk from its meaning -/
theorem den_walk {l : PySem.W.OpenLaw} {q : Program} {loose : List Str} {XP : (Str → Option Value) → Heap → Prop} {YP : World → Heap → Prop} {d : DefRec} {K : Params → PySem.W.Frag} {ca : World → Nat → Addr} {k : Nat} {f : FV} (hn : l.most = some 63) (hdf : d.params.defaults = []) (hr : Room k callerA)
    (hY : ∀ (w : World) (h : Heap), YP w h → (K w.params).In h)
    (F : ∀ (w : World) (mg : Str → Option Value) (fa : Addr) (h : Heap), (K w.params).In h → h.Ns mainGlobals mg → mg d.name = some (.ref fa) →
      ∃ fd : FuncData, (∀ (s : Shared) (u : Value), BindsTo s fd ⟨[u], []⟩ [("script", u)]) ∧ ∀ base : Heap, (K w.params).In base → base.Ns mainGlobals mg → FnOk l.prog w (K w.params) mg base (L2.CX l.prog w) k fa fd ["script"] (spF ⟨K w.params, ca w, []⟩ 1 f))
    (L : ∀ ns : List Int, ns.length ≤ 63 → ∃ h', f [.scr ns] [] = some (.ok (.bl true), h')) :
    PySem.W.WalkO q loose XP YP l.row.toRowW d [] (fun f vs => PySem.call f vs) :=
  L2.walk_of (n := 63) (k := k) (x := "script") (CX := fun w => L2.CX l.prog w) (sp := fun w => spF ⟨K w.params, ca w, []⟩ 1 f) hn (by decide) hdf hr hY F (fun w H a ns hl hO hS => by
    obtain ⟨h', e⟩ := L ns hl
    refine ⟨[], [], [], [.scr ns], ⟨.nil, fun a h => by (cases h), rfl⟩, ⟨.ref a, [], rfl, ⟨a, rfl, ?_⟩, rfl⟩, rfl, ?_⟩
    · rcases hS with (hS | ⟨o, hS⟩) | hS
      · rcases hO a with z | ⟨o, xs, z⟩
        · rw [hS] at z; cases z
        · rw [hS] at z; cases z
      · exact .inl ⟨o, hS⟩
      · exact .inr hS
    · rw [e]
      exact fun m' H' v _ _ rv => rv) fun w H s e s' h => by
        obtain ⟨_, _, _, _, _, _, _, _, _, _, _, _, z⟩ := h
        exact z
end DL

set_option maxRecDepth 100000
set_option maxHeartbeats 400000
set_option linter.all false
/-! DenW: how meanings are computed. -/
namespace DL
open PySem L2
/-- it ends well, so -/
def Is {α : Type} (r : Res α) (P : α → LH → Prop) : Prop := ∃ a h, r = some (.ok a, h) ∧ P a h
section
variable {α β : Type} {P P' : α → LH → Prop} {a : α} {h : LH} {σ : Env}
@[simp] theorem is_ok : Is (some (.ok a, h)) P ↔ P a h := ⟨fun ⟨_, _, e, p⟩ => by cases e; exact p, fun p => ⟨a, h, rfl, p⟩⟩
@[simp] theorem is_none : Is none P ↔ False := ⟨fun ⟨_, _, e, _⟩ => (by cases e), False.elim⟩
@[simp] theorem is_ex {c : Nat} {x : D} : Is (some (.ex c x, h)) P ↔ False := ⟨fun ⟨_, _, e, _⟩ => (by cases e), False.elim⟩
@[simp] theorem is_bnd {r : Res α} {k : α → LH → Res β} {Q : β → LH → Prop} : Is (bnd r k) Q ↔ Is r fun a h => Is (k a h) Q := by
  match r with
  | none => simp
  | some (.ok a, h) => simp
  | some (.ex c x, h) => simp
theorem Is.mono {r : Res α} (h : Is r P) (k : ∀ a h, P a h → P' a h) : Is r P' := let ⟨a, h', e, p⟩ := h; ⟨a, h', e, k a h' p⟩
@[simp] theorem is_ite {c : Prop} [Decidable c] {r r' : Res α} : Is (if c then r else r') P ↔ if c then Is r P else Is r' P := by split <;> rfl
theorem Is.eq {r : Res α} (h : Is r P) : ∃ a h', r = some (.ok a, h') ∧ P a h' := h
end
section
variable {σ : Env} {h : LH} {f g a b c d fo : EV} {ga : AV} {t u : TV} {s s' : SV} {i j l : Nat} {x y z : D} {xs ys : List D}
@[simp] theorem x_eVar : eVar i σ h = match σ[i]? with | some (some d) => some (.ok d, h) | _ => none := by
  unfold eVar; rfl
@[simp] theorem x_eC : eC d' σ h = some (.ok d', h) := rfl
@[simp] theorem x_e2 {op : D → D → LH → Res D} : e2 op a b σ h = bnd (a σ h) fun x h1 => bnd (b σ h1) fun y h2 => op x y h2 := rfl
@[simp] theorem x_e1 {op : D → LH → Res D} : e1 op a σ h = bnd (a σ h) op := rfl
@[simp] theorem x_tOf : tOf f σ h = bnd (f σ h) fun d h1 => match d with | .bl k => some (.ok k, h1) | _ => none := rfl
@[simp] theorem x_eChain {op op' : D → D → LH → Res D} : eChain op op' a b c σ h = bnd (a σ h) fun x h1 => bnd (b σ h1) fun y h2 => bnd (op x y h2) fun z h3 => match z with
  | .bl true => bnd (c σ h3) fun w h4 => op' y w h4
  | .bl false => some (.ok (.bl false), h3)
  | _ => none := rfl
@[simp] theorem x_eChain3 {op op' op'' : D → D → LH → Res D} : eChain3 op op' op'' a b c d σ h = bnd (a σ h) fun x h1 => bnd (b σ h1) fun y h2 => bnd (op x y h2) fun z h3 => match z with
  | .bl true => bnd (c σ h3) fun w h4 => bnd (op' y w h4) fun z h5 => (match z with
    | .bl true => bnd (d σ h5) fun u h6 => op'' w u h6
    | .bl false => some (.ok (.bl false), h5)
    | _ => none)
  | .bl false => some (.ok (.bl false), h3)
  | _ => none := rfl
@[simp] theorem x_tAnd : tAndD t u σ h = bnd (t σ h) fun k h1 => if k = true then u σ h1 else some (.ok false, h1) := rfl
@[simp] theorem x_tOr : tOrD t u σ h = bnd (t σ h) fun k h1 => if k = true then some (.ok true, h1) else u σ h1 := rfl
@[simp] theorem x_tNot : tNotD t σ h = bnd (t σ h) fun k h1 => some (.ok (!k), h1) := rfl
@[simp] theorem x_tYes : tYesD σ h = some (.ok true, h) := rfl
@[simp] theorem x_eAnd : eAnd f g σ h = bnd (f σ h) fun d h1 => match d with | .bl k => (if k = true then g σ h1 else some (.ok (.bl false), h1)) | _ => none := by
  unfold eAnd
  congr 1
  funext d h1
  cases d with
  | bl k => cases k <;> rfl
  | _ => rfl
@[simp] theorem x_eOr : eOr f g σ h = bnd (f σ h) fun d h1 => match d with | .bl k => (if k = true then some (.ok (.bl true), h1) else g σ h1) | _ => none := by
  unfold eOr
  congr 1
  funext d h1
  cases d with
  | bl k => cases k <;> rfl
  | _ => rfl
@[simp] theorem x_eNot : eNot f σ h = bnd (f σ h) fun d h1 => match d with | .bl k => some (.ok (.bl (!k)), h1) | _ => none := rfl
@[simp] theorem x_eIf : eIf t f g σ h = bnd (t σ h) fun k h1 => if k = true then f σ h1 else g σ h1 := rfl
@[simp] theorem x_aNil : aNil σ h = some (.ok [], h) := rfl
@[simp] theorem x_aCons : aCons f ga σ h = bnd (f σ h) fun x h1 => bnd (ga σ h1) fun xs h2 => some (.ok (x :: xs), h2) := rfl
@[simp] theorem x_eTup : eTup ga σ h = bnd (ga σ h) fun xs h1 => if xs.length ≤ line then some (.ok (.tup xs), h1) else none := rfl
@[simp] theorem x_eLst {mu : Bool} : eLst mu ga σ h = bnd (ga σ h) fun xs h1 => if xs.length ≤ line then newL mu xs h1 else none := rfl
@[simp] theorem x_newT : newL true xs h = some (.ok (.loc h.length), h ++ [.lst xs]) := rfl
@[simp] theorem x_newF : newL false xs h = some (.ok (.lst xs), h) := rfl
@[simp] theorem x_eSl {op : D → Option Int → Option Int → LH → Res D} {lo hi : Env → LH → Res (Option Int)} : eSl op f lo hi σ h = bnd (f σ h) fun x h1 => bnd (lo σ h1) fun l h2 => bnd (hi σ h2) fun u h3 => op x l u h3 := rfl
@[simp] theorem x_pNo : pNo σ h = some (.ok none, h) := rfl
@[simp] theorem x_pSo : pSo f σ h = bnd (f σ h) fun d h1 => match d with | .int i => some (.ok (some i), h1) | _ => none := rfl
@[simp] theorem x_eBi {op : List D → LH → Res D} : eBi op ga σ h = bnd (ga σ h) op := rfl
@[simp] theorem x_eM {op : D → List D → LH → Res D} : eM op fo ga σ h = bnd (fo σ h) fun x h1 => if isLs h1 x = true then bnd (ga σ h1) fun xs h2 => op x xs h2 else none := rfl
@[simp] theorem x_eCall {fv : FV} {dd : List D} : eCall fv dd ga σ h = bnd (ga σ h) fun xs h1 => fv (xs ++ dd) h1 := rfl
@[simp] theorem x_eIsi {T : T0} : eIsi T f σ h = bnd (f σ h) fun d h1 => (tyD h1 d).elim none fun T' => some (.ok (.bl (isT T' T)), h1) := rfl
@[simp] theorem x_eComp {mu : Bool} {it : IV} {gv : GV} {te : EV} {own : List Nat} : eComp mu it gv t te own σ h = bnd (it σ h) fun s h1 => if s.items.length ≤ line then bnd (calmR (compD s gv t te (wipeD σ own) s.items h1)) fun ys h2 => newL mu ys h2 else none := rfl
@[simp] theorem x_sNx : sNx σ h = some (.ok (.nx, σ), h) := rfl
@[simp] theorem x_sBk : sBk σ h = some (.ok (.bk, σ), h) := rfl
@[simp] theorem x_sCt : sCt σ h = some (.ok (.ct, σ), h) := rfl
@[simp] theorem x_sNever : sNever σ h = none := rfl
@[simp] theorem x_sEx : sEx f σ h = bnd (f σ h) fun _ h1 => some (.ok (.nx, σ), h1) := rfl
@[simp] theorem x_sRet : sRet f σ h = bnd (f σ h) fun d h1 => some (.ok (.rt d, σ), h1) := rfl
@[simp] theorem x_sRetN : sRetN σ h = some (.ok (.rt .non, σ), h) := rfl
@[simp] theorem x_sIf : sIf t s s' σ h = bnd (t σ h) fun k h1 => if k = true then s σ h1 else s' σ h1 := rfl
@[simp] theorem x_sSeq : sSeq s s' σ h = bnd (s σ h) (goOn s') := rfl
@[simp] theorem x_goNx : goOn s (.nx, σ) h = s σ h := rfl
@[simp] theorem x_goRt {d' : D} : goOn s (.rt d', σ) h = some (.ok (.rt d', σ), h) := rfl
@[simp] theorem x_goBk : goOn s (.bk, σ) h = some (.ok (.bk, σ), h) := rfl
@[simp] theorem x_goCt : goOn s (.ct, σ) h = some (.ok (.ct, σ), h) := rfl
@[simp] theorem x_sAsg {gv : GV} : sAsg f gv σ h = bnd (f σ h) fun d h1 => bnd (gv d σ h1) fun σ1 h2 => some (.ok (.nx, σ1), h2) := rfl
@[simp] theorem x_gNm : gNm i x σ h = some (.ok (σ.set i (some x)), h) := rfl
@[simp] theorem x_gN : gN [] σ h = some (.ok σ, h) := rfl
@[simp] theorem x_gC {gv : GV} {gs : GsV} : gC gv gs (x :: xs) σ h = bnd (gv x σ h) fun σ1 h1 => gs xs σ1 h1 := rfl
@[simp] theorem x_gTp {gs : GsV} {n : Nat} : gTp gs n (.tup xs) σ h = if xs.length = n then gs xs σ h else none := rfl
def setIt (x : D) (σ : Env) : D → D → LH → Res Env
  | .loc n, .int k, h => (lsAt h n).elim none fun xs => (ixN xs.length k).elim none fun j => some (.ok σ, h.set n (.lst (xs.set j x)))
  | _, _, _ => none
@[simp] theorem x_setIt {n : Nat} {k : Int} : setIt x σ (.loc n) (.int k) h = (lsAt h n).elim none fun xs => (ixN xs.length k).elim none fun j => some (.ok σ, h.set n (.lst (xs.set j x))) := rfl
@[simp] theorem x_gIt {o k : EV} : gIt o k x σ h = bnd (o σ h) fun y h1 => bnd (k σ h1) fun z h2 => setIt x σ y z h2 := by
  unfold gIt
  congr 1
  funext y h1
  congr 1
  funext z h2
  split
  · rename_i n k
    rw [x_setIt]
    unfold lsAt
    cases q : h2[n]? with
    | none => rfl
    | some o => cases o <;> rfl
  · rename_i hne
    unfold setIt
    split
    · rename_i n k
      exact absurd rfl (hne n k rfl)
    · rfl
@[simp] theorem x_sPar : sPar i j ga σ h = bnd (ga σ h) fun xs h1 => match xs with
  | [x, y] => some (.ok (.nx, (σ.set i (some x)).set j (some y)), h1)
  | _ => none := rfl
@[simp] theorem x_sPar3 : sPar3 i j l ga σ h = bnd (ga σ h) fun xs h1 => match xs with
  | [x, y, z] => some (.ok (.nx, ((σ.set i (some x)).set j (some y)).set l (some z)), h1)
  | _ => none := rfl
@[simp] theorem x_sFor {it : IV} {gv : GV} : sFor it gv s σ h = bnd (it σ h) fun sr h1 => forD sr gv s sr.items σ h1 := rfl
@[simp] theorem x_iTup : iTupD f σ h = bnd (f σ h) fun d h1 => match d with | .tup xs => some (.ok ⟨xs, none⟩, h1) | _ => none := rfl
@[simp] theorem x_iLst : iLstD f σ h = bnd (f σ h) fun d h1 => (srcL h1 d).elim none fun s => some (.ok s, h1) := rfl
@[simp] theorem x_iRg1 : iRg1 ga σ h = bnd (ga σ h) fun xs h1 => match xs with | [.int j] => (if rOk j then some (.ok ⟨rngD 0 j.toNat, none⟩, h1) else none) | _ => none := rfl
@[simp] theorem x_iRg2 : iRg2 ga σ h = bnd (ga σ h) fun xs h1 => match xs with | [.int i, .int j] => (if rOk i && rOk j then some (.ok ⟨rngD i (j - i).toNat, none⟩, h1) else none) | _ => none := rfl
/-! operations -/
variable {m n : Int}
@[simp] theorem x_iAdd {mu : Bool} : oAdd mu (.int m) (.int n) h = some (.ok (.int (m + n)), h) := rfl
@[simp] theorem x_iSub : iSub (.int m) (.int n) h = some (.ok (.int (m - n)), h) := rfl
@[simp] theorem x_iMod : iMod (.int m) (.int n) h = if 0 < n then some (.ok (.int (m % n)), h) else none := by
  unfold iMod opI; by_cases z : 0 < n <;> simp [z]
@[simp] theorem x_iDiv : iDiv (.int m) (.int n) h = if divOk n = true then some (.ok (.int (m / n)), h) else none := by
  unfold iDiv opI; by_cases z : divOk n = true <;> simp [z]
@[simp] theorem x_iPow : iPow (.int m) (.int n) h = if powOk m n = true then some (.ok (.int (m ^ n.toNat)), h) else none := by
  unfold iPow opI; by_cases z : powOk m n = true <;> simp [z]
@[simp] theorem x_iMul {mu : Bool} : oMul mu (.int m) (.int n) h = if mulOk m n = true then some (.ok (.int (m * n)), h) else none := by
  unfold oMul; rfl
@[simp] theorem x_cLt : cLt (.int m) (.int n) h = some (.ok (.bl (decide (m < n))), h) := rfl
@[simp] theorem x_cLe : cLe (.int m) (.int n) h = some (.ok (.bl (decide (m ≤ n))), h) := rfl
@[simp] theorem x_cGt : cGt (.int m) (.int n) h = some (.ok (.bl (decide (n < m))), h) := rfl
@[simp] theorem x_cGe : cGe (.int m) (.int n) h = some (.ok (.bl (decide (n ≤ m))), h) := rfl
@[simp] theorem x_oNeg : oNeg (.int m) h = some (.ok (.int (-m)), h) := rfl
@[simp] theorem x_isN : oIsN false x .non h = some (.ok (.bl (isN x)), h) := by unfold oIsN; simp
@[simp] theorem x_notN : oIsN true x .non h = some (.ok (.bl (!isN x)), h) := by unfold oIsN; simp
@[simp] theorem isN_non : isN .non = true := rfl
@[simp] theorem isN_int : isN (.int m) = false := rfl
@[simp] theorem x_bLen : bLen [x] h = (seqA h x).elim none fun xs => some (.ok (.int xs.length), h) := rfl
@[simp] theorem x_bInt : bInt [.int m] h = some (.ok (.int m), h) := rfl
@[simp] theorem x_bIntB {k : Bool} : bInt [.bl k] h = some (.ok (.int (if k then 1 else 0)), h) := rfl
@[simp] theorem x_bAbs : bAbs [.int m] h = some (.ok (.int (if m < 0 then -m else m)), h) := rfl
@[simp] theorem x_bTupT : bTup [.tup xs] h = some (.ok (.tup xs), h) := rfl
@[simp] theorem x_bTupL : bTup [.lst xs] h = some (.ok (.tup xs), h) := rfl
@[simp] theorem x_bTupO {n : Nat} : bTup [.loc n] h = (lsAt h n).elim none fun xs => some (.ok (.tup xs), h) := by
  show (seqL h (.loc n)).elim none _ = _
  rw [show seqL h (.loc n) = lsAt h n from rfl]
@[simp] theorem x_bMax2 : bMax [.int m, .int n] h = some (.ok (.int (max m n)), h) := rfl
@[simp] theorem seqA_tup : seqA h (.tup xs) = some xs := rfl
@[simp] theorem seqA_lst : seqA h (.lst xs) = some xs := rfl
@[simp] theorem seqA_scr {ns : List Int} : seqA h (.scr ns) = some (ns.map D.int) := rfl
@[simp] theorem seqA_loc {n : Nat} : seqA h (.loc n) = lsAt h n := by unfold seqA seqL lstM lsAt; rfl
@[simp] theorem seqL_lst : seqL h (.lst xs) = some xs := rfl
@[simp] theorem seqL_loc {n : Nat} : seqL h (.loc n) = lsAt h n := by unfold seqL lstM lsAt; rfl
@[simp] theorem lstM_lst : lstM h (.lst xs) = some xs := rfl
@[simp] theorem lstM_loc {n : Nat} : lstM h (.loc n) = lsAt h n := by unfold lstM lsAt; rfl
@[simp] theorem isLs_lst : isLs h (.lst xs) = true := rfl
@[simp] theorem isLs_loc {n : Nat} : isLs h (.loc n) = (lsAt h n).isSome := by unfold isLs; rw [lstM_loc]
@[simp] theorem srcL_lst : srcL h (.lst xs) = some ⟨xs, none⟩ := rfl
@[simp] theorem srcL_loc {n : Nat} : srcL h (.loc n) = (lsAt h n).map fun xs => ⟨xs, some n⟩ := by
  have e : srcL h (.loc n) = match h[n]? with | some (.lst xs) => some ⟨xs, some n⟩ | _ => none := rfl
  rw [e]
  unfold lsAt
  cases q : h[n]? with
  | none => rfl
  | some o => cases o <;> rfl
@[simp] theorem x_oIx : oIx x (.int m) h = (seqA h x).elim none fun xs => (atI xs m).elim none fun d => some (.ok d, h) := rfl
theorem lsAt_iff {n : Nat} : lsAt h n = some xs ↔ h[n]? = some (.lst xs) := ⟨lsAt_some, lsAt_of⟩
@[simp] theorem lsAt_new {h : LH} : lsAt (h ++ [.lst xs]) h.length = some xs := lsAt_of (by simp)
theorem lsAt_app {h h' : LH} {n : Nat} (e : lsAt h n = some xs) : lsAt (h ++ h') n = some xs := lsAt_of (by
  have e := lsAt_some e
  rw [List.getElem?_append_left (List.getElem?_eq_some_iff.mp e).1]; exact e)
theorem lsAt_lt {h : LH} {n : Nat} (e : lsAt h n = some xs) : n < h.length := (List.getElem?_eq_some_iff.mp (lsAt_some e)).1
theorem lsAt_set {h : LH} {n k : Nat} (hk : k < h.length) : lsAt (h.set k (.lst ys)) n = if k = n then some ys else lsAt h n := by
  unfold lsAt
  rw [List.getElem?_set]
  by_cases e : k = n
  · subst e
    simp [hk]
  · simp [e]
@[simp] theorem x_app {n : Nat} : mAppend (.loc n) [x] h = (lsAt h n).elim none fun xs => if xs.length < line then some (.ok .non, h.set n (.lst (xs ++ [x]))) else none := rfl
@[simp] theorem x_rem {n : Nat} : mRemove (.loc n) [.int m] h = (lsAt h n).elim none fun xs => (intsD xs).elim none fun ns => if m ∈ ns then some (.ok .non, h.set n (.lst ((ns.erase m).map D.int))) else none := rfl
/-! equality -/
@[simp] theorem topD_int : topD h (.int m) = .int m := rfl
@[simp] theorem topD_tup : topD h (.tup xs) = .tup xs := rfl
@[simp] theorem topD_lst : topD h (.lst xs) = .lst xs := rfl
@[simp] theorem okD_int : okD (.int m) = true := rfl
@[simp] theorem okD_nilT : okD (.tup []) = true := rfl
@[simp] theorem okD_nilL : okD (.lst []) = true := rfl
@[simp] theorem eqD_int : eqD (.int m) (.int n) = decide (m = n) := by
  unfold eqD pyd
  simp only [PyData.eqv]
  by_cases e : m = n <;> simp [e]
@[simp] theorem eqD_nilL : eqD (.lst xs) (.lst []) = xs.isEmpty := by
  cases xs <;> simp [eqD, pyd, pyds, PyData.eqv, PyData.eqvAll]
@[simp] theorem eqD_nilT : eqD (.tup xs) (.tup []) = xs.isEmpty := by
  cases xs <;> simp [eqD, pyd, pyds, PyData.eqv, PyData.eqvAll]
theorem topD_loc {n : Nat} (e : lsAt h n = some xs) : topD h (.loc n) = .lst xs := by
  show (match h[n]? with | some (.lst xs) => D.lst xs | _ => D.loc n) = _
  rw [lsAt_some e]
/-- depth at most n -/
def flat (n : Nat) (x : D) : Prop := ∃ k, dep x = some k ∧ k ≤ n
theorem flat_int {n : Nat} : flat n (.int m) := ⟨0, rfl, Nat.zero_le _⟩
theorem flats : ∀ {xs : List D} {n : Nat}, (∀ x ∈ xs, flat n x) → ∃ k, deps xs = some k ∧ k ≤ n
  | [], n, _ => ⟨0, rfl, Nat.zero_le _⟩
  | x :: xs, n, hx => by
    obtain ⟨k, h1, h2⟩ := hx x List.mem_cons_self
    obtain ⟨k', h3, h4⟩ := flats (xs := xs) fun y hy => hx y (List.mem_cons_of_mem _ hy)
    exact ⟨max k k', by simp [deps, h1, h3], by omega⟩
theorem flat_tup {n : Nat} (hx : ∀ x ∈ xs, flat n x) : flat (n + 1) (.tup xs) := by
  obtain ⟨k, h1, h2⟩ := flats hx
  exact ⟨k + 1, by simp [dep, h1], by omega⟩
theorem flat_lst {n : Nat} (hx : ∀ x ∈ xs, flat n x) : flat (n + 1) (.lst xs) := by
  obtain ⟨k, h1, h2⟩ := flats hx
  exact ⟨k + 1, by simp [dep, h1], by omega⟩
theorem flat_ok {n : Nat} (hx : flat n x) (hn : n ≤ 64) : okD x = true := by
  obtain ⟨k, h1, h2⟩ := hx
  unfold okD
  rw [h1]
  exact decide_eq_true (by omega)
theorem x_oEq (h1 : okD (topD h x) = true) (h2 : okD (topD h y) = true) : oEq x y h = some (.ok (.bl (eqD (topD h x) (topD h y))), h) := by unfold oEq; rw [h1, h2]; rfl
theorem x_oNe (h1 : okD (topD h x) = true) (h2 : okD (topD h y) = true) : oNe x y h = some (.ok (.bl (!eqD (topD h x) (topD h y))), h) := by unfold oNe; rw [h1, h2]; rfl
@[simp] theorem x_oEqI : oEq (.int m) (.int n) h = some (.ok (.bl (decide (m = n))), h) := by rw [x_oEq] <;> simp
@[simp] theorem x_oNeI : oNe (.int m) (.int n) h = some (.ok (.bl (!decide (m = n))), h) := by rw [x_oNe] <;> simp
end
/-! ### loops -/
/-- what a turn of a loop must show -/
def Turn (P : Fl × Env → LH → Prop) (N : Env → LH → Prop) : Fl × Env → LH → Prop := fun r h => match r with
  | (.nx, σ) => N σ h
  | (.ct, σ) => N σ h
  | (.bk, σ) => P (.nx, σ) h
  | (.rt d, σ) => P (.rt d, σ) h
@[simp] theorem turn_nx {P N σ h} : Turn P N (.nx, σ) h = N σ h := rfl
@[simp] theorem turn_ct {P N σ h} : Turn P N (.ct, σ) h = N σ h := rfl
@[simp] theorem turn_bk {P N σ h} : Turn P N (.bk, σ) h = P (.nx, σ) h := rfl
@[simp] theorem turn_rt {P N σ h d} : Turn P N (.rt d, σ) h = P (.rt d, σ) h := rfl
theorem for_is {s : Src} {g : GV} {b : SV} {P : Fl × Env → LH → Prop} (Inv : Nat → Env → LH → Prop) (n : Nat) (hn : s.items.length = n)
    (step : ∀ i x σ h, s.items[i]? = some x → i < n → Inv i σ h → grd s h ∧ Is (g x σ h) fun σ1 h1 => Is (b σ1 h1) (Turn P (Inv (i + 1)))) (fin : ∀ σ h, Inv n σ h → grd s h ∧ P (.nx, σ) h)
    {σ : Env} {h : LH} (h0 : Inv 0 σ h) : Is (forD s g b s.items σ h) P := by
  have go : ∀ (k i : Nat) (σ : Env) (h : LH), k = n - i → i ≤ n → Inv i σ h → Is (forD s g b (s.items.drop i) σ h) P := by
    intro k
    induction k with
    | zero =>
      intro i σ h hk hi inv
      have e : i = n := by omega
      subst e
      obtain ⟨g1, p⟩ := fin σ h inv
      rw [← hn, List.drop_length]
      unfold forD
      rw [if_pos g1]
      exact is_ok.mpr p
    | succ k ih =>
      intro i σ h hk hi inv
      have hlt : i < s.items.length := by omega
      have hx : s.items[i]? = some s.items[i] := List.getElem?_eq_getElem hlt
      obtain ⟨g1, p⟩ := step i _ σ h hx (by omega) inv
      rw [List.drop_eq_getElem_cons hlt]
      unfold forD
      rw [if_pos g1]
      refine is_bnd.mpr (p.mono fun σ1 h1 q => is_bnd.mpr (q.mono fun r h2 q => ?_))
      obtain ⟨f, σ2⟩ := r
      cases f with
      | nx => exact ih (i + 1) σ2 h2 (by omega) (by omega) q
      | ct => exact ih (i + 1) σ2 h2 (by omega) (by omega) q
      | bk => exact is_ok.mpr q
      | rt d => exact is_ok.mpr q
  have := go n 0 σ h (by omega) (Nat.zero_le _) h0
  rw [List.drop_zero] at this
  exact this
/-- over a range -/
theorem forR_is {g : GV} {b : SV} {P : Fl × Env → LH → Prop} (Inv : Nat → Env → LH → Prop) (n : Nat)
    (step : ∀ (i : Nat) σ h, i < n → Inv i σ h → Is (g (.int i) σ h) fun σ1 h1 => Is (b σ1 h1) (Turn P (Inv (i + 1)))) (fin : ∀ σ h, Inv n σ h → P (.nx, σ) h)
    {σ : Env} {h : LH} (h0 : Inv 0 σ h) : Is (forD ⟨rngD 0 n, none⟩ g b (rngD 0 n) σ h) P :=
  for_is (s := ⟨rngD 0 n, none⟩) Inv n (rng_len 0 n) (fun i x σ h hx hi inv => ⟨trivial, by
    obtain ⟨_, rfl⟩ := rng_get hx
    rw [Int.zero_add]
    exact step i σ h hi inv⟩) (fun σ h inv => ⟨trivial, fin σ h inv⟩) h0
/-- a comprehension that changes nothing -/
theorem comp_pure {s : Src} {g : GV} {t : TV} {e : EV} {σ0 : Env} {h : LH} (p : D → Bool) (f : D → D) (gd : grd s h) : ∀ {xs : List D},
    (∀ x ∈ xs, ∃ σ1, g x σ0 h = some (.ok σ1, h) ∧ t σ1 h = some (.ok (p x), h) ∧ (p x = true → e σ1 h = some (.ok (f x), h))) → compD s g t e σ0 xs h = some (.ok ((xs.filter p).map f), h)
  | [], _ => by unfold compD; rw [if_pos gd]; rfl
  | x :: xs, hx => by
    obtain ⟨σ1, h1, h2, h3⟩ := hx x List.mem_cons_self
    have ih := comp_pure p f gd (xs := xs) fun y hy => hx y (List.mem_cons_of_mem _ hy)
    unfold compD
    rw [if_pos gd, h1, bnd_ok, h2, bnd_ok]
    cases hp : p x with
    | true =>
      rw [if_pos rfl, h3 hp, bnd_ok, ih, bnd_ok, List.filter_cons_of_pos hp, List.map_cons]
    | false =>
      rw [if_neg Bool.false_ne_true, ih, List.filter_cons_of_neg (by simp [hp])]
@[simp] theorem calm_ok {α : Type} {a : α} {h : LH} : calmR (some (.ok a, h)) = some (.ok a, h) := rfl
/-- a while with a measure -/
theorem while_is {c : TV} {b : SV} {P : Fl × Env → LH → Prop} (Inv : Nat → Env → LH → Prop)
    (step : ∀ n σ h, Inv n σ h → Is (c σ h) fun k h1 => if k = true then Is (b σ h1) (Turn P fun σ2 h2 => ∃ n', n' < n ∧ Inv n' σ2 h2) else P (.nx, σ) h1) :
    ∀ (f n : Nat) {σ : Env} {h : LH}, n < f → Inv n σ h → Is (whileD c b f σ h) P
  | 0, n, σ, h, hf, _ => absurd hf (Nat.not_lt_zero _)
  | f + 1, n, σ, h, hf, inv => by
    unfold whileD
    refine is_bnd.mpr ((step n σ h inv).mono fun k h1 q => ?_)
    cases k with
    | false =>
      rw [if_neg Bool.false_ne_true] at q ⊢
      exact is_ok.mpr q
    | true =>
      rw [if_pos rfl] at q ⊢
      refine is_bnd.mpr (q.mono fun r h2 q => ?_)
      obtain ⟨fl, σ2⟩ := r
      cases fl with
      | nx => obtain ⟨n', hn, i⟩ := q; exact while_is Inv step f n' (by omega) i
      | ct => obtain ⟨n', hn, i⟩ := q; exact while_is Inv step f n' (by omega) i
      | bk => exact is_ok.mpr q
      | rt d => exact is_ok.mpr q
/-! ### defs -/
/-- a def that keeps what it made -/
theorem fin_is {q : Nat} {b : SV} {ds : List D} {h : LH} {P : D → LH → Prop} (hb : Is (b (ds.map some ++ List.replicate q none) h) fun r h' => match r with
    | (.nx, _) => P .non h'
    | (.rt d, _) => P d h'
    | _ => False) : Is (finD false q b ds h) P := by
  obtain ⟨r, h', e, p⟩ := hb
  unfold finD bodyD
  rw [e]
  obtain ⟨f, σ⟩ := r
  cases f with
  | nx => exact is_ok.mpr p
  | rt d => exact is_ok.mpr p
  | bk => exact p.elim
  | ct => exact p.elim
section
variable {h : LH} {n k f : Nat} {m : Int} {xs ys : List D}
@[simp] theorem frz_non : frz h n (f + 1) .non = some .non := by unfold frz; rfl
@[simp] theorem frz_bl {b : Bool} : frz h n (f + 1) (.bl b) = some (.bl b) := by unfold frz; rfl
@[simp] theorem frz_int : frz h n (f + 1) (.int m) = some (.int m) := by unfold frz; rfl
theorem frz_tup (e : mapO (frz h n f) xs = some ys) : frz h n (f + 1) (.tup xs) = some (.tup ys) := by unfold frz; rw [e]; rfl
theorem frz_lst (e : mapO (frz h n f) xs = some ys) : frz h n (f + 1) (.lst xs) = some (.lst ys) := by unfold frz; rw [e]; rfl
theorem frz_loc (hk : ¬ k < n) (e0 : lsAt h k = some xs) (e : mapO (frz h n f) xs = some ys) : frz h n (f + 1) (.loc k) = some (.lst ys) := by
  unfold frz
  rw [if_neg hk, lsAt_some e0]
  show (mapO (frz h n f) xs).map D.lst = _
  rw [e]
  rfl
theorem mapO_same {g : D → Option D} : ∀ {xs : List D}, (∀ x ∈ xs, g x = some x) → mapO g xs = some xs
  | [], _ => rfl
  | x :: xs, h => by
    unfold mapO
    rw [h x List.mem_cons_self, mapO_same fun y hy => h y (List.mem_cons_of_mem _ hy)]
    rfl
end
/-- a def that drops it -/
theorem fing_is {q : Nat} {b : SV} {ds : List D} {h : LH} {P : D → LH → Prop} (hb : Is (b (ds.map some ++ List.replicate q none) h) fun r h' => gcOk h h' ∧ match r with
    | (.nx, _) => P .non (h'.take h.length)
    | (.rt d, _) => ∃ d', frz h' h.length 64 d = some d' ∧ P d' (h'.take h.length)
    | _ => False) : Is (finD true q b ds h) P := by
  obtain ⟨r, h', e, ok, p⟩ := hb
  have go : ∀ d d', frz h' h.length 64 d = some d' → P d' (h'.take h.length) → Is (gcR h (some (.ok d, h'))) P := fun d d' hd p => by
    unfold gcR
    dsimp only
    rw [if_pos ok, hd]
    exact is_ok.mpr p
  have ef : finD true q b ds h = gcR h (bodyD q b ds h) := if_pos rfl
  rw [ef]
  unfold bodyD
  rw [e]
  obtain ⟨f, σ⟩ := r
  cases f with
  | nx => exact go .non .non frz_non p
  | rt d =>
    obtain ⟨d', hd, p⟩ := p
    exact go d d' hd p
  | bk => exact p.elim
  | ct => exact p.elim
end DL

set_option maxHeartbeats 1000000
namespace K55
open PySem PySem.Spec L2 DL
open PyProof.Rows hiding St
/-! ### the text by places -/
def top (i : Nat) : Stmt := PySem.Challenge.pw_evergreedy_k55_whole_slow_feeders_in_any.main.body.getD i (.Pass ⟨0, 0, 0, 0⟩)
abbrev st__law_box : Stmt := top 23
abbrev st__law_take : Stmt := top 20
abbrev st__law_pick : Stmt := top 21
abbrev st__law_web : Stmt := top 25
abbrev st__law_turns : Stmt := top 26
abbrev st__law_ways : Stmt := top 27
abbrev st__law_rate : Stmt := top 28
abbrev st_common_divisor : Stmt := top 8
abbrev st_is_integer : Stmt := top 4
abbrev st_is_number : Stmt := top 5
abbrev st_is_fraction : Stmt := top 9
abbrev st_is_rate : Stmt := top 10
abbrev st_need_rate : Stmt := top 11
abbrev st_need_numbers : Stmt := top 14
abbrev st_is_slow : Stmt := top 15
abbrev st_stay_bound : Stmt := top 16
abbrev st_trip_bound : Stmt := top 17
abbrev st_wait_bound : Stmt := top 18
abbrev st__law_room : Stmt := top 29
abbrev st__law_going : Stmt := top 30
abbrev st__law_played : Stmt := top 31
abbrev st_law : Stmt := top 32
/-! ### what the defs mean -/
noncomputable def m__law_box : SV := sSeq (sAsg (e2 (oAdd false) (e2 (oMul false) (eC (.int 5501)) (eVar 1)) (eC (.int 3307))) (gNm 2)) (sSeq (sIf (tOf (e2 cLt (eVar 1) (eBi bLen (aCons (eVar 0) (aNil))))) (sAsg (e2 iMod (eBi bInt (aCons (eBi bAbs (aCons (e2 oIx (eVar 0) (eVar 1)) (aNil))) (aNil))) (e2 (oMul false) (e2 (oMul false) (e2 iPow (eC (.int 10)) (eC (.int 60))) (e2 iPow (eC (.int 10)) (eC (.int 60)))) (e2 iPow (eC (.int 10)) (eC (.int 60))))) (gNm 2)) (sIf (tOf (e2 cGt (eBi bLen (aCons (eVar 0) (aNil))) (eC (.int 0)))) (sAsg (e2 (oAdd false) (eVar 2) (e2 (oMul false) (e2 iMod (eBi bInt (aCons (eBi bAbs (aCons (e2 oIx (eVar 0) (e2 iMod (eBi bInt (aCons (eVar 1) (aNil))) (eBi bLen (aCons (eVar 0) (aNil))))) (aNil))) (aNil))) (eC (.int 2147483629))) (eC (.int 61001)))) (gNm 2)) (sNx))) (sRet (eLst true (aCons (e2 oIx (eLst false (aCons (eC (.int 0)) (aCons (eVar 2) (aNil)))) (eBi bInt (aCons (e2 cGe (eVar 2) (e2 iPow (eC (.int 10)) (eC (.int 18)))) (aNil)))) (aCons (e2 (oAdd false) (e2 iMod (eBi bInt (aCons (e2 (oAdd false) (e2 (oMul false) (e2 iMod (eBi bInt (aCons (eVar 2) (aNil))) (eC (.int 2147483629))) (eC (.int 31013))) (e2 (oMul false) (eC (.int 46021)) (eVar 1))) (aNil))) (eC (.int 2147483629))) (eC (.int 1))) (aCons (eC (.int 0)) (aNil)))))))
noncomputable def f__law_box : FV := finD false 1 m__law_box
noncomputable def m__law_take : SV := sSeq (sIf (tOf (e2 cGt (e2 oIx (eVar 0) (eC (.int 0))) (eC (.int 0)))) (sSeq (sAsg (e2 iMod (eBi bInt (aCons (e2 oIx (eVar 0) (eC (.int 0))) (aNil))) (eVar 1)) (gNm 3)) (sSeq (sAsg (e2 iDiv (e2 oIx (eVar 0) (eC (.int 0))) (eVar 1)) (gIt (eVar 0) (eC (.int 0)))) (sRet (eVar 3)))) (sNx)) (sSeq (sAsg (e2 (oAdd false) (e2 oIx (eVar 0) (eC (.int 2))) (eC (.int 1))) (gIt (eVar 0) (eC (.int 2)))) (sSeq (sAsg (e2 iMod (eBi bInt (aCons (e2 (oAdd false) (e2 (oMul false) (e2 (oAdd false) (e2 oIx (eVar 0) (eC (.int 1))) (e2 (oMul false) (eC (.int 69031)) (e2 oIx (eVar 0) (eC (.int 2))))) (eC (.int 48611))) (eC (.int 911))) (aNil))) (eC (.int 2147483543))) (gNm 2)) (sSeq (sAsg (e2 (oAdd false) (e2 iMod (eBi bInt (aCons (e2 (oAdd false) (e2 (oMul false) (eVar 2) (eC (.int 39019))) (eC (.int 28001))) (aNil))) (eC (.int 2147483629))) (eC (.int 1))) (gIt (eVar 0) (eC (.int 1)))) (sRet (e2 iMod (eBi bInt (aCons (e2 iDiv (e2 (oAdd false) (e2 (oMul false) (eVar 2) (eC (.int 2147483647))) (e2 oIx (eVar 0) (eC (.int 1)))) (eC (.int 3571))) (aNil))) (eVar 1))))))
noncomputable def f__law_take : FV := finD false 2 m__law_take
noncomputable def m__law_pick : SV := sRet (e2 oIx (eVar 1) (eCall f__law_take [] (aCons (eVar 0) (aCons (eBi bLen (aCons (eVar 1) (aNil))) (aNil)))))
noncomputable def f__law_pick : FV := finD false 0 m__law_pick
noncomputable def m__law_web : SV := sSeq (sAsg (e2 (oAdd false) (eC (.int 2)) (eCall f__law_take [] (aCons (eVar 0) (aCons (e2 iSub (eVar 1) (eC (.int 1))) (aNil))))) (gNm 3)) (sSeq (sAsg (eLst true (aNil)) (gNm 4)) (sSeq (sFor (iRg1 (aCons (e2 (oAdd false) (eC (.int 1)) (eCall f__law_take [] (aCons (eVar 0) (aCons (eVar 2) (aNil))))) (aNil))) (gNm 5) (sSeq (sAsg (eCall f__law_take [] (aCons (eVar 0) (aCons (eVar 3) (aNil)))) (gNm 6)) (sSeq (sAsg (e2 iMod (eBi bInt (aCons (e2 (oAdd false) (e2 (oAdd false) (eVar 6) (eC (.int 1))) (eCall f__law_take [] (aCons (eVar 0) (aCons (e2 iSub (eVar 3) (eC (.int 1))) (aNil))))) (aNil))) (eVar 3)) (gNm 7)) (sSeq (sIf (tAndD (tOf (e2 oNe (eVar 4) (eLst false (aNil)))) (tOf (e2 oEq (eCall f__law_take [] (aCons (eVar 0) (aCons (eC (.int 3)) (aNil)))) (eC (.int 0))))) (sAsg (eCall f__law_pick [] (aCons (eVar 0) (aCons (eLst false (aCons (e2 oIx (eVar 4) (e1 oNeg (eC (.int 1)))) (aCons (e1 (oRevA false) (e2 oIx (eVar 4) (e1 oNeg (eC (.int 1))))) (aCons (eTup (aCons (e2 oIx (e2 oIx (eVar 4) (e1 oNeg (eC (.int 1)))) (eC (.int 1))) (aCons (e2 oIx (e2 oIx (eVar 4) (eC (.int 0))) (eC (.int 0))) (aNil)))) (aCons (eCall f__law_pick [] (aCons (eVar 0) (aCons (eVar 4) (aNil)))) (aNil)))))) (aNil)))) (gTp (gC (gNm 6) (gC (gNm 7) (gN))) 2)) (sNx)) (sIf (tOf (e2 oNe (eVar 6) (eVar 7))) (sEx (eM mAppend (eVar 4) (aCons (eTup (aCons (eVar 6) (aCons (eVar 7) (aNil)))) (aNil)))) (sNx)))))) (sRet (eTup (aCons (eVar 3) (aCons (eBi bTup (aCons (eVar 4) (aNil))) (aNil)))))))
noncomputable def f__law_web : FV := finD true 5 m__law_web
noncomputable def m__law_turns : SV := sSeq (sAsg (eLst false (aNil)) (gNm 1)) (sSeq (sFor (iRg1 (aCons (eBi bLen (aCons (eVar 0) (aNil))) (aNil))) (gNm 2) (sAsg (e2 (oAdd false) (eVar 1) (eComp false (iRg1 (aCons (eBi bLen (aCons (eVar 0) (aNil))) (aNil))) (gNm 3) (tAndD (tOf (e2 oNe (eVar 2) (eVar 3))) (tOf (e2 oEq (e2 oIx (e2 oIx (eVar 0) (eVar 2)) (eC (.int 1))) (e2 oIx (e2 oIx (eVar 0) (eVar 3)) (eC (.int 0)))))) (eTup (aCons (eVar 2) (aCons (eVar 3) (aNil)))) [3])) (gNm 1))) (sRet (eVar 1)))
noncomputable def f__law_turns : FV := finD false 3 m__law_turns
noncomputable def m__law_ways : SV := sSeq (sPar 2 3 (aCons (eCall f__law_turns [] (aCons (eVar 1) (aNil))) (aCons (eLst true (aNil)) (aNil)))) (sSeq (sFor (iRg1 (aCons (e2 (oAdd false) (eC (.int 1)) (eCall f__law_take [] (aCons (eVar 0) (aCons (eC (.int 6)) (aNil))))) (aNil))) (gNm 4) (sSeq (sAsg (eLst true (aCons (eCall f__law_take [] (aCons (eVar 0) (aCons (eBi bLen (aCons (eVar 1) (aNil))) (aNil)))) (aNil))) (gNm 5)) (sSeq (sFor (iRg1 (aCons (eCall f__law_take [] (aCons (eVar 0) (aCons (eC (.int 6)) (aNil)))) (aNil))) (gNm 6) (sSeq (sAsg (eComp false (iLstD (eVar 2)) (gTp (gC (gNm 8) (gC (gNm 9) (gN))) 2) (tAndD (tOf (e2 oEq (eVar 8) (e2 oIx (eVar 5) (e1 oNeg (eC (.int 1)))))) (tOf (e2 (oIn true) (eVar 9) (eVar 5)))) (eVar 9) [8, 9]) (gNm 7)) (sIf (tOf (e2 oNe (eVar 7) (eLst false (aNil)))) (sEx (eM mAppend (eVar 5) (aCons (eCall f__law_pick [] (aCons (eVar 0) (aCons (eVar 7) (aNil)))) (aNil)))) (sNx)))) (sEx (eM mAppend (eVar 3) (aCons (eBi bTup (aCons (eVar 5) (aNil))) (aNil))))))) (sRet (eTup (aCons (eVar 3) (aCons (eBi bMax (aCons (eComp false (iLstD (eVar 3)) (gNm 5) (tYesD) (eBi bLen (aCons (eVar 5) (aNil))) [5]) (aNil))) (aNil))))))
noncomputable def f__law_ways : FV := finD true 8 m__law_ways
noncomputable def m__law_rate : SV := sRet (eCall f__law_pick [] (aCons (eVar 0) (aCons (eLst false (aCons (eTup (aCons (eC (.int 1)) (aCons (e2 (oAdd false) (eVar 1) (eC (.int 1))) (aNil)))) (aCons (eTup (aCons (eC (.int 1)) (aCons (e2 (oAdd false) (eVar 1) (eC (.int 1))) (aNil)))) (aCons (eTup (aCons (eC (.int 1)) (aCons (e2 (oAdd false) (eVar 1) (eC (.int 2))) (aNil)))) (aCons (eTup (aCons (eC (.int 2)) (aCons (e2 (oAdd false) (e2 (oMul false) (eC (.int 2)) (eVar 1)) (eC (.int 1))) (aNil)))) (aCons (eTup (aCons (eC (.int 3)) (aCons (e2 (oAdd false) (e2 (oMul false) (eC (.int 3)) (eVar 1)) (eC (.int 1))) (aNil)))) (aNil))))))) (aNil))))
noncomputable def f__law_rate : FV := finD false 0 m__law_rate
noncomputable def m_common_divisor : SV := sSeq (sWhile (tOf (e2 cGt (eVar 1) (eC (.int 0)))) (sPar 0 1 (aCons (eVar 1) (aCons (e2 iMod (eVar 0) (eVar 1)) (aNil))))) (sRet (eVar 0))
noncomputable def f_common_divisor : FV := finD false 0 m_common_divisor
noncomputable def m_is_integer : SV := sRet (eAnd (eIsi .int (eVar 0)) (eNot (eIsi .bl (eVar 0))))
noncomputable def f_is_integer : FV := finD false 0 m_is_integer
noncomputable def m_is_number : SV := sRet (eAnd (eCall f_is_integer [] (aCons (eVar 0) (aNil))) (eAnd (e2 cGe (eVar 0) (eC (.int 0))) (eOr (e2 (oIsN false) (eVar 1) (eC .non)) (e2 cLe (eVar 0) (eVar 1)))))
noncomputable def f_is_number : FV := finD false 0 m_is_number
noncomputable def m_is_fraction : SV := sSeq (sIf (tOrD (tNotD (tOf (eIsi .tup (eVar 0)))) (tOrD (tOf (e2 oNe (eBi bLen (aCons (eVar 0) (aNil))) (eC (.int 2)))) (tNotD (tOf (eBi bAll (aCons (eComp false (iTupD (eVar 0)) (gNm 1) (tYesD) (eCall f_is_number [.non] (aCons (eVar 1) (aNil))) [1]) (aNil))))))) (sRet (eC (.bl false))) (sNx)) (sRet (eAnd (e2 cGt (e2 oIx (eVar 0) (eC (.int 1))) (eC (.int 0))) (e2 oEq (eCall f_common_divisor [] (aCons (e2 oIx (eVar 0) (eC (.int 0))) (aCons (e2 oIx (eVar 0) (eC (.int 1))) (aNil)))) (eC (.int 1)))))
noncomputable def f_is_fraction : FV := finD false 1 m_is_fraction
noncomputable def m_is_rate : SV := sRet (eAnd (eCall f_is_fraction [] (aCons (eVar 0) (aNil))) (eChain3 cLt cLt cLe (eC (.int 0)) (e2 oIx (eVar 0) (eC (.int 0))) (e2 oIx (eVar 0) (eC (.int 1))) (eC (.int 1000))))
noncomputable def f_is_rate : FV := finD false 0 m_is_rate
noncomputable def m_need_rate : SV := sIf (tNotD (tOf (eCall f_is_rate [] (aCons (eVar 0) (aNil))))) (sNever) (sNx)
noncomputable def f_need_rate : FV := finD false 0 m_need_rate
noncomputable def m_need_numbers : SV := sSeq (sEx (eCall f_need_rate [] (aCons (eVar 0) (aNil)))) (sSeq (sIf (tOrD (tNotD (tOf (eCall f_is_number [.non] (aCons (eVar 1) (aNil))))) (tOf (e2 oEq (eVar 1) (eC (.int 0))))) (sNever) (sNx)) (sIf (tOrD (tNotD (tOf (eCall f_is_number [] (aCons (eVar 2) (aCons (eC (.int 60)) (aNil)))))) (tOf (e2 oEq (eVar 2) (eC (.int 0))))) (sNever) (sNx)))
noncomputable def f_need_numbers : FV := finD false 0 m_need_numbers
noncomputable def m_is_slow : SV := sSeq (sEx (eCall f_need_numbers [] (aCons (eVar 0) (aCons (eC (.int 1)) (aCons (eVar 1) (aNil)))))) (sRet (e2 cLt (e2 (oMul false) (e2 oIx (eVar 0) (eC (.int 0))) (eVar 1)) (e2 oIx (eVar 0) (eC (.int 1)))))
noncomputable def f_is_slow : FV := finD false 0 m_is_slow
noncomputable def m_stay_bound : SV := sSeq (sEx (eCall f_need_numbers [] (aCons (eVar 0) (aCons (eVar 1) (aCons (eVar 2) (aNil)))))) (sSeq (sIf (tNotD (tOf (eCall f_is_slow [] (aCons (eVar 0) (aCons (eVar 2) (aNil)))))) (sRet (eC .non)) (sNx)) (sRet (e2 (oAdd false) (e2 iDiv (e2 (oMul false) (e2 iSub (eVar 1) (eC (.int 1))) (e2 oIx (eVar 0) (eC (.int 1)))) (e2 iSub (e2 oIx (eVar 0) (eC (.int 1))) (e2 (oMul false) (e2 oIx (eVar 0) (eC (.int 0))) (eVar 2)))) (eC (.int 1)))))
noncomputable def f_stay_bound : FV := finD false 0 m_stay_bound
noncomputable def m_trip_bound : SV := sSeq (sAsg (eCall f_stay_bound [] (aCons (eVar 0) (aCons (eVar 1) (aCons (eVar 2) (aNil))))) (gNm 3)) (sRet (eIf (tOf (e2 (oIsN false) (eVar 3) (eC .non))) (eC .non) (e2 (oMul false) (eVar 3) (eVar 2))))
noncomputable def f_trip_bound : FV := finD false 1 m_trip_bound
noncomputable def m_wait_bound : SV := sSeq (sAsg (eCall f_trip_bound [] (aCons (eVar 0) (aCons (eVar 1) (aCons (eVar 2) (aNil))))) (gNm 3)) (sRet (eIf (tOf (e2 (oIsN false) (eVar 3) (eC .non))) (eC .non) (e2 (oAdd false) (e2 iDiv (e2 (oMul false) (e2 oIx (eVar 0) (eC (.int 0))) (eVar 3)) (e2 oIx (eVar 0) (eC (.int 1)))) (eVar 1))))
noncomputable def f_wait_bound : FV := finD false 1 m_wait_bound
noncomputable def m__law_room : SV := sRet (eBi bAll (aCons (eComp false (iTupD (eVar 3)) (gNm 4) (tYesD) (e2 cLe (e2 (oAdd false) (e2 oIx (eVar 0) (eVar 4)) (e2 oIx (eVar 1) (eC (.int 1)))) (e2 (oAdd false) (e2 (oMul false) (e2 oIx (eVar 1) (eC (.int 1))) (eVar 2)) (e2 oIx (eVar 1) (eC (.int 0))))) [4]) (aNil)))
noncomputable def f__law_room : FV := finD false 1 m__law_room
noncomputable def m__law_going : SV := sSeq (sIf (tOf (e2 oEq (eVar 1) (eC (.int 0)))) (sRet (e2 oIx (eVar 2) (eC (.int 0)))) (sNx)) (sSeq (sIf (tOf (e2 oEq (eVar 1) (eC (.int 1)))) (sRet (e2 oIx (eVar 2) (e1 oNeg (eC (.int 1))))) (sNx)) (sSeq (sIf (tOf (e2 oEq (eVar 1) (eC (.int 2)))) (sRet (e2 oIx (eBi bMinA (aCons (eComp false (iLstD (eVar 2)) (gNm 5) (tYesD) (eTup (aCons (eBi bLen (aCons (e2 oIx (eVar 4) (eVar 5)) (aNil))) (aCons (eVar 5) (aNil)))) [5]) (aNil))) (eC (.int 1)))) (sNx)) (sSeq (sIf (tOf (e2 oEq (eVar 1) (eC (.int 3)))) (sRet (e2 oIx (eBi bMinA (aCons (eComp false (iLstD (eVar 2)) (gNm 5) (tYesD) (eTup (aCons (e2 iSub (eC (.int 0)) (eBi bLen (aCons (e2 oIx (eVar 4) (eVar 5)) (aNil)))) (aCons (eVar 5) (aNil)))) [5]) (aNil))) (eC (.int 1)))) (sNx)) (sRet (eIf (tOf (e2 oEq (eVar 1) (eC (.int 4)))) (eBi bMax (aCons (eVar 2) (aNil))) (eCall f__law_pick [] (aCons (eVar 0) (aCons (eVar 2) (aNil)))))))))
noncomputable def f__law_going : FV := finD false 1 m__law_going
noncomputable def b1__law_played : SV := sIf (tOf (e2 oNe (e2 oIx (eVar 13) (eVar 22)) (eTup (aNil)))) (sSeq (sEx (eM mAppend (e2 oIx (eVar 12) (e2 oIx (e2 oIx (eVar 13) (eVar 22)) (eC (.int 0)))) (aCons (eVar 22) (aNil)))) (sAsg (e2 (oAdd false) (eVar 18) (eC (.int 1))) (gIt (eVar 15) (eVar 22)))) (sNx)
noncomputable def b2__law_played : SV := sIf (tOf (e2 oNe (e2 oIx (eVar 12) (eVar 20)) (eLst false (aNil)))) (sSeq (sAsg (eCall f__law_going [] (aCons (eVar 0) (aCons (eVar 7) (aCons (e2 oIx (eVar 12) (eVar 20)) (aCons (eVar 15) (aCons (eVar 13) (aNil))))))) (gNm 22)) (sSeq (sIf (tOf (eBi bAny (aCons (eComp false (iLstD (e2 oIx (eVar 12) (eVar 20))) (gNm 26) (tYesD) (e2 cGt (e2 (oAdd false) (e2 iSub (eVar 18) (e2 oIx (eVar 15) (eVar 26))) (eC (.int 1))) (eVar 8)) [26]) (aNil)))) (sRet (eC (.bl false))) (sNx)) (sSeq (sEx (eM mRemove (e2 oIx (eVar 12) (eVar 20)) (aCons (eVar 22) (aNil)))) (sSeq (sAsg (eSl (oSl false) (e2 oIx (eVar 13) (eVar 22)) (pSo (eC (.int 1))) pNo) (gIt (eVar 13) (eVar 22))) (sSeq (sEx (eM mAppend (eVar 21) (aCons (eVar 22) (aNil)))) (sIf (tOf (e2 oEq (e2 oIx (eVar 13) (eVar 22)) (eTup (aNil)))) (sSeq (sEx (eM mRemove (eVar 16) (aCons (eVar 22) (aNil)))) (sIf (tOf (e2 cGt (e2 (oAdd false) (e2 iSub (eVar 18) (e2 oIx (eVar 14) (eVar 22))) (eC (.int 1))) (eVar 9))) (sRet (eC (.bl false))) (sNx))) (sNx))))))) (sNx)
noncomputable def b3__law_played : SV := sIf (tOf (e2 cGt (eBi bLen (aCons (eComp false (iLstD (eVar 16)) (gNm 22) (tOf (e2 (oIn false) (eVar 20) (e2 oIx (eVar 13) (eVar 22)))) (eC (.int 1)) [22]) (aNil))) (eVar 10))) (sRet (eC (.bl false))) (sNx)
noncomputable def b4__law_played : SV := sAsg (e2 (oAdd false) (e2 oIx (eVar 11) (eVar 20)) (e2 oIx (eVar 5) (eC (.int 1)))) (gIt (eVar 11) (eVar 20))
noncomputable def b5__law_played : SV := sSeq (sAsg (eCall f__law_pick [] (aCons (eVar 0) (aCons (eVar 2) (aNil)))) (gNm 23)) (sIf (tAndD (tOf (e2 oEq (eCall f__law_take [] (aCons (eVar 0) (aCons (eVar 17) (aNil)))) (eC (.int 0)))) (tOf (eCall f__law_room [] (aCons (eVar 11) (aCons (eVar 5) (aCons (eVar 6) (aCons (eVar 23) (aNil)))))))) (sSeq (sFor (iTupD (eVar 23)) (gNm 20) (b4__law_played)) (sSeq (sEx (eM mAppend (e2 oIx (eVar 12) (e2 oIx (eVar 23) (eC (.int 0)))) (aCons (eBi bLen (aCons (eVar 13) (aNil))) (aNil)))) (sSeq (sEx (eM mAppend (eVar 16) (aCons (eBi bLen (aCons (eVar 13) (aNil))) (aNil)))) (sAsg (eTup (aCons (e2 (oAdd true) (eVar 13) (eLst false (aCons (eVar 23) (aNil)))) (aCons (e2 (oAdd false) (eVar 14) (eLst false (aCons (eVar 18) (aNil)))) (aCons (e2 (oAdd true) (eVar 15) (eLst false (aCons (eVar 18) (aNil)))) (aNil))))) (gTp (gC (gNm 13) (gC (gNm 14) (gC (gNm 15) (gN)))) 3))))) (sNx))
noncomputable def b6__law_played : SV := sSeq (sFor (iRg1 (aCons (eIf (tOf (e2 cLt (eVar 18) (eVar 4))) (eC (.int 5)) (eC (.int 0))) (aNil))) (gNm 19) (b5__law_played)) (sSeq (sFor (iRg1 (aCons (eBi bLen (aCons (eVar 1) (aNil))) (aNil))) (gNm 20) (b3__law_played)) (sSeq (sAsg (eLst true (aNil)) (gNm 21)) (sSeq (sFor (iRg1 (aCons (eBi bLen (aCons (eVar 1) (aNil))) (aNil))) (gNm 20) (b2__law_played)) (sSeq (sFor (iLstD (eVar 21)) (gNm 22) (b1__law_played)) (sSeq (sAsg (eComp true (iLstD (eVar 11)) (gNm 25) (tYesD) (eBi bMax (aCons (eC (.int 0)) (aCons (e2 iSub (eVar 25) (e2 oIx (eVar 5) (eC (.int 0)))) (aNil)))) [25]) (gNm 11)) (sIf (tAndD (tOf (e2 cGe (eVar 18) (eVar 4))) (tOf (e2 oEq (eVar 16) (eLst false (aNil))))) (sRet (eC (.bl true))) (sNx)))))))
noncomputable def m__law_played : SV := sSeq (sAsg (eTup (aCons (eCall f__law_rate [] (aCons (eVar 0) (aCons (eVar 3) (aNil)))) (aCons (e2 (oAdd false) (eC (.int 1)) (eCall f__law_take [] (aCons (eVar 0) (aCons (eC (.int 4)) (aNil))))) (aCons (eCall f__law_take [] (aCons (eVar 0) (aCons (eC (.int 6)) (aNil)))) (aNil))))) (gTp (gC (gNm 5) (gC (gNm 6) (gC (gNm 7) (gN)))) 3)) (sSeq (sAsg (eTup (aCons (eCall f_stay_bound [] (aCons (eVar 5) (aCons (eVar 6) (aCons (eVar 3) (aNil))))) (aCons (eCall f_trip_bound [] (aCons (eVar 5) (aCons (eVar 6) (aCons (eVar 3) (aNil))))) (aCons (eCall f_wait_bound [] (aCons (eVar 5) (aCons (eVar 6) (aCons (eVar 3) (aNil))))) (aNil))))) (gTp (gC (gNm 8) (gC (gNm 9) (gC (gNm 10) (gN)))) 3)) (sSeq (sPar 11 12 (aCons (eComp true (iTupD (eVar 1)) (gNm 24) (tYesD) (eC (.int 0)) [24]) (aCons (eComp false (iTupD (eVar 1)) (gNm 24) (tYesD) (eLst true (aNil)) [24]) (aNil)))) (sSeq (sAsg (eTup (aCons (eLst true (aNil)) (aCons (eLst false (aNil)) (aCons (eLst true (aNil)) (aCons (eLst true (aNil)) (aCons (eCall f__law_pick [] (aCons (eVar 0) (aCons (eLst false (aCons (eC (.int 1)) (aCons (eC (.int 2)) (aCons (eC (.int 8)) (aNil))))) (aNil)))) (aNil))))))) (gTp (gC (gNm 13) (gC (gNm 14) (gC (gNm 15) (gC (gNm 16) (gC (gNm 17) (gN)))))) 5)) (sSeq (sFor (iRg1 (aCons (e2 (oAdd false) (eVar 4) (eVar 9)) (aNil))) (gNm 18) (b6__law_played)) (sRet (e2 oEq (eVar 16) (eLst false (aNil))))))))
noncomputable def f__law_played : FV := finD true 22 m__law_played
noncomputable def m_law : SV := sSeq (sFor (iRg1 (aCons (eC (.int 2)) (aNil))) (gNm 1) (sSeq (sAsg (eCall f__law_box [] (aCons (eVar 0) (aCons (eVar 1) (aNil)))) (gNm 2)) (sSeq (sAsg (eCall f__law_web [] (aCons (eVar 2) (aCons (eC (.int 6)) (aCons (eC (.int 10)) (aNil))))) (gTp (gC (gNm 3) (gC (gNm 4) (gN))) 2)) (sSeq (sIf (tOf (e2 oEq (eVar 4) (eTup (aNil)))) (sAsg (eTup (aCons (eTup (aCons (eC (.int 0)) (aCons (eC (.int 1)) (aNil)))) (aNil))) (gNm 4)) (sNx)) (sSeq (sAsg (eCall f__law_ways [] (aCons (eVar 2) (aCons (eVar 4) (aNil)))) (gTp (gC (gNm 5) (gC (gNm 6) (gN))) 2)) (sIf (tNotD (tOf (eCall f__law_played [] (aCons (eVar 2) (aCons (eVar 4) (aCons (eVar 5) (aCons (eVar 6) (aCons (eC (.int 40)) (aNil))))))))) (sRet (eC (.bl false))) (sNx))))))) (sRet (eC (.bl true)))
noncomputable def f_law : FV := finD false 6 m_law
/-! ### what the top has written -/
structure Txt (K : PySem.W.Frag) (mg : Str → Option Value) where
  f__law_box : FnF K mg "_law_box" "_law_box" st__law_box []
  f__law_take : FnF K mg "_law_take" "_law_take" st__law_take []
  f__law_pick : FnF K mg "_law_pick" "_law_pick" st__law_pick []
  f__law_web : FnF K mg "_law_web" "_law_web" st__law_web []
  f__law_turns : FnF K mg "_law_turns" "_law_turns" st__law_turns []
  f__law_ways : FnF K mg "_law_ways" "_law_ways" st__law_ways []
  f__law_rate : FnF K mg "_law_rate" "_law_rate" st__law_rate []
  f_common_divisor : FnF K mg "common_divisor" "common_divisor" st_common_divisor []
  f_is_integer : FnF K mg "is_integer" "is_integer" st_is_integer []
  f_is_number : FnF K mg "is_number" "is_number" st_is_number [V.non]
  f_is_fraction : FnF K mg "is_fraction" "is_fraction" st_is_fraction []
  f_is_rate : FnF K mg "is_rate" "is_rate" st_is_rate []
  f_need_rate : FnF K mg "need_rate" "need_rate" st_need_rate []
  f_need_numbers : FnF K mg "need_numbers" "need_numbers" st_need_numbers []
  f_is_slow : FnF K mg "is_slow" "is_slow" st_is_slow []
  f_stay_bound : FnF K mg "stay_bound" "stay_bound" st_stay_bound []
  f_trip_bound : FnF K mg "trip_bound" "trip_bound" st_trip_bound []
  f_wait_bound : FnF K mg "wait_bound" "wait_bound" st_wait_bound []
  f__law_room : FnF K mg "_law_room" "_law_room" st__law_room []
  f__law_going : FnF K mg "_law_going" "_law_going" st__law_going []
  f__law_played : FnF K mg "_law_played" "_law_played" st__law_played []
  f_law : FnF K mg "law" "law" st_law []
  b_abs : mg "abs" = none
  b_all : mg "all" = none
  b_any : mg "any" = none
  b_bool : mg "bool" = none
  b_int : mg "int" = none
  b_isinstance : mg "isinstance" = none
  b_len : mg "len" = none
  b_max : mg "max" = none
  b_min : mg "min" = none
  b_range : mg "range" = none
  b_tuple : mg "tuple" = none
  c_MOST_BELTS_OF_WAY : ∃ u, mg "MOST_BELTS_OF_WAY" = some u ∧ RelV (V.int 60) u
  c_MOST_BOTTOM : ∃ u, mg "MOST_BOTTOM" = some u ∧ RelV (V.int 1000) u
/-! ### each def does what it means -/
section
variable {P : Program} {w : World} {K : PySem.W.Frag} {mg : Str → Option Value} {base : Heap} {ca : Nat → Addr}
theorem sc__law_box : FnScope ["script", "k", "cell"] ["script", "k"] (defScope st__law_box) := ⟨rfl, rfl, rfl, by decide +kernel, rfl, by decide +kernel, by decide +kernel⟩
theorem bd__law_box (T : Txt K mg) : Binds K T.f__law_box.fd ["script", "k"] [] := T.f__law_box.F.bindsN fun _ _ _ _ _ _ us hl => match us, hl with | [_, _], _ => rfl
set_option maxHeartbeats 2000000 in
theorem ok__law_box (T : Txt K mg) : FnOk P w K mg base (L2.CX P w) 1 T.f__law_box.f T.f__law_box.fd ["script", "k"] (spF ⟨K, ca, []⟩ 2 f__law_box) := by
  refine fn_def (k := 0) false T.f__law_box sc__law_box rfl fun Z cdv A outer s H E hr => ?_
  have nd := (sc__law_box).nd
  exact dss_cons (ds_set (i := 2) nd (de_add false rfl (de_mul false (de_int) (de_var 1)) (de_int))) (dss_cons (ds_if (dt_lt (de_var 1) (de_len rfl T.b_len (da_cons (de_var 0) (da_nil)))) (dss_one (ds_set (i := 2) nd (de_mod (de_int1 T.b_int (da_cons (de_abs T.b_abs (da_cons (de_ix (de_var 0) (de_var 1) rfl (fun _ _ => rfl)) (da_nil))) (da_nil))) (de_mul false (de_mul false (de_pow (de_int) (de_int)) (de_pow (de_int) (de_int))) (de_pow (de_int) (de_int)))))) (dss_one (ds_if (dt_gt (de_len rfl T.b_len (da_cons (de_var 0) (da_nil))) (de_int)) (dss_one (ds_set (i := 2) nd (de_add false rfl (de_var 2) (de_mul false (de_mod (de_int1 T.b_int (da_cons (de_abs T.b_abs (da_cons (de_ix (de_var 0) (de_mod (de_int1 T.b_int (da_cons (de_var 1) (da_nil))) (de_len rfl T.b_len (da_cons (de_var 0) (da_nil)))) rfl (fun _ _ => rfl)) (da_nil))) (da_nil))) (de_int)) (de_int))))) (dss_nil)))) (dss_one (ds_ret (de_lst (mu := true) (da_cons (de_ix (de_lst (mu := false) (da_cons (de_int) (da_cons (de_var 2) (da_nil)))) (de_int1 T.b_int (da_cons (de_ge (de_var 2) (de_pow (de_int) (de_int))) (da_nil))) rfl (fun _ _ => rfl)) (da_cons (de_add false rfl (de_mod (de_int1 T.b_int (da_cons (de_add false rfl (de_mul false (de_mod (de_int1 T.b_int (da_cons (de_var 2) (da_nil))) (de_int)) (de_int)) (de_mul false (de_int) (de_var 1))) (da_nil))) (de_int)) (de_int)) (da_cons (de_int) (da_nil))))))))
theorem sc__law_take : FnScope ["box", "many", "raw", "digit"] ["box", "many"] (defScope st__law_take) := ⟨rfl, rfl, rfl, by decide +kernel, rfl, by decide +kernel, by decide +kernel⟩
theorem bd__law_take (T : Txt K mg) : Binds K T.f__law_take.fd ["box", "many"] [] := T.f__law_take.F.bindsN fun _ _ _ _ _ _ us hl => match us, hl with | [_, _], _ => rfl
set_option maxHeartbeats 2000000 in
theorem ok__law_take (T : Txt K mg) : FnOk P w K mg base (L2.CX P w) 1 T.f__law_take.f T.f__law_take.fd ["box", "many"] (spF ⟨K, ca, []⟩ 2 f__law_take) := by
  refine fn_def (k := 0) false T.f__law_take sc__law_take rfl fun Z cdv A outer s H E hr => ?_
  have nd := (sc__law_take).nd
  exact dss_cons (ds_if (dt_gt (de_ix (de_var 0) (de_int) rfl (fun _ _ => rfl)) (de_int)) (dss_cons (ds_set (i := 3) nd (de_mod (de_int1 T.b_int (da_cons (de_ix (de_var 0) (de_int) rfl (fun _ _ => rfl)) (da_nil))) (de_var 1))) (dss_cons (ds_asg (de_div (de_ix (de_var 0) (de_int) rfl (fun _ _ => rfl)) (de_var 1)) (dg_item (de_var 0) (de_int))) (dss_one (ds_ret (de_var 3))))) (dss_nil)) (dss_cons (ds_asg (de_add false rfl (de_ix (de_var 0) (de_int) rfl (fun _ _ => rfl)) (de_int)) (dg_item (de_var 0) (de_int))) (dss_cons (ds_set (i := 2) nd (de_mod (de_int1 T.b_int (da_cons (de_add false rfl (de_mul false (de_add false rfl (de_ix (de_var 0) (de_int) rfl (fun _ _ => rfl)) (de_mul false (de_int) (de_ix (de_var 0) (de_int) rfl (fun _ _ => rfl)))) (de_int)) (de_int)) (da_nil))) (de_int))) (dss_cons (ds_asg (de_add false rfl (de_mod (de_int1 T.b_int (da_cons (de_add false rfl (de_mul false (de_var 2) (de_int)) (de_int)) (da_nil))) (de_int)) (de_int)) (dg_item (de_var 0) (de_int))) (dss_one (ds_ret (de_mod (de_int1 T.b_int (da_cons (de_div (de_add false rfl (de_mul false (de_var 2) (de_int)) (de_ix (de_var 0) (de_int) rfl (fun _ _ => rfl))) (de_int)) (da_nil))) (de_var 1)))))))
theorem sc__law_pick : FnScope ["box", "some"] ["box", "some"] (defScope st__law_pick) := ⟨rfl, rfl, rfl, by decide +kernel, rfl, by decide +kernel, by decide +kernel⟩
theorem bd__law_pick (T : Txt K mg) : Binds K T.f__law_pick.fd ["box", "some"] [] := T.f__law_pick.F.bindsN fun _ _ _ _ _ _ us hl => match us, hl with | [_, _], _ => rfl
set_option maxHeartbeats 2000000 in
theorem ok__law_pick (T : Txt K mg) : FnOk P w K mg base (L2.CX P w) 2 T.f__law_pick.f T.f__law_pick.fd ["box", "some"] (spF ⟨K, ca, []⟩ 2 f__law_pick) := by
  refine fn_def (k := 1) false T.f__law_pick sc__law_pick rfl fun Z cdv A outer s H E hr => ?_
  have nd := (sc__law_pick).nd
  exact dss_one (ds_ret (de_ix (de_var 1) (de_call (ok__law_take T) (hr.mono (by decide)) rfl T.f__law_take.g T.f__law_take.F.kp (bd__law_take T) .nil (fun _ _ _ => rfl) rfl (al_cons (al_cons al_nil)) (takes_of rfl rfl rfl rfl) (da_cons (de_var 0) (da_cons (de_len rfl T.b_len (da_cons (de_var 1) (da_nil))) (da_nil)))) rfl (fun _ _ => rfl)))
theorem sc__law_web : FnScope ["box", "most", "many", "places", "belts", "k", "a", "b"] ["box", "most", "many"] (defScope st__law_web) := ⟨rfl, rfl, rfl, by decide +kernel, rfl, by decide +kernel, by decide +kernel⟩
theorem bd__law_web (T : Txt K mg) : Binds K T.f__law_web.fd ["box", "most", "many"] [] := T.f__law_web.F.bindsN fun _ _ _ _ _ _ us hl => match us, hl with | [_, _, _], _ => rfl
set_option maxHeartbeats 2000000 in
theorem ok__law_web (T : Txt K mg) : FnOk P w K mg base (L2.CX P w) 3 T.f__law_web.f T.f__law_web.fd ["box", "most", "many"] (spF ⟨K, ca, []⟩ 3 f__law_web) := by
  refine fn_def (k := 2) true T.f__law_web sc__law_web rfl fun Z cdv A outer s H E hr => ?_
  have nd := (sc__law_web).nd
  exact dss_cons (ds_set (i := 3) nd (de_add false rfl (de_int) (de_call (ok__law_take T) (hr.mono (by decide)) rfl T.f__law_take.g T.f__law_take.F.kp (bd__law_take T) .nil (fun _ _ _ => rfl) rfl (al_cons (al_cons al_nil)) (takes_of rfl rfl rfl rfl) (da_cons (de_var 0) (da_cons (de_sub (de_var 1) (de_int)) (da_nil)))))) (dss_cons (ds_set (i := 4) nd (de_lst (mu := true) (da_nil))) (dss_cons (ds_for (passes_of rfl) rfl (di_range1 rfl T.b_range (da_cons (de_add false rfl (de_int) (de_call (ok__law_take T) (hr.mono (by decide)) rfl T.f__law_take.g T.f__law_take.F.kp (bd__law_take T) .nil (fun _ _ _ => rfl) rfl (al_cons (al_cons al_nil)) (takes_of rfl rfl rfl rfl) (da_cons (de_var 0) (da_cons (de_var 2) (da_nil))))) (da_nil))) (dg_name (i := 5) nd) (dss_cons (ds_set (i := 6) nd (de_call (ok__law_take T) (hr.mono (by decide)) rfl T.f__law_take.g T.f__law_take.F.kp (bd__law_take T) .nil (fun _ _ _ => rfl) rfl (al_cons (al_cons al_nil)) (takes_of rfl rfl rfl rfl) (da_cons (de_var 0) (da_cons (de_var 3) (da_nil))))) (dss_cons (ds_set (i := 7) nd (de_mod (de_int1 T.b_int (da_cons (de_add false rfl (de_add false rfl (de_var 6) (de_int)) (de_call (ok__law_take T) (hr.mono (by decide)) rfl T.f__law_take.g T.f__law_take.F.kp (bd__law_take T) .nil (fun _ _ _ => rfl) rfl (al_cons (al_cons al_nil)) (takes_of rfl rfl rfl rfl) (da_cons (de_var 0) (da_cons (de_sub (de_var 3) (de_int)) (da_nil))))) (da_nil))) (de_var 3))) (dss_cons (ds_if (dw_pt (dw_and (dt_ne rfl (ru64 hr) (de_var 4) (de_lst (mu := false) (da_nil))) (dw_and1 (dt_eq rfl (ru64 hr) (de_call (ok__law_take T) (hr.mono (by decide)) rfl T.f__law_take.g T.f__law_take.F.kp (bd__law_take T) .nil (fun _ _ _ => rfl) rfl (al_cons (al_cons al_nil)) (takes_of rfl rfl rfl rfl) (da_cons (de_var 0) (da_cons (de_int) (da_nil)))) (de_int))))) (dss_one (ds_asg (de_call (ok__law_pick T) (hr.mono (by decide)) rfl T.f__law_pick.g T.f__law_pick.F.kp (bd__law_pick T) .nil (fun _ _ _ => rfl) rfl (al_cons (al_cons al_nil)) (takes_of rfl rfl rfl rfl) (da_cons (de_var 0) (da_cons (de_lst (mu := false) (da_cons (de_ix (de_var 4) (de_neg (de_int)) rfl (fun _ _ => rfl)) (da_cons (de_rev false rfl (de_ix (de_var 4) (de_neg (de_int)) rfl (fun _ _ => rfl))) (da_cons (de_tup (da_cons (de_ix (de_ix (de_var 4) (de_neg (de_int)) rfl (fun _ _ => rfl)) (de_int) rfl (fun _ _ => rfl)) (da_cons (de_ix (de_ix (de_var 4) (de_int) rfl (fun _ _ => rfl)) (de_int) rfl (fun _ _ => rfl)) (da_nil)))) (da_cons (de_call (ok__law_pick T) (hr.mono (by decide)) rfl T.f__law_pick.g T.f__law_pick.F.kp (bd__law_pick T) .nil (fun _ _ _ => rfl) rfl (al_cons (al_cons al_nil)) (takes_of rfl rfl rfl rfl) (da_cons (de_var 0) (da_cons (de_var 4) (da_nil)))) (da_nil)))))) (da_nil)))) (dg_tup rfl rfl (dgs_cons (dg_name (i := 6) nd) (dgs_cons (dg_name (i := 7) nd) (dgs_nil) nx_nil) (nx_cons (fun d σ h => nx_nm d 7 σ h) (nx_nil)))))) (dss_nil)) (dss_one (ds_if (dt_ne rfl (ru64 hr) (de_var 6) (de_var 7)) (dss_one (ds_expr (de_append rfl (de_var 4) (da_cons (de_tup (da_cons (de_var 6) (da_cons (de_var 7) (da_nil)))) (da_nil))))) (dss_nil))))))) (dss_one (ds_ret (de_tup (da_cons (de_var 3) (da_cons (de_tuple rfl T.b_tuple (da_cons (de_var 4) (da_nil))) (da_nil))))))))
theorem sc__law_turns : FnScope ["belts", "found", "e", "f"] ["belts"] (defScope st__law_turns) := ⟨rfl, rfl, rfl, by decide +kernel, rfl, by decide +kernel, by decide +kernel⟩
theorem bd__law_turns (T : Txt K mg) : Binds K T.f__law_turns.fd ["belts"] [] := T.f__law_turns.F.bindsN fun _ _ _ _ _ _ us hl => match us, hl with | [_], _ => rfl
set_option maxHeartbeats 2000000 in
theorem ok__law_turns (T : Txt K mg) : FnOk P w K mg base (L2.CX P w) 1 T.f__law_turns.f T.f__law_turns.fd ["belts"] (spF ⟨K, ca, []⟩ 1 f__law_turns) := by
  refine fn_def (k := 0) false T.f__law_turns sc__law_turns rfl fun Z cdv A outer s H E hr => ?_
  have nd := (sc__law_turns).nd
  exact dss_cons (ds_set (i := 1) nd (de_lst (mu := false) (da_nil))) (dss_cons (ds_for (passes_of rfl) rfl (di_range1 rfl T.b_range (da_cons (de_len rfl T.b_len (da_cons (de_var 0) (da_nil))) (da_nil))) (dg_name (i := 2) nd) (dss_one (ds_set (i := 1) nd (de_add false rfl (de_var 1) (de_comp false (own := [("f", 3)]) (g0 := gName 3) rfl nd (by exact blkOk_by (N := ["belts", "found", "e", "f"]) (sc := defScope st__law_turns) (by decide +kernel)) (di_range1 rfl T.b_range (da_cons (de_len rfl T.b_len (da_cons (de_var 0) (da_nil))) (da_nil))) (natg_name (by decide)) (fun _ _ _ _ _ => pg_name (i := 3) nd rfl (by first | exact Or.inl rfl | exact Or.inr rfl)) (fun _ _ _ _ _ _ => dts_one (dw_pt (dw_and (dt_ne rfl (ru64 hr) (de_var 2) (de_var 3)) (dw_and1 (dt_eq rfl (ru64 hr) (de_ix (de_ix (de_var 0) (de_var 2) rfl (fun _ _ => rfl)) (de_int) rfl (fun _ _ => rfl)) (de_ix (de_ix (de_var 0) (de_var 3) rfl (fun _ _ => rfl)) (de_int) rfl (fun _ _ => rfl))))))) (fun _ _ _ _ _ _ => de_tup (da_cons (de_var 2) (da_cons (de_var 3) (da_nil))))))))) (dss_one (ds_ret (de_var 1))))
theorem sc__law_ways : FnScope ["box", "belts", "turns", "ways", "k", "way", "turn", "on", "e", "f"] ["box", "belts"] (defScope st__law_ways) := ⟨rfl, rfl, rfl, by decide +kernel, rfl, by decide +kernel, by decide +kernel⟩
theorem bd__law_ways (T : Txt K mg) : Binds K T.f__law_ways.fd ["box", "belts"] [] := T.f__law_ways.F.bindsN fun _ _ _ _ _ _ us hl => match us, hl with | [_, _], _ => rfl
set_option maxHeartbeats 2000000 in
theorem ok__law_ways (T : Txt K mg) : FnOk P w K mg base (L2.CX P w) 3 T.f__law_ways.f T.f__law_ways.fd ["box", "belts"] (spF ⟨K, ca, []⟩ 2 f__law_ways) := by
  refine fn_def (k := 2) true T.f__law_ways sc__law_ways rfl fun Z cdv A outer s H E hr => ?_
  have nd := (sc__law_ways).nd
  exact dss_cons (ds_par (i := 2) (j := 3) rfl nd rfl rfl (by decide) rfl rfl (da_cons (de_call (ok__law_turns T) (hr.mono (by decide)) rfl T.f__law_turns.g T.f__law_turns.F.kp (bd__law_turns T) .nil (fun _ _ _ => rfl) rfl (al_cons al_nil) (takes_of rfl rfl rfl rfl) (da_cons (de_var 1) (da_nil))) (da_cons (de_lst (mu := true) (da_nil)) (da_nil))) rfl) (dss_cons (ds_for (passes_of rfl) rfl (di_range1 rfl T.b_range (da_cons (de_add false rfl (de_int) (de_call (ok__law_take T) (hr.mono (by decide)) rfl T.f__law_take.g T.f__law_take.F.kp (bd__law_take T) .nil (fun _ _ _ => rfl) rfl (al_cons (al_cons al_nil)) (takes_of rfl rfl rfl rfl) (da_cons (de_var 0) (da_cons (de_int) (da_nil))))) (da_nil))) (dg_name (i := 4) nd) (dss_cons (ds_set (i := 5) nd (de_lst (mu := true) (da_cons (de_call (ok__law_take T) (hr.mono (by decide)) rfl T.f__law_take.g T.f__law_take.F.kp (bd__law_take T) .nil (fun _ _ _ => rfl) rfl (al_cons (al_cons al_nil)) (takes_of rfl rfl rfl rfl) (da_cons (de_var 0) (da_cons (de_len rfl T.b_len (da_cons (de_var 1) (da_nil))) (da_nil)))) (da_nil)))) (dss_cons (ds_for (passes_of rfl) rfl (di_range1 rfl T.b_range (da_cons (de_call (ok__law_take T) (hr.mono (by decide)) rfl T.f__law_take.g T.f__law_take.F.kp (bd__law_take T) .nil (fun _ _ _ => rfl) rfl (al_cons (al_cons al_nil)) (takes_of rfl rfl rfl rfl) (da_cons (de_var 0) (da_cons (de_int) (da_nil)))) (da_nil))) (dg_name (i := 6) nd) (dss_cons (ds_setLc false (own := [("e", 8), ("f", 9)]) (g0 := gTup K 2 (gCons (gName 8) (gCons (gName 9) (gNil)))) (i := 7) rfl nd rfl rfl (sw_true rfl rfl rfl (by decide +kernel)) (by exact blkOk_by (N := ["box", "belts", "turns", "ways", "k", "way", "turn", "on", "e", "f"]) (sc := defScope st__law_ways) (by decide +kernel)) (di_list rfl (de_var 2)) (natg_tup (natgs_cons (natg_name (by decide)) (natgs_cons (natg_name (by decide)) (natgs_nil)))) (fun _ _ _ _ _ => pg_tup rfl (pgs_cons (pg_name (i := 8) nd rfl (by first | exact Or.inl rfl | exact Or.inr rfl)) (pgs_cons (pg_name (i := 9) nd rfl (by first | exact Or.inl rfl | exact Or.inr rfl)) (pgs_nil)))) (fun _ _ _ _ _ _ => dts_one (dw_pt (dw_and (dt_eq rfl (ru64 hr) (de_var 8) (de_ix (de_var 5) (de_neg (de_int)) rfl (fun _ _ => rfl))) (dw_and1 (dt_nin rfl (ru65 hr) (de_var 9) (de_var 5)))))) (fun _ _ _ _ _ _ => de_var 9)) (dss_one (ds_if (dt_ne rfl (ru64 hr) (de_var 7) (de_lst (mu := false) (da_nil))) (dss_one (ds_expr (de_append rfl (de_var 5) (da_cons (de_call (ok__law_pick T) (hr.mono (by decide)) rfl T.f__law_pick.g T.f__law_pick.F.kp (bd__law_pick T) .nil (fun _ _ _ => rfl) rfl (al_cons (al_cons al_nil)) (takes_of rfl rfl rfl rfl) (da_cons (de_var 0) (da_cons (de_var 7) (da_nil)))) (da_nil))))) (dss_nil))))) (dss_one (ds_expr (de_append rfl (de_var 3) (da_cons (de_tuple rfl T.b_tuple (da_cons (de_var 5) (da_nil))) (da_nil)))))))) (dss_one (ds_ret (de_tup (da_cons (de_var 3) (da_cons (de_max rfl rfl T.b_max (da_cons (de_comp false (own := [("way", 5)]) (g0 := gName 5) rfl nd (by exact blkOk_by (N := ["box", "belts", "turns", "ways", "k", "way", "turn", "on", "e", "f"]) (sc := defScope st__law_ways) (by decide +kernel)) (di_list rfl (de_var 3)) (natg_name (by decide)) (fun _ _ _ _ _ => pg_name (i := 5) nd rfl (by first | exact Or.inl rfl | exact Or.inr rfl)) (fun _ _ _ _ _ _ => dts_nil) (fun _ _ _ _ _ _ => de_len rfl T.b_len (da_cons (de_var 5) (da_nil)))) (da_nil))) (da_nil)))))))
theorem sc__law_rate : FnScope ["box", "d"] ["box", "d"] (defScope st__law_rate) := ⟨rfl, rfl, rfl, by decide +kernel, rfl, by decide +kernel, by decide +kernel⟩
theorem bd__law_rate (T : Txt K mg) : Binds K T.f__law_rate.fd ["box", "d"] [] := T.f__law_rate.F.bindsN fun _ _ _ _ _ _ us hl => match us, hl with | [_, _], _ => rfl
set_option maxHeartbeats 2000000 in
theorem ok__law_rate (T : Txt K mg) : FnOk P w K mg base (L2.CX P w) 3 T.f__law_rate.f T.f__law_rate.fd ["box", "d"] (spF ⟨K, ca, []⟩ 2 f__law_rate) := by
  refine fn_def (k := 2) false T.f__law_rate sc__law_rate rfl fun Z cdv A outer s H E hr => ?_
  have nd := (sc__law_rate).nd
  exact dss_one (ds_ret (de_call (ok__law_pick T) (hr.mono (by decide)) rfl T.f__law_pick.g T.f__law_pick.F.kp (bd__law_pick T) .nil (fun _ _ _ => rfl) rfl (al_cons (al_cons al_nil)) (takes_of rfl rfl rfl rfl) (da_cons (de_var 0) (da_cons (de_lst (mu := false) (da_cons (de_tup (da_cons (de_int) (da_cons (de_add false rfl (de_var 1) (de_int)) (da_nil)))) (da_cons (de_tup (da_cons (de_int) (da_cons (de_add false rfl (de_var 1) (de_int)) (da_nil)))) (da_cons (de_tup (da_cons (de_int) (da_cons (de_add false rfl (de_var 1) (de_int)) (da_nil)))) (da_cons (de_tup (da_cons (de_int) (da_cons (de_add false rfl (de_mul false (de_int) (de_var 1)) (de_int)) (da_nil)))) (da_cons (de_tup (da_cons (de_int) (da_cons (de_add false rfl (de_mul false (de_int) (de_var 1)) (de_int)) (da_nil)))) (da_nil))))))) (da_nil)))))
theorem sc_common_divisor : FnScope ["one", "other"] ["one", "other"] (defScope st_common_divisor) := ⟨rfl, rfl, rfl, by decide +kernel, rfl, by decide +kernel, by decide +kernel⟩
theorem bd_common_divisor (T : Txt K mg) : Binds K T.f_common_divisor.fd ["one", "other"] [] := T.f_common_divisor.F.bindsN fun _ _ _ _ _ _ us hl => match us, hl with | [_, _], _ => rfl
set_option maxHeartbeats 2000000 in
theorem ok_common_divisor (T : Txt K mg) : FnOk P w K mg base (L2.CX P w) 1 T.f_common_divisor.f T.f_common_divisor.fd ["one", "other"] (spF ⟨K, ca, []⟩ 2 f_common_divisor) := by
  refine fn_def (k := 0) false T.f_common_divisor sc_common_divisor rfl fun Z cdv A outer s H E hr => ?_
  have nd := (sc_common_divisor).nd
  exact dss_cons (ds_while (passes_of rfl) (dt_gt (de_var 1) (de_int)) (dss_one (ds_par (i := 0) (j := 1) rfl nd rfl rfl (by decide) rfl rfl (da_cons (de_var 1) (da_cons (de_mod (de_var 0) (de_var 1)) (da_nil))) rfl))) (dss_one (ds_ret (de_var 0)))
theorem sc_is_integer : FnScope ["value"] ["value"] (defScope st_is_integer) := ⟨rfl, rfl, rfl, by decide +kernel, rfl, by decide +kernel, by decide +kernel⟩
theorem bd_is_integer (T : Txt K mg) : Binds K T.f_is_integer.fd ["value"] [] := T.f_is_integer.F.bindsN fun _ _ _ _ _ _ us hl => match us, hl with | [_], _ => rfl
set_option maxHeartbeats 2000000 in
theorem ok_is_integer (T : Txt K mg) : FnOk P w K mg base (L2.CX P w) 1 T.f_is_integer.f T.f_is_integer.fd ["value"] (spF ⟨K, ca, []⟩ 1 f_is_integer) := by
  refine fn_def (k := 0) false T.f_is_integer sc_is_integer rfl fun Z cdv A outer s H E hr => ?_
  have nd := (sc_is_integer).nd
  exact dss_one (ds_ret (de_and (de_isi (t := .int) rfl rfl T.b_isinstance rfl T.b_int (by decide +kernel) (de_var 0)) (de_one (de_not (de_isi (t := .bl) rfl rfl T.b_isinstance rfl T.b_bool (by decide +kernel) (de_var 0))))))
theorem sc_is_number : FnScope ["value", "most"] ["value", "most"] (defScope st_is_number) := ⟨rfl, rfl, rfl, by decide +kernel, rfl, by decide +kernel, by decide +kernel⟩
theorem bd_is_number (T : Txt K mg) : Binds K T.f_is_number.fd ["value", "most"] [] := bindsAll T.f_is_number.F (by simp) fun _ _ _ _ _ _ _ us its hl hi => match us, its, hl, hi with | [_, _], [_], _, _ => ⟨_, rfl, rfl⟩
theorem bd1_is_number (T : Txt K mg) : ∃ ds, Vals [V.non] ds ∧ Binds K T.f_is_number.fd ["value", "most"] ds := T.f_is_number.F.binds1 1 0 (by simp) rfl fun _ _ _ _ _ _ _ us its hl hi => match us, its, hl, hi with | [_], [_], _, _ => ⟨_, rfl, rfl⟩
set_option maxHeartbeats 2000000 in
theorem ok_is_number (T : Txt K mg) : FnOk P w K mg base (L2.CX P w) 2 T.f_is_number.f T.f_is_number.fd ["value", "most"] (spF ⟨K, ca, []⟩ 2 f_is_number) := by
  refine fn_def (k := 1) false T.f_is_number sc_is_number rfl fun Z cdv A outer s H E hr => ?_
  have nd := (sc_is_number).nd
  exact dss_one (ds_ret (de_and (de_call (ok_is_integer T) (hr.mono (by decide)) rfl T.f_is_integer.g T.f_is_integer.F.kp (bd_is_integer T) .nil (fun _ _ _ => rfl) rfl (al_cons al_nil) (takes_of rfl rfl rfl rfl) (da_cons (de_var 0) (da_nil))) (de_and (de_ge (de_var 0) (de_int)) (de_one (de_or (de_isN (de_var 1) (de_non)) (de_one (de_le (de_var 0) (de_var 1))))))))
theorem sc_is_fraction : FnScope ["value", "one"] ["value"] (defScope st_is_fraction) := ⟨rfl, rfl, rfl, by decide +kernel, rfl, by decide +kernel, by decide +kernel⟩
theorem bd_is_fraction (T : Txt K mg) : Binds K T.f_is_fraction.fd ["value"] [] := T.f_is_fraction.F.bindsN fun _ _ _ _ _ _ us hl => match us, hl with | [_], _ => rfl
set_option maxHeartbeats 2000000 in
theorem ok_is_fraction (T : Txt K mg) : FnOk P w K mg base (L2.CX P w) 3 T.f_is_fraction.f T.f_is_fraction.fd ["value"] (spF ⟨K, ca, []⟩ 1 f_is_fraction) := by
  obtain ⟨ds1_is_number, hv1_is_number, hb1_is_number⟩ := bd1_is_number T
  refine fn_def (k := 2) false T.f_is_fraction sc_is_fraction rfl fun Z cdv A outer s H E hr => ?_
  have nd := (sc_is_fraction).nd
  exact dss_cons (ds_if (dw_pt (dw_or (dt_not (dt_pv (de_isi (t := .tup) rfl rfl T.b_isinstance rfl T.b_tuple (by decide +kernel) (de_var 0)))) (dw_or (dt_ne rfl (ru64 hr) (de_len rfl T.b_len (da_cons (de_var 0) (da_nil))) (de_int)) (dw_or1 (dt_not (dt_pv (de_all rfl rfl T.b_all (da_cons (de_comp false (own := [("one", 1)]) (g0 := gName 1) rfl nd (by exact blkOk_by (N := ["value", "one"]) (sc := defScope st_is_fraction) (by decide +kernel)) (di_tup rfl (de_var 0)) (natg_name (by decide)) (fun _ _ _ _ _ => pg_name (i := 1) nd rfl (by first | exact Or.inl rfl | exact Or.inr rfl)) (fun _ _ _ _ _ _ => dts_nil) (fun _ _ _ _ _ _ => de_call (ok_is_number T) (hr.mono (by decide)) rfl T.f_is_number.g T.f_is_number.F.kp hb1_is_number hv1_is_number (fun _ _ _ => ⟨_, _, rfl, rfl, rfl⟩) rfl (al_cons al_nil) takes0 (da_cons (de_var 1) (da_nil)))) (da_nil))))))))) (dss_one (ds_ret (de_bl))) (dss_nil)) (dss_one (ds_ret (de_and (de_gt (de_ix (de_var 0) (de_int) rfl (fun _ _ => rfl)) (de_int)) (de_one (de_eq rfl (ru64 hr) (de_call (ok_common_divisor T) (hr.mono (by decide)) rfl T.f_common_divisor.g T.f_common_divisor.F.kp (bd_common_divisor T) .nil (fun _ _ _ => rfl) rfl (al_cons (al_cons al_nil)) (takes_of rfl rfl rfl rfl) (da_cons (de_ix (de_var 0) (de_int) rfl (fun _ _ => rfl)) (da_cons (de_ix (de_var 0) (de_int) rfl (fun _ _ => rfl)) (da_nil)))) (de_int))))))
theorem sc_is_rate : FnScope ["value"] ["value"] (defScope st_is_rate) := ⟨rfl, rfl, rfl, by decide +kernel, rfl, by decide +kernel, by decide +kernel⟩
theorem bd_is_rate (T : Txt K mg) : Binds K T.f_is_rate.fd ["value"] [] := T.f_is_rate.F.bindsN fun _ _ _ _ _ _ us hl => match us, hl with | [_], _ => rfl
set_option maxHeartbeats 2000000 in
theorem ok_is_rate (T : Txt K mg) : FnOk P w K mg base (L2.CX P w) 4 T.f_is_rate.f T.f_is_rate.fd ["value"] (spF ⟨K, ca, []⟩ 1 f_is_rate) := by
  refine fn_def (k := 3) false T.f_is_rate sc_is_rate rfl fun Z cdv A outer s H E hr => ?_
  have nd := (sc_is_rate).nd
  exact dss_one (ds_ret (de_and (de_call (ok_is_fraction T) (hr.mono (by decide)) rfl T.f_is_fraction.g T.f_is_fraction.F.kp (bd_is_fraction T) .nil (fun _ _ _ => rfl) rfl (al_cons al_nil) (takes_of rfl rfl rfl rfl) (da_cons (de_var 0) (da_nil))) (de_one (de_chain3 op_lt op_lt op_le ok_lt ok_lt ok_le (de_int) (de_ix (de_var 0) (de_int) rfl (fun _ _ => rfl)) (de_ix (de_var 0) (de_int) rfl (fun _ _ => rfl)) (de_gint T.c_MOST_BOTTOM)))))
theorem sc_need_rate : FnScope ["rate"] ["rate"] (defScope st_need_rate) := ⟨rfl, rfl, rfl, by decide +kernel, rfl, by decide +kernel, by decide +kernel⟩
theorem bd_need_rate (T : Txt K mg) : Binds K T.f_need_rate.fd ["rate"] [] := T.f_need_rate.F.bindsN fun _ _ _ _ _ _ us hl => match us, hl with | [_], _ => rfl
set_option maxHeartbeats 2000000 in
theorem ok_need_rate (T : Txt K mg) : FnOk P w K mg base (L2.CX P w) 5 T.f_need_rate.f T.f_need_rate.fd ["rate"] (spF ⟨K, ca, []⟩ 1 f_need_rate) := by
  refine fn_def (k := 4) false T.f_need_rate sc_need_rate rfl fun Z cdv A outer s H E hr => ?_
  have nd := (sc_need_rate).nd
  exact dss_one (ds_if (dt_not (dt_pv (de_call (ok_is_rate T) (hr.mono (by decide)) rfl T.f_is_rate.g T.f_is_rate.F.kp (bd_is_rate T) .nil (fun _ _ _ => rfl) rfl (al_cons al_nil) (takes_of rfl rfl rfl rfl) (da_cons (de_var 0) (da_nil))))) (dss_one (ds_never)) (dss_nil))
theorem sc_need_numbers : FnScope ["rate", "burst", "d"] ["rate", "burst", "d"] (defScope st_need_numbers) := ⟨rfl, rfl, rfl, by decide +kernel, rfl, by decide +kernel, by decide +kernel⟩
theorem bd_need_numbers (T : Txt K mg) : Binds K T.f_need_numbers.fd ["rate", "burst", "d"] [] := T.f_need_numbers.F.bindsN fun _ _ _ _ _ _ us hl => match us, hl with | [_, _, _], _ => rfl
set_option maxHeartbeats 2000000 in
theorem ok_need_numbers (T : Txt K mg) : FnOk P w K mg base (L2.CX P w) 6 T.f_need_numbers.f T.f_need_numbers.fd ["rate", "burst", "d"] (spF ⟨K, ca, []⟩ 3 f_need_numbers) := by
  obtain ⟨ds1_is_number, hv1_is_number, hb1_is_number⟩ := bd1_is_number T
  refine fn_def (k := 5) false T.f_need_numbers sc_need_numbers rfl fun Z cdv A outer s H E hr => ?_
  have nd := (sc_need_numbers).nd
  exact dss_cons (ds_expr (de_call (ok_need_rate T) (hr.mono (by decide)) rfl T.f_need_rate.g T.f_need_rate.F.kp (bd_need_rate T) .nil (fun _ _ _ => rfl) rfl (al_cons al_nil) (takes_of rfl rfl rfl rfl) (da_cons (de_var 0) (da_nil)))) (dss_cons (ds_if (dw_pt (dw_or (dt_not (dt_pv (de_call (ok_is_number T) (hr.mono (by decide)) rfl T.f_is_number.g T.f_is_number.F.kp hb1_is_number hv1_is_number (fun _ _ _ => ⟨_, _, rfl, rfl, rfl⟩) rfl (al_cons al_nil) (takes_of rfl rfl rfl rfl) (da_cons (de_var 1) (da_nil))))) (dw_or1 (dt_eq rfl (ru64 hr) (de_var 1) (de_int))))) (dss_one (ds_never)) (dss_nil)) (dss_one (ds_if (dw_pt (dw_or (dt_not (dt_pv (de_call (ok_is_number T) (hr.mono (by decide)) rfl T.f_is_number.g T.f_is_number.F.kp (bd_is_number T) .nil (fun _ _ _ => rfl) rfl (al_cons (al_cons al_nil)) (takes_of rfl rfl rfl rfl) (da_cons (de_var 2) (da_cons (de_gint T.c_MOST_BELTS_OF_WAY) (da_nil)))))) (dw_or1 (dt_eq rfl (ru64 hr) (de_var 2) (de_int))))) (dss_one (ds_never)) (dss_nil))))
theorem sc_is_slow : FnScope ["rate", "d"] ["rate", "d"] (defScope st_is_slow) := ⟨rfl, rfl, rfl, by decide +kernel, rfl, by decide +kernel, by decide +kernel⟩
theorem bd_is_slow (T : Txt K mg) : Binds K T.f_is_slow.fd ["rate", "d"] [] := T.f_is_slow.F.bindsN fun _ _ _ _ _ _ us hl => match us, hl with | [_, _], _ => rfl
set_option maxHeartbeats 2000000 in
theorem ok_is_slow (T : Txt K mg) : FnOk P w K mg base (L2.CX P w) 7 T.f_is_slow.f T.f_is_slow.fd ["rate", "d"] (spF ⟨K, ca, []⟩ 2 f_is_slow) := by
  refine fn_def (k := 6) false T.f_is_slow sc_is_slow rfl fun Z cdv A outer s H E hr => ?_
  have nd := (sc_is_slow).nd
  exact dss_cons (ds_expr (de_call (ok_need_numbers T) (hr.mono (by decide)) rfl T.f_need_numbers.g T.f_need_numbers.F.kp (bd_need_numbers T) .nil (fun _ _ _ => rfl) rfl (al_cons (al_cons (al_cons al_nil))) (takes_of rfl rfl rfl rfl) (da_cons (de_var 0) (da_cons (de_int) (da_cons (de_var 1) (da_nil)))))) (dss_one (ds_ret (de_lt (de_mul false (de_ix (de_var 0) (de_int) rfl (fun _ _ => rfl)) (de_var 1)) (de_ix (de_var 0) (de_int) rfl (fun _ _ => rfl)))))
theorem sc_stay_bound : FnScope ["rate", "burst", "d"] ["rate", "burst", "d"] (defScope st_stay_bound) := ⟨rfl, rfl, rfl, by decide +kernel, rfl, by decide +kernel, by decide +kernel⟩
theorem bd_stay_bound (T : Txt K mg) : Binds K T.f_stay_bound.fd ["rate", "burst", "d"] [] := T.f_stay_bound.F.bindsN fun _ _ _ _ _ _ us hl => match us, hl with | [_, _, _], _ => rfl
set_option maxHeartbeats 2000000 in
theorem ok_stay_bound (T : Txt K mg) : FnOk P w K mg base (L2.CX P w) 8 T.f_stay_bound.f T.f_stay_bound.fd ["rate", "burst", "d"] (spF ⟨K, ca, []⟩ 3 f_stay_bound) := by
  refine fn_def (k := 7) false T.f_stay_bound sc_stay_bound rfl fun Z cdv A outer s H E hr => ?_
  have nd := (sc_stay_bound).nd
  exact dss_cons (ds_expr (de_call (ok_need_numbers T) (hr.mono (by decide)) rfl T.f_need_numbers.g T.f_need_numbers.F.kp (bd_need_numbers T) .nil (fun _ _ _ => rfl) rfl (al_cons (al_cons (al_cons al_nil))) (takes_of rfl rfl rfl rfl) (da_cons (de_var 0) (da_cons (de_var 1) (da_cons (de_var 2) (da_nil)))))) (dss_cons (ds_if (dt_not (dt_pv (de_call (ok_is_slow T) (hr.mono (by decide)) rfl T.f_is_slow.g T.f_is_slow.F.kp (bd_is_slow T) .nil (fun _ _ _ => rfl) rfl (al_cons (al_cons al_nil)) (takes_of rfl rfl rfl rfl) (da_cons (de_var 0) (da_cons (de_var 2) (da_nil)))))) (dss_one (ds_ret (de_non))) (dss_nil)) (dss_one (ds_ret (de_add false rfl (de_div (de_mul false (de_sub (de_var 1) (de_int)) (de_ix (de_var 0) (de_int) rfl (fun _ _ => rfl))) (de_sub (de_ix (de_var 0) (de_int) rfl (fun _ _ => rfl)) (de_mul false (de_ix (de_var 0) (de_int) rfl (fun _ _ => rfl)) (de_var 2)))) (de_int)))))
theorem sc_trip_bound : FnScope ["rate", "burst", "d", "stay"] ["rate", "burst", "d"] (defScope st_trip_bound) := ⟨rfl, rfl, rfl, by decide +kernel, rfl, by decide +kernel, by decide +kernel⟩
theorem bd_trip_bound (T : Txt K mg) : Binds K T.f_trip_bound.fd ["rate", "burst", "d"] [] := T.f_trip_bound.F.bindsN fun _ _ _ _ _ _ us hl => match us, hl with | [_, _, _], _ => rfl
set_option maxHeartbeats 2000000 in
theorem ok_trip_bound (T : Txt K mg) : FnOk P w K mg base (L2.CX P w) 9 T.f_trip_bound.f T.f_trip_bound.fd ["rate", "burst", "d"] (spF ⟨K, ca, []⟩ 3 f_trip_bound) := by
  refine fn_def (k := 8) false T.f_trip_bound sc_trip_bound rfl fun Z cdv A outer s H E hr => ?_
  have nd := (sc_trip_bound).nd
  exact dss_cons (ds_set (i := 3) nd (de_call (ok_stay_bound T) (hr.mono (by decide)) rfl T.f_stay_bound.g T.f_stay_bound.F.kp (bd_stay_bound T) .nil (fun _ _ _ => rfl) rfl (al_cons (al_cons (al_cons al_nil))) (takes_of rfl rfl rfl rfl) (da_cons (de_var 0) (da_cons (de_var 1) (da_cons (de_var 2) (da_nil)))))) (dss_one (ds_ret (de_if (dt_isN (de_var 3) (de_non)) (de_non) (de_mul false (de_var 3) (de_var 2)))))
theorem sc_wait_bound : FnScope ["rate", "burst", "d", "trip"] ["rate", "burst", "d"] (defScope st_wait_bound) := ⟨rfl, rfl, rfl, by decide +kernel, rfl, by decide +kernel, by decide +kernel⟩
theorem bd_wait_bound (T : Txt K mg) : Binds K T.f_wait_bound.fd ["rate", "burst", "d"] [] := T.f_wait_bound.F.bindsN fun _ _ _ _ _ _ us hl => match us, hl with | [_, _, _], _ => rfl
set_option maxHeartbeats 2000000 in
theorem ok_wait_bound (T : Txt K mg) : FnOk P w K mg base (L2.CX P w) 10 T.f_wait_bound.f T.f_wait_bound.fd ["rate", "burst", "d"] (spF ⟨K, ca, []⟩ 3 f_wait_bound) := by
  refine fn_def (k := 9) false T.f_wait_bound sc_wait_bound rfl fun Z cdv A outer s H E hr => ?_
  have nd := (sc_wait_bound).nd
  exact dss_cons (ds_set (i := 3) nd (de_call (ok_trip_bound T) (hr.mono (by decide)) rfl T.f_trip_bound.g T.f_trip_bound.F.kp (bd_trip_bound T) .nil (fun _ _ _ => rfl) rfl (al_cons (al_cons (al_cons al_nil))) (takes_of rfl rfl rfl rfl) (da_cons (de_var 0) (da_cons (de_var 1) (da_cons (de_var 2) (da_nil)))))) (dss_one (ds_ret (de_if (dt_isN (de_var 3) (de_non)) (de_non) (de_add false rfl (de_div (de_mul false (de_ix (de_var 0) (de_int) rfl (fun _ _ => rfl)) (de_var 3)) (de_ix (de_var 0) (de_int) rfl (fun _ _ => rfl))) (de_var 1)))))
theorem sc__law_room : FnScope ["levels", "rate", "burst", "way", "e"] ["levels", "rate", "burst", "way"] (defScope st__law_room) := ⟨rfl, rfl, rfl, by decide +kernel, rfl, by decide +kernel, by decide +kernel⟩
theorem bd__law_room (T : Txt K mg) : Binds K T.f__law_room.fd ["levels", "rate", "burst", "way"] [] := T.f__law_room.F.bindsN fun _ _ _ _ _ _ us hl => match us, hl with | [_, _, _, _], _ => rfl
set_option maxHeartbeats 2000000 in
theorem ok__law_room (T : Txt K mg) : FnOk P w K mg base (L2.CX P w) 1 T.f__law_room.f T.f__law_room.fd ["levels", "rate", "burst", "way"] (spF ⟨K, ca, []⟩ 4 f__law_room) := by
  refine fn_def (k := 0) false T.f__law_room sc__law_room rfl fun Z cdv A outer s H E hr => ?_
  have nd := (sc__law_room).nd
  exact dss_one (ds_ret (de_all rfl rfl T.b_all (da_cons (de_comp false (own := [("e", 4)]) (g0 := gName 4) rfl nd (by exact blkOk_by (N := ["levels", "rate", "burst", "way", "e"]) (sc := defScope st__law_room) (by decide +kernel)) (di_tup rfl (de_var 3)) (natg_name (by decide)) (fun _ _ _ _ _ => pg_name (i := 4) nd rfl (by first | exact Or.inl rfl | exact Or.inr rfl)) (fun _ _ _ _ _ _ => dts_nil) (fun _ _ _ _ _ _ => de_le (de_add false rfl (de_ix (de_var 0) (de_var 4) rfl (fun _ _ => rfl)) (de_ix (de_var 1) (de_int) rfl (fun _ _ => rfl))) (de_add false rfl (de_mul false (de_ix (de_var 1) (de_int) rfl (fun _ _ => rfl)) (de_var 2)) (de_ix (de_var 1) (de_int) rfl (fun _ _ => rfl))))) (da_nil))))
theorem sc__law_going : FnScope ["box", "rule", "queue", "stays", "owed", "one"] ["box", "rule", "queue", "stays", "owed"] (defScope st__law_going) := ⟨rfl, rfl, rfl, by decide +kernel, rfl, by decide +kernel, by decide +kernel⟩
theorem bd__law_going (T : Txt K mg) : Binds K T.f__law_going.fd ["box", "rule", "queue", "stays", "owed"] [] := T.f__law_going.F.bindsN fun _ _ _ _ _ _ us hl => match us, hl with | [_, _, _, _, _], _ => rfl
set_option maxHeartbeats 2000000 in
theorem ok__law_going (T : Txt K mg) : FnOk P w K mg base (L2.CX P w) 3 T.f__law_going.f T.f__law_going.fd ["box", "rule", "queue", "stays", "owed"] (spF ⟨K, ca, []⟩ 5 f__law_going) := by
  refine fn_def (k := 2) false T.f__law_going sc__law_going rfl fun Z cdv A outer s H E hr => ?_
  have nd := (sc__law_going).nd
  exact dss_cons (ds_if (dt_eq rfl (ru64 hr) (de_var 1) (de_int)) (dss_one (ds_ret (de_ix (de_var 2) (de_int) rfl (fun _ _ => rfl)))) (dss_nil)) (dss_cons (ds_if (dt_eq rfl (ru64 hr) (de_var 1) (de_int)) (dss_one (ds_ret (de_ix (de_var 2) (de_neg (de_int)) rfl (fun _ _ => rfl)))) (dss_nil)) (dss_cons (ds_if (dt_eq rfl (ru64 hr) (de_var 1) (de_int)) (dss_one (ds_ret (de_ix (de_min rfl rfl (ru1 hr) T.b_min (da_cons (de_comp false (own := [("one", 5)]) (g0 := gName 5) rfl nd (by exact blkOk_by (N := ["box", "rule", "queue", "stays", "owed", "one"]) (sc := defScope st__law_going) (by decide +kernel)) (di_list rfl (de_var 2)) (natg_name (by decide)) (fun _ _ _ _ _ => pg_name (i := 5) nd rfl (by first | exact Or.inl rfl | exact Or.inr rfl)) (fun _ _ _ _ _ _ => dts_nil) (fun _ _ _ _ _ _ => de_tup (da_cons (de_len rfl T.b_len (da_cons (de_ix (de_var 4) (de_var 5) rfl (fun _ _ => rfl)) (da_nil))) (da_cons (de_var 5) (da_nil))))) (da_nil))) (de_int) rfl (fun _ _ => rfl)))) (dss_nil)) (dss_cons (ds_if (dt_eq rfl (ru64 hr) (de_var 1) (de_int)) (dss_one (ds_ret (de_ix (de_min rfl rfl (ru1 hr) T.b_min (da_cons (de_comp false (own := [("one", 5)]) (g0 := gName 5) rfl nd (by exact blkOk_by (N := ["box", "rule", "queue", "stays", "owed", "one"]) (sc := defScope st__law_going) (by decide +kernel)) (di_list rfl (de_var 2)) (natg_name (by decide)) (fun _ _ _ _ _ => pg_name (i := 5) nd rfl (by first | exact Or.inl rfl | exact Or.inr rfl)) (fun _ _ _ _ _ _ => dts_nil) (fun _ _ _ _ _ _ => de_tup (da_cons (de_sub (de_int) (de_len rfl T.b_len (da_cons (de_ix (de_var 4) (de_var 5) rfl (fun _ _ => rfl)) (da_nil)))) (da_cons (de_var 5) (da_nil))))) (da_nil))) (de_int) rfl (fun _ _ => rfl)))) (dss_nil)) (dss_one (ds_ret (de_if (dt_eq rfl (ru64 hr) (de_var 1) (de_int)) (de_max rfl rfl T.b_max (da_cons (de_var 2) (da_nil))) (de_call (ok__law_pick T) (hr.mono (by decide)) rfl T.f__law_pick.g T.f__law_pick.F.kp (bd__law_pick T) .nil (fun _ _ _ => rfl) rfl (al_cons (al_cons al_nil)) (takes_of rfl rfl rfl rfl) (da_cons (de_var 0) (da_cons (de_var 2) (da_nil))))))))))
theorem sc__law_played : FnScope ["box", "belts", "ways", "d", "beats", "rate", "burst", "rule", "stay", "trip", "wait", "levels", "queues", "owed", "begun", "came", "living", "eager", "beat", "turn", "e", "moved", "one", "way", "belt", "level", "other"] ["box", "belts", "ways", "d", "beats"] (defScope st__law_played) := ⟨rfl, rfl, rfl, by decide +kernel, rfl, by decide +kernel, by decide +kernel⟩
theorem bd__law_played (T : Txt K mg) : Binds K T.f__law_played.fd ["box", "belts", "ways", "d", "beats"] [] := T.f__law_played.F.bindsN fun _ _ _ _ _ _ us hl => match us, hl with | [_, _, _, _, _], _ => rfl
set_option maxHeartbeats 2000000 in
theorem ok__law_played (T : Txt K mg) : FnOk P w K mg base (L2.CX P w) 11 T.f__law_played.f T.f__law_played.fd ["box", "belts", "ways", "d", "beats"] (spF ⟨K, ca, []⟩ 5 f__law_played) := by
  refine fn_def (k := 10) true T.f__law_played sc__law_played rfl fun Z cdv A outer s H E hr => ?_
  have nd := (sc__law_played).nd
  exact dss_cons (ds_asg (de_tup (da_cons (de_call (ok__law_rate T) (hr.mono (by decide)) rfl T.f__law_rate.g T.f__law_rate.F.kp (bd__law_rate T) .nil (fun _ _ _ => rfl) rfl (al_cons (al_cons al_nil)) (takes_of rfl rfl rfl rfl) (da_cons (de_var 0) (da_cons (de_var 3) (da_nil)))) (da_cons (de_add false rfl (de_int) (de_call (ok__law_take T) (hr.mono (by decide)) rfl T.f__law_take.g T.f__law_take.F.kp (bd__law_take T) .nil (fun _ _ _ => rfl) rfl (al_cons (al_cons al_nil)) (takes_of rfl rfl rfl rfl) (da_cons (de_var 0) (da_cons (de_int) (da_nil))))) (da_cons (de_call (ok__law_take T) (hr.mono (by decide)) rfl T.f__law_take.g T.f__law_take.F.kp (bd__law_take T) .nil (fun _ _ _ => rfl) rfl (al_cons (al_cons al_nil)) (takes_of rfl rfl rfl rfl) (da_cons (de_var 0) (da_cons (de_int) (da_nil)))) (da_nil))))) (dg_tup rfl rfl (dgs_cons (dg_name (i := 5) nd) (dgs_cons (dg_name (i := 6) nd) (dgs_cons (dg_name (i := 7) nd) (dgs_nil) nx_nil) (nx_cons (fun d σ h => nx_nm d 7 σ h) (nx_nil))) (nx_cons (fun d σ h => nx_nm d 6 σ h) (nx_cons (fun d σ h => nx_nm d 7 σ h) (nx_nil)))))) (dss_cons (ds_asg (de_tup (da_cons (de_call (ok_stay_bound T) (hr.mono (by decide)) rfl T.f_stay_bound.g T.f_stay_bound.F.kp (bd_stay_bound T) .nil (fun _ _ _ => rfl) rfl (al_cons (al_cons (al_cons al_nil))) (takes_of rfl rfl rfl rfl) (da_cons (de_var 5) (da_cons (de_var 6) (da_cons (de_var 3) (da_nil))))) (da_cons (de_call (ok_trip_bound T) (hr.mono (by decide)) rfl T.f_trip_bound.g T.f_trip_bound.F.kp (bd_trip_bound T) .nil (fun _ _ _ => rfl) rfl (al_cons (al_cons (al_cons al_nil))) (takes_of rfl rfl rfl rfl) (da_cons (de_var 5) (da_cons (de_var 6) (da_cons (de_var 3) (da_nil))))) (da_cons (de_call (ok_wait_bound T) (hr.mono (by decide)) rfl T.f_wait_bound.g T.f_wait_bound.F.kp (bd_wait_bound T) .nil (fun _ _ _ => rfl) rfl (al_cons (al_cons (al_cons al_nil))) (takes_of rfl rfl rfl rfl) (da_cons (de_var 5) (da_cons (de_var 6) (da_cons (de_var 3) (da_nil))))) (da_nil))))) (dg_tup rfl rfl (dgs_cons (dg_name (i := 8) nd) (dgs_cons (dg_name (i := 9) nd) (dgs_cons (dg_name (i := 10) nd) (dgs_nil) nx_nil) (nx_cons (fun d σ h => nx_nm d 10 σ h) (nx_nil))) (nx_cons (fun d σ h => nx_nm d 9 σ h) (nx_cons (fun d σ h => nx_nm d 10 σ h) (nx_nil)))))) (dss_cons (ds_par (i := 11) (j := 12) rfl nd rfl rfl (by decide) rfl rfl (da_cons (de_comp true (own := [("belt", 24)]) (g0 := gName 24) rfl nd (by exact blkOk_by (N := ["box", "belts", "ways", "d", "beats", "rate", "burst", "rule", "stay", "trip", "wait", "levels", "queues", "owed", "begun", "came", "living", "eager", "beat", "turn", "e", "moved", "one", "way", "belt", "level", "other"]) (sc := defScope st__law_played) (by decide +kernel)) (di_tup rfl (de_var 1)) (natg_name (by decide)) (fun _ _ _ _ _ => pg_name (i := 24) nd rfl (by first | exact Or.inl rfl | exact Or.inr rfl)) (fun _ _ _ _ _ _ => dts_nil) (fun _ _ _ _ _ _ => de_int)) (da_cons (de_comp false (own := [("belt", 24)]) (g0 := gName 24) rfl nd (by exact blkOk_by (N := ["box", "belts", "ways", "d", "beats", "rate", "burst", "rule", "stay", "trip", "wait", "levels", "queues", "owed", "begun", "came", "living", "eager", "beat", "turn", "e", "moved", "one", "way", "belt", "level", "other"]) (sc := defScope st__law_played) (by decide +kernel)) (di_tup rfl (de_var 1)) (natg_name (by decide)) (fun _ _ _ _ _ => pg_name (i := 24) nd rfl (by first | exact Or.inl rfl | exact Or.inr rfl)) (fun _ _ _ _ _ _ => dts_nil) (fun _ _ _ _ _ _ => de_lst (mu := true) (da_nil))) (da_nil))) rfl) (dss_cons (ds_asg (de_tup (da_cons (de_lst (mu := true) (da_nil)) (da_cons (de_lst (mu := false) (da_nil)) (da_cons (de_lst (mu := true) (da_nil)) (da_cons (de_lst (mu := true) (da_nil)) (da_cons (de_call (ok__law_pick T) (hr.mono (by decide)) rfl T.f__law_pick.g T.f__law_pick.F.kp (bd__law_pick T) .nil (fun _ _ _ => rfl) rfl (al_cons (al_cons al_nil)) (takes_of rfl rfl rfl rfl) (da_cons (de_var 0) (da_cons (de_lst (mu := false) (da_cons (de_int) (da_cons (de_int) (da_cons (de_int) (da_nil))))) (da_nil)))) (da_nil))))))) (dg_tup rfl rfl (dgs_cons (dg_name (i := 13) nd) (dgs_cons (dg_name (i := 14) nd) (dgs_cons (dg_name (i := 15) nd) (dgs_cons (dg_name (i := 16) nd) (dgs_cons (dg_name (i := 17) nd) (dgs_nil) nx_nil) (nx_cons (fun d σ h => nx_nm d 17 σ h) (nx_nil))) (nx_cons (fun d σ h => nx_nm d 16 σ h) (nx_cons (fun d σ h => nx_nm d 17 σ h) (nx_nil)))) (nx_cons (fun d σ h => nx_nm d 15 σ h) (nx_cons (fun d σ h => nx_nm d 16 σ h) (nx_cons (fun d σ h => nx_nm d 17 σ h) (nx_nil))))) (nx_cons (fun d σ h => nx_nm d 14 σ h) (nx_cons (fun d σ h => nx_nm d 15 σ h) (nx_cons (fun d σ h => nx_nm d 16 σ h) (nx_cons (fun d σ h => nx_nm d 17 σ h) (nx_nil)))))))) (dss_cons (ds_for (passes_of rfl) rfl (di_range1 rfl T.b_range (da_cons (de_add false rfl (de_var 4) (de_var 9)) (da_nil))) (dg_name (i := 18) nd) (dss_cons (ds_for (passes_of rfl) rfl (di_range1 rfl T.b_range (da_cons (de_if (dt_lt (de_var 18) (de_var 4)) (de_int) (de_int)) (da_nil))) (dg_name (i := 19) nd) (dss_cons (ds_set (i := 23) nd (de_call (ok__law_pick T) (hr.mono (by decide)) rfl T.f__law_pick.g T.f__law_pick.F.kp (bd__law_pick T) .nil (fun _ _ _ => rfl) rfl (al_cons (al_cons al_nil)) (takes_of rfl rfl rfl rfl) (da_cons (de_var 0) (da_cons (de_var 2) (da_nil))))) (dss_one (ds_if (dw_pt (dw_and (dt_eq rfl (ru64 hr) (de_call (ok__law_take T) (hr.mono (by decide)) rfl T.f__law_take.g T.f__law_take.F.kp (bd__law_take T) .nil (fun _ _ _ => rfl) rfl (al_cons (al_cons al_nil)) (takes_of rfl rfl rfl rfl) (da_cons (de_var 0) (da_cons (de_var 17) (da_nil)))) (de_int)) (dw_and1 (dt_pv (de_call (ok__law_room T) (hr.mono (by decide)) rfl T.f__law_room.g T.f__law_room.F.kp (bd__law_room T) .nil (fun _ _ _ => rfl) rfl (al_cons (al_cons (al_cons (al_cons al_nil)))) (takes_of rfl rfl rfl rfl) (da_cons (de_var 11) (da_cons (de_var 5) (da_cons (de_var 6) (da_cons (de_var 23) (da_nil)))))))))) (dss_cons (ds_for (passes_of rfl) rfl (di_tup rfl (de_var 23)) (dg_name (i := 20) nd) (dss_one (ds_asg (de_add false rfl (de_ix (de_var 11) (de_var 20) rfl (fun _ _ => rfl)) (de_ix (de_var 5) (de_int) rfl (fun _ _ => rfl))) (dg_item (de_var 11) (de_var 20))))) (dss_cons (ds_expr (de_append rfl (de_ix (de_var 12) (de_ix (de_var 23) (de_int) rfl (fun _ _ => rfl)) rfl (fun _ _ => rfl)) (da_cons (de_len rfl T.b_len (da_cons (de_var 13) (da_nil))) (da_nil)))) (dss_cons (ds_expr (de_append rfl (de_var 16) (da_cons (de_len rfl T.b_len (da_cons (de_var 13) (da_nil))) (da_nil)))) (dss_one (ds_asg (de_tup (da_cons (de_add true rfl (de_var 13) (de_lst (mu := false) (da_cons (de_var 23) (da_nil)))) (da_cons (de_add false rfl (de_var 14) (de_lst (mu := false) (da_cons (de_var 18) (da_nil)))) (da_cons (de_add true rfl (de_var 15) (de_lst (mu := false) (da_cons (de_var 18) (da_nil)))) (da_nil))))) (dg_tup rfl rfl (dgs_cons (dg_name (i := 13) nd) (dgs_cons (dg_name (i := 14) nd) (dgs_cons (dg_name (i := 15) nd) (dgs_nil) nx_nil) (nx_cons (fun d σ h => nx_nm d 15 σ h) (nx_nil))) (nx_cons (fun d σ h => nx_nm d 14 σ h) (nx_cons (fun d σ h => nx_nm d 15 σ h) (nx_nil)))))))))) (dss_nil))))) (dss_cons (ds_for (passes_of rfl) rfl (di_range1 rfl T.b_range (da_cons (de_len rfl T.b_len (da_cons (de_var 1) (da_nil))) (da_nil))) (dg_name (i := 20) nd) (dss_one (ds_if (dt_gt (de_len rfl T.b_len (da_cons (de_comp false (own := [("one", 22)]) (g0 := gName 22) rfl nd (by exact blkOk_by (N := ["box", "belts", "ways", "d", "beats", "rate", "burst", "rule", "stay", "trip", "wait", "levels", "queues", "owed", "begun", "came", "living", "eager", "beat", "turn", "e", "moved", "one", "way", "belt", "level", "other"]) (sc := defScope st__law_played) (by decide +kernel)) (di_list rfl (de_var 16)) (natg_name (by decide)) (fun _ _ _ _ _ => pg_name (i := 22) nd rfl (by first | exact Or.inl rfl | exact Or.inr rfl)) (fun _ _ _ _ _ _ => dts_one (dt_in rfl (ru65 hr) (de_var 20) (de_ix (de_var 13) (de_var 22) rfl (fun _ _ => rfl)))) (fun _ _ _ _ _ _ => de_int)) (da_nil))) (de_var 10)) (dss_one (ds_ret (de_bl))) (dss_nil)))) (dss_cons (ds_set (i := 21) nd (de_lst (mu := true) (da_nil))) (dss_cons (ds_for (passes_of rfl) rfl (di_range1 rfl T.b_range (da_cons (de_len rfl T.b_len (da_cons (de_var 1) (da_nil))) (da_nil))) (dg_name (i := 20) nd) (dss_one (ds_if (dt_ne rfl (ru64 hr) (de_ix (de_var 12) (de_var 20) rfl (fun _ _ => rfl)) (de_lst (mu := false) (da_nil))) (dss_cons (ds_set (i := 22) nd (de_call (ok__law_going T) (hr.mono (by decide)) rfl T.f__law_going.g T.f__law_going.F.kp (bd__law_going T) .nil (fun _ _ _ => rfl) rfl (al_cons (al_cons (al_cons (al_cons (al_cons al_nil))))) (takes_of rfl rfl rfl rfl) (da_cons (de_var 0) (da_cons (de_var 7) (da_cons (de_ix (de_var 12) (de_var 20) rfl (fun _ _ => rfl)) (da_cons (de_var 15) (da_cons (de_var 13) (da_nil)))))))) (dss_cons (ds_if (dt_pv (de_any rfl rfl T.b_any (da_cons (de_comp false (own := [("other", 26)]) (g0 := gName 26) rfl nd (by exact blkOk_by (N := ["box", "belts", "ways", "d", "beats", "rate", "burst", "rule", "stay", "trip", "wait", "levels", "queues", "owed", "begun", "came", "living", "eager", "beat", "turn", "e", "moved", "one", "way", "belt", "level", "other"]) (sc := defScope st__law_played) (by decide +kernel)) (di_list rfl (de_ix (de_var 12) (de_var 20) rfl (fun _ _ => rfl))) (natg_name (by decide)) (fun _ _ _ _ _ => pg_name (i := 26) nd rfl (by first | exact Or.inl rfl | exact Or.inr rfl)) (fun _ _ _ _ _ _ => dts_nil) (fun _ _ _ _ _ _ => de_gt (de_add false rfl (de_sub (de_var 18) (de_ix (de_var 15) (de_var 26) rfl (fun _ _ => rfl))) (de_int)) (de_var 8))) (da_nil)))) (dss_one (ds_ret (de_bl))) (dss_nil)) (dss_cons (ds_expr (de_remove rfl (de_ix (de_var 12) (de_var 20) rfl (fun _ _ => rfl)) (da_cons (de_var 22) (da_nil)))) (dss_cons (ds_asg (de_sl (mu := false) rfl (de_ix (de_var 13) (de_var 22) rfl (fun _ _ => rfl)) (dp_so (de_int)) dp_no) (dg_item (de_var 13) (de_var 22))) (dss_cons (ds_expr (de_append rfl (de_var 21) (da_cons (de_var 22) (da_nil)))) (dss_one (ds_if (dt_eq rfl (ru64 hr) (de_ix (de_var 13) (de_var 22) rfl (fun _ _ => rfl)) (de_tup (da_nil))) (dss_cons (ds_expr (de_remove rfl (de_var 16) (da_cons (de_var 22) (da_nil)))) (dss_one (ds_if (dt_gt (de_add false rfl (de_sub (de_var 18) (de_ix (de_var 14) (de_var 22) rfl (fun _ _ => rfl))) (de_int)) (de_var 9)) (dss_one (ds_ret (de_bl))) (dss_nil)))) (dss_nil)))))))) (dss_nil)))) (dss_cons (ds_for (passes_of rfl) rfl (di_list rfl (de_var 21)) (dg_name (i := 22) nd) (dss_one (ds_if (dt_ne rfl (ru64 hr) (de_ix (de_var 13) (de_var 22) rfl (fun _ _ => rfl)) (de_tup (da_nil))) (dss_cons (ds_expr (de_append rfl (de_ix (de_var 12) (de_ix (de_ix (de_var 13) (de_var 22) rfl (fun _ _ => rfl)) (de_int) rfl (fun _ _ => rfl)) rfl (fun _ _ => rfl)) (da_cons (de_var 22) (da_nil)))) (dss_one (ds_asg (de_add false rfl (de_var 18) (de_int)) (dg_item (de_var 15) (de_var 22))))) (dss_nil)))) (dss_cons (ds_setLc true (own := [("level", 25)]) (g0 := gName 25) (i := 11) rfl nd rfl rfl (sw_true rfl rfl rfl (by decide +kernel)) (by exact blkOk_by (N := ["box", "belts", "ways", "d", "beats", "rate", "burst", "rule", "stay", "trip", "wait", "levels", "queues", "owed", "begun", "came", "living", "eager", "beat", "turn", "e", "moved", "one", "way", "belt", "level", "other"]) (sc := defScope st__law_played) (by decide +kernel)) (di_list rfl (de_var 11)) (natg_name (by decide)) (fun _ _ _ _ _ => pg_name (i := 25) nd rfl (by first | exact Or.inl rfl | exact Or.inr rfl)) (fun _ _ _ _ _ _ => dts_nil) (fun _ _ _ _ _ _ => de_max rfl rfl T.b_max (da_cons (de_int) (da_cons (de_sub (de_var 25) (de_ix (de_var 5) (de_int) rfl (fun _ _ => rfl))) (da_nil))))) (dss_one (ds_if (dw_pt (dw_and (dt_ge (de_var 18) (de_var 4)) (dw_and1 (dt_eq rfl (ru64 hr) (de_var 16) (de_lst (mu := false) (da_nil)))))) (dss_one (ds_ret (de_bl))) (dss_nil)))))))))) (dss_one (ds_ret (de_eq rfl (ru64 hr) (de_var 16) (de_lst (mu := false) (da_nil)))))))))
theorem sc_law : FnScope ["script", "k", "box", "places", "belts", "ways", "d"] ["script"] (defScope st_law) := ⟨rfl, rfl, rfl, by decide +kernel, rfl, by decide +kernel, by decide +kernel⟩
theorem bd_law (T : Txt K mg) : Binds K T.f_law.fd ["script"] [] := T.f_law.F.bindsN fun _ _ _ _ _ _ us hl => match us, hl with | [_], _ => rfl
set_option maxHeartbeats 2000000 in
theorem ok_law (T : Txt K mg) : FnOk P w K mg base (L2.CX P w) 12 T.f_law.f T.f_law.fd ["script"] (spF ⟨K, ca, []⟩ 1 f_law) := by
  refine fn_def (k := 11) false T.f_law sc_law rfl fun Z cdv A outer s H E hr => ?_
  have nd := (sc_law).nd
  exact dss_cons (ds_for (passes_of rfl) rfl (di_range1 rfl T.b_range (da_cons (de_int) (da_nil))) (dg_name (i := 1) nd) (dss_cons (ds_set (i := 2) nd (de_call (ok__law_box T) (hr.mono (by decide)) rfl T.f__law_box.g T.f__law_box.F.kp (bd__law_box T) .nil (fun _ _ _ => rfl) rfl (al_cons (al_cons al_nil)) (takes_of rfl rfl rfl rfl) (da_cons (de_var 0) (da_cons (de_var 1) (da_nil))))) (dss_cons (ds_asg (de_call (ok__law_web T) (hr.mono (by decide)) rfl T.f__law_web.g T.f__law_web.F.kp (bd__law_web T) .nil (fun _ _ _ => rfl) rfl (al_cons (al_cons (al_cons al_nil))) (takes_of rfl rfl rfl rfl) (da_cons (de_var 2) (da_cons (de_int) (da_cons (de_int) (da_nil))))) (dg_tup rfl rfl (dgs_cons (dg_name (i := 3) nd) (dgs_cons (dg_name (i := 4) nd) (dgs_nil) nx_nil) (nx_cons (fun d σ h => nx_nm d 4 σ h) (nx_nil))))) (dss_cons (ds_if (dt_eq rfl (ru64 hr) (de_var 4) (de_tup (da_nil))) (dss_one (ds_set (i := 4) nd (de_tup (da_cons (de_tup (da_cons (de_int) (da_cons (de_int) (da_nil)))) (da_nil))))) (dss_nil)) (dss_cons (ds_asg (de_call (ok__law_ways T) (hr.mono (by decide)) rfl T.f__law_ways.g T.f__law_ways.F.kp (bd__law_ways T) .nil (fun _ _ _ => rfl) rfl (al_cons (al_cons al_nil)) (takes_of rfl rfl rfl rfl) (da_cons (de_var 2) (da_cons (de_var 4) (da_nil)))) (dg_tup rfl rfl (dgs_cons (dg_name (i := 5) nd) (dgs_cons (dg_name (i := 6) nd) (dgs_nil) nx_nil) (nx_cons (fun d σ h => nx_nm d 6 σ h) (nx_nil))))) (dss_one (ds_if (dt_not (dt_pv (de_call (ok__law_played T) (hr.mono (by decide)) rfl T.f__law_played.g T.f__law_played.F.kp (bd__law_played T) .nil (fun _ _ _ => rfl) rfl (al_cons (al_cons (al_cons (al_cons (al_cons al_nil))))) (takes_of rfl rfl rfl rfl) (da_cons (de_var 2) (da_cons (de_var 4) (da_cons (de_var 5) (da_cons (de_var 6) (da_cons (de_int) (da_nil))))))))) (dss_one (ds_ret (de_bl))) (dss_nil)))))))) (dss_one (ds_ret (de_bl)))
end
def Tx (K : PySem.W.Frag) (mg : Str → Option Value) (fa : Addr) : Prop := ∃ T : Txt K mg, T.f_law.f = fa
theorem all_mk {K : PySem.W.Frag} {h : Heap} {mg : Str → Option Value} {fa : Addr} (X : K.In h) (G : h.Ns mainGlobals mg) (hfa : mg "law" = some (.ref fa))
    {f0 : Addr} {od0 an0 : Option Addr} {sl0 : Array (Option Value)} {oc0 kV0 dc0 pm0 cd0 ct0 : Value}
    (a0 : PySem.W.nsIn K mainGlobals "_law_box" = some (some (.ref f0)))
    (l0 : K.lookup f0 = some ⟨oc0, od0, .func (PySem.W.fnOf "_law_box" "_law_box" (defArgs st__law_box) (defBody st__law_box) (defScope st__law_box) .none kV0 dc0 pm0 an0 cd0 ct0), sl0⟩)
    (c0 : PySem.W.codeIn K cd0 "_law_box" = true) (k0 : PySem.W.keepIn K (.ref f0) = true)
    {f1 : Addr} {od1 an1 : Option Addr} {sl1 : Array (Option Value)} {oc1 kV1 dc1 pm1 cd1 ct1 : Value}
    (a1 : PySem.W.nsIn K mainGlobals "_law_take" = some (some (.ref f1)))
    (l1 : K.lookup f1 = some ⟨oc1, od1, .func (PySem.W.fnOf "_law_take" "_law_take" (defArgs st__law_take) (defBody st__law_take) (defScope st__law_take) .none kV1 dc1 pm1 an1 cd1 ct1), sl1⟩)
    (c1 : PySem.W.codeIn K cd1 "_law_take" = true) (k1 : PySem.W.keepIn K (.ref f1) = true)
    {f2 : Addr} {od2 an2 : Option Addr} {sl2 : Array (Option Value)} {oc2 kV2 dc2 pm2 cd2 ct2 : Value}
    (a2 : PySem.W.nsIn K mainGlobals "_law_pick" = some (some (.ref f2)))
    (l2 : K.lookup f2 = some ⟨oc2, od2, .func (PySem.W.fnOf "_law_pick" "_law_pick" (defArgs st__law_pick) (defBody st__law_pick) (defScope st__law_pick) .none kV2 dc2 pm2 an2 cd2 ct2), sl2⟩)
    (c2 : PySem.W.codeIn K cd2 "_law_pick" = true) (k2 : PySem.W.keepIn K (.ref f2) = true)
    {f3 : Addr} {od3 an3 : Option Addr} {sl3 : Array (Option Value)} {oc3 kV3 dc3 pm3 cd3 ct3 : Value}
    (a3 : PySem.W.nsIn K mainGlobals "_law_web" = some (some (.ref f3)))
    (l3 : K.lookup f3 = some ⟨oc3, od3, .func (PySem.W.fnOf "_law_web" "_law_web" (defArgs st__law_web) (defBody st__law_web) (defScope st__law_web) .none kV3 dc3 pm3 an3 cd3 ct3), sl3⟩)
    (c3 : PySem.W.codeIn K cd3 "_law_web" = true) (k3 : PySem.W.keepIn K (.ref f3) = true)
    {f4 : Addr} {od4 an4 : Option Addr} {sl4 : Array (Option Value)} {oc4 kV4 dc4 pm4 cd4 ct4 : Value}
    (a4 : PySem.W.nsIn K mainGlobals "_law_turns" = some (some (.ref f4)))
    (l4 : K.lookup f4 = some ⟨oc4, od4, .func (PySem.W.fnOf "_law_turns" "_law_turns" (defArgs st__law_turns) (defBody st__law_turns) (defScope st__law_turns) .none kV4 dc4 pm4 an4 cd4 ct4), sl4⟩)
    (c4 : PySem.W.codeIn K cd4 "_law_turns" = true) (k4 : PySem.W.keepIn K (.ref f4) = true)
    {f5 : Addr} {od5 an5 : Option Addr} {sl5 : Array (Option Value)} {oc5 kV5 dc5 pm5 cd5 ct5 : Value}
    (a5 : PySem.W.nsIn K mainGlobals "_law_ways" = some (some (.ref f5)))
    (l5 : K.lookup f5 = some ⟨oc5, od5, .func (PySem.W.fnOf "_law_ways" "_law_ways" (defArgs st__law_ways) (defBody st__law_ways) (defScope st__law_ways) .none kV5 dc5 pm5 an5 cd5 ct5), sl5⟩)
    (c5 : PySem.W.codeIn K cd5 "_law_ways" = true) (k5 : PySem.W.keepIn K (.ref f5) = true)
    {f6 : Addr} {od6 an6 : Option Addr} {sl6 : Array (Option Value)} {oc6 kV6 dc6 pm6 cd6 ct6 : Value}
    (a6 : PySem.W.nsIn K mainGlobals "_law_rate" = some (some (.ref f6)))
    (l6 : K.lookup f6 = some ⟨oc6, od6, .func (PySem.W.fnOf "_law_rate" "_law_rate" (defArgs st__law_rate) (defBody st__law_rate) (defScope st__law_rate) .none kV6 dc6 pm6 an6 cd6 ct6), sl6⟩)
    (c6 : PySem.W.codeIn K cd6 "_law_rate" = true) (k6 : PySem.W.keepIn K (.ref f6) = true)
    {f7 : Addr} {od7 an7 : Option Addr} {sl7 : Array (Option Value)} {oc7 kV7 dc7 pm7 cd7 ct7 : Value}
    (a7 : PySem.W.nsIn K mainGlobals "common_divisor" = some (some (.ref f7)))
    (l7 : K.lookup f7 = some ⟨oc7, od7, .func (PySem.W.fnOf "common_divisor" "common_divisor" (defArgs st_common_divisor) (defBody st_common_divisor) (defScope st_common_divisor) .none kV7 dc7 pm7 an7 cd7 ct7), sl7⟩)
    (c7 : PySem.W.codeIn K cd7 "common_divisor" = true) (k7 : PySem.W.keepIn K (.ref f7) = true)
    {f8 : Addr} {od8 an8 : Option Addr} {sl8 : Array (Option Value)} {oc8 kV8 dc8 pm8 cd8 ct8 : Value}
    (a8 : PySem.W.nsIn K mainGlobals "is_integer" = some (some (.ref f8)))
    (l8 : K.lookup f8 = some ⟨oc8, od8, .func (PySem.W.fnOf "is_integer" "is_integer" (defArgs st_is_integer) (defBody st_is_integer) (defScope st_is_integer) .none kV8 dc8 pm8 an8 cd8 ct8), sl8⟩)
    (c8 : PySem.W.codeIn K cd8 "is_integer" = true) (k8 : PySem.W.keepIn K (.ref f8) = true)
    {f9 g9 : Addr} {od9 an9 : Option Addr} {sl9 : Array (Option Value)} {oc9 kV9 dc9 pm9 cd9 ct9 : Value} {tc9 : Value} {td9 : Option Addr} {tn9 : Nat} {ts9 : Array (Option Value)}
    (a9 : PySem.W.nsIn K mainGlobals "is_number" = some (some (.ref f9)))
    (l9 : K.lookup f9 = some ⟨oc9, od9, .func (PySem.W.fnOf "is_number" "is_number" (defArgs st_is_number) (defBody st_is_number) (defScope st_is_number) (.ref g9) kV9 dc9 pm9 an9 cd9 ct9), sl9⟩)
    (t9 : K.lookup g9 = some ⟨tc9, td9, .seq #[Value.none] tn9, ts9⟩)
    (c9 : PySem.W.codeIn K cd9 "is_number" = true) (k9 : PySem.W.keepIn K (.ref f9) = true)
    {f10 : Addr} {od10 an10 : Option Addr} {sl10 : Array (Option Value)} {oc10 kV10 dc10 pm10 cd10 ct10 : Value}
    (a10 : PySem.W.nsIn K mainGlobals "is_fraction" = some (some (.ref f10)))
    (l10 : K.lookup f10 = some ⟨oc10, od10, .func (PySem.W.fnOf "is_fraction" "is_fraction" (defArgs st_is_fraction) (defBody st_is_fraction) (defScope st_is_fraction) .none kV10 dc10 pm10 an10 cd10 ct10), sl10⟩)
    (c10 : PySem.W.codeIn K cd10 "is_fraction" = true) (k10 : PySem.W.keepIn K (.ref f10) = true)
    {f11 : Addr} {od11 an11 : Option Addr} {sl11 : Array (Option Value)} {oc11 kV11 dc11 pm11 cd11 ct11 : Value}
    (a11 : PySem.W.nsIn K mainGlobals "is_rate" = some (some (.ref f11)))
    (l11 : K.lookup f11 = some ⟨oc11, od11, .func (PySem.W.fnOf "is_rate" "is_rate" (defArgs st_is_rate) (defBody st_is_rate) (defScope st_is_rate) .none kV11 dc11 pm11 an11 cd11 ct11), sl11⟩)
    (c11 : PySem.W.codeIn K cd11 "is_rate" = true) (k11 : PySem.W.keepIn K (.ref f11) = true)
    {f12 : Addr} {od12 an12 : Option Addr} {sl12 : Array (Option Value)} {oc12 kV12 dc12 pm12 cd12 ct12 : Value}
    (a12 : PySem.W.nsIn K mainGlobals "need_rate" = some (some (.ref f12)))
    (l12 : K.lookup f12 = some ⟨oc12, od12, .func (PySem.W.fnOf "need_rate" "need_rate" (defArgs st_need_rate) (defBody st_need_rate) (defScope st_need_rate) .none kV12 dc12 pm12 an12 cd12 ct12), sl12⟩)
    (c12 : PySem.W.codeIn K cd12 "need_rate" = true) (k12 : PySem.W.keepIn K (.ref f12) = true)
    {f13 : Addr} {od13 an13 : Option Addr} {sl13 : Array (Option Value)} {oc13 kV13 dc13 pm13 cd13 ct13 : Value}
    (a13 : PySem.W.nsIn K mainGlobals "need_numbers" = some (some (.ref f13)))
    (l13 : K.lookup f13 = some ⟨oc13, od13, .func (PySem.W.fnOf "need_numbers" "need_numbers" (defArgs st_need_numbers) (defBody st_need_numbers) (defScope st_need_numbers) .none kV13 dc13 pm13 an13 cd13 ct13), sl13⟩)
    (c13 : PySem.W.codeIn K cd13 "need_numbers" = true) (k13 : PySem.W.keepIn K (.ref f13) = true)
    {f14 : Addr} {od14 an14 : Option Addr} {sl14 : Array (Option Value)} {oc14 kV14 dc14 pm14 cd14 ct14 : Value}
    (a14 : PySem.W.nsIn K mainGlobals "is_slow" = some (some (.ref f14)))
    (l14 : K.lookup f14 = some ⟨oc14, od14, .func (PySem.W.fnOf "is_slow" "is_slow" (defArgs st_is_slow) (defBody st_is_slow) (defScope st_is_slow) .none kV14 dc14 pm14 an14 cd14 ct14), sl14⟩)
    (c14 : PySem.W.codeIn K cd14 "is_slow" = true) (k14 : PySem.W.keepIn K (.ref f14) = true)
    {f15 : Addr} {od15 an15 : Option Addr} {sl15 : Array (Option Value)} {oc15 kV15 dc15 pm15 cd15 ct15 : Value}
    (a15 : PySem.W.nsIn K mainGlobals "stay_bound" = some (some (.ref f15)))
    (l15 : K.lookup f15 = some ⟨oc15, od15, .func (PySem.W.fnOf "stay_bound" "stay_bound" (defArgs st_stay_bound) (defBody st_stay_bound) (defScope st_stay_bound) .none kV15 dc15 pm15 an15 cd15 ct15), sl15⟩)
    (c15 : PySem.W.codeIn K cd15 "stay_bound" = true) (k15 : PySem.W.keepIn K (.ref f15) = true)
    {f16 : Addr} {od16 an16 : Option Addr} {sl16 : Array (Option Value)} {oc16 kV16 dc16 pm16 cd16 ct16 : Value}
    (a16 : PySem.W.nsIn K mainGlobals "trip_bound" = some (some (.ref f16)))
    (l16 : K.lookup f16 = some ⟨oc16, od16, .func (PySem.W.fnOf "trip_bound" "trip_bound" (defArgs st_trip_bound) (defBody st_trip_bound) (defScope st_trip_bound) .none kV16 dc16 pm16 an16 cd16 ct16), sl16⟩)
    (c16 : PySem.W.codeIn K cd16 "trip_bound" = true) (k16 : PySem.W.keepIn K (.ref f16) = true)
    {f17 : Addr} {od17 an17 : Option Addr} {sl17 : Array (Option Value)} {oc17 kV17 dc17 pm17 cd17 ct17 : Value}
    (a17 : PySem.W.nsIn K mainGlobals "wait_bound" = some (some (.ref f17)))
    (l17 : K.lookup f17 = some ⟨oc17, od17, .func (PySem.W.fnOf "wait_bound" "wait_bound" (defArgs st_wait_bound) (defBody st_wait_bound) (defScope st_wait_bound) .none kV17 dc17 pm17 an17 cd17 ct17), sl17⟩)
    (c17 : PySem.W.codeIn K cd17 "wait_bound" = true) (k17 : PySem.W.keepIn K (.ref f17) = true)
    {f18 : Addr} {od18 an18 : Option Addr} {sl18 : Array (Option Value)} {oc18 kV18 dc18 pm18 cd18 ct18 : Value}
    (a18 : PySem.W.nsIn K mainGlobals "_law_room" = some (some (.ref f18)))
    (l18 : K.lookup f18 = some ⟨oc18, od18, .func (PySem.W.fnOf "_law_room" "_law_room" (defArgs st__law_room) (defBody st__law_room) (defScope st__law_room) .none kV18 dc18 pm18 an18 cd18 ct18), sl18⟩)
    (c18 : PySem.W.codeIn K cd18 "_law_room" = true) (k18 : PySem.W.keepIn K (.ref f18) = true)
    {f19 : Addr} {od19 an19 : Option Addr} {sl19 : Array (Option Value)} {oc19 kV19 dc19 pm19 cd19 ct19 : Value}
    (a19 : PySem.W.nsIn K mainGlobals "_law_going" = some (some (.ref f19)))
    (l19 : K.lookup f19 = some ⟨oc19, od19, .func (PySem.W.fnOf "_law_going" "_law_going" (defArgs st__law_going) (defBody st__law_going) (defScope st__law_going) .none kV19 dc19 pm19 an19 cd19 ct19), sl19⟩)
    (c19 : PySem.W.codeIn K cd19 "_law_going" = true) (k19 : PySem.W.keepIn K (.ref f19) = true)
    {f20 : Addr} {od20 an20 : Option Addr} {sl20 : Array (Option Value)} {oc20 kV20 dc20 pm20 cd20 ct20 : Value}
    (a20 : PySem.W.nsIn K mainGlobals "_law_played" = some (some (.ref f20)))
    (l20 : K.lookup f20 = some ⟨oc20, od20, .func (PySem.W.fnOf "_law_played" "_law_played" (defArgs st__law_played) (defBody st__law_played) (defScope st__law_played) .none kV20 dc20 pm20 an20 cd20 ct20), sl20⟩)
    (c20 : PySem.W.codeIn K cd20 "_law_played" = true) (k20 : PySem.W.keepIn K (.ref f20) = true)
    {f21 : Addr} {od21 an21 : Option Addr} {sl21 : Array (Option Value)} {oc21 kV21 dc21 pm21 cd21 ct21 : Value}
    (a21 : PySem.W.nsIn K mainGlobals "law" = some (some (.ref f21)))
    (l21 : K.lookup f21 = some ⟨oc21, od21, .func (PySem.W.fnOf "law" "law" (defArgs st_law) (defBody st_law) (defScope st_law) .none kV21 dc21 pm21 an21 cd21 ct21), sl21⟩)
    (c21 : PySem.W.codeIn K cd21 "law" = true) (k21 : PySem.W.keepIn K (.ref f21) = true)
    (z_abs : PySem.W.nsIn K mainGlobals "abs" = some none)
    (z_all : PySem.W.nsIn K mainGlobals "all" = some none)
    (z_any : PySem.W.nsIn K mainGlobals "any" = some none)
    (z_bool : PySem.W.nsIn K mainGlobals "bool" = some none)
    (z_int : PySem.W.nsIn K mainGlobals "int" = some none)
    (z_isinstance : PySem.W.nsIn K mainGlobals "isinstance" = some none)
    (z_len : PySem.W.nsIn K mainGlobals "len" = some none)
    (z_max : PySem.W.nsIn K mainGlobals "max" = some none)
    (z_min : PySem.W.nsIn K mainGlobals "min" = some none)
    (z_range : PySem.W.nsIn K mainGlobals "range" = some none)
    (z_tuple : PySem.W.nsIn K mainGlobals "tuple" = some none)
    {tk_MOST_BELTS_OF_WAY : Tok} (y_MOST_BELTS_OF_WAY : PySem.W.nsIn K mainGlobals "MOST_BELTS_OF_WAY" = some (some (.int 60 tk_MOST_BELTS_OF_WAY)))
    {tk_MOST_BOTTOM : Tok} (y_MOST_BOTTOM : PySem.W.nsIn K mainGlobals "MOST_BOTTOM" = some (some (.int 1000 tk_MOST_BOTTOM)))
    : Tx K mg fa := by
  have e := hfa.symm.trans (PySem.W.mg_of X G a21)
  cases e
  exact ⟨{ f__law_box := ⟨f0, _, funD_mk l0 c0 k0, PySem.W.mg_of X G a0⟩, f__law_take := ⟨f1, _, funD_mk l1 c1 k1, PySem.W.mg_of X G a1⟩, f__law_pick := ⟨f2, _, funD_mk l2 c2 k2, PySem.W.mg_of X G a2⟩, f__law_web := ⟨f3, _, funD_mk l3 c3 k3, PySem.W.mg_of X G a3⟩, f__law_turns := ⟨f4, _, funD_mk l4 c4 k4, PySem.W.mg_of X G a4⟩, f__law_ways := ⟨f5, _, funD_mk l5 c5 k5, PySem.W.mg_of X G a5⟩, f__law_rate := ⟨f6, _, funD_mk l6 c6 k6, PySem.W.mg_of X G a6⟩, f_common_divisor := ⟨f7, _, funD_mk l7 c7 k7, PySem.W.mg_of X G a7⟩, f_is_integer := ⟨f8, _, funD_mk l8 c8 k8, PySem.W.mg_of X G a8⟩, f_is_number := ⟨f9, _, funD_mkN l9 t9 c9 k9, PySem.W.mg_of X G a9⟩, f_is_fraction := ⟨f10, _, funD_mk l10 c10 k10, PySem.W.mg_of X G a10⟩, f_is_rate := ⟨f11, _, funD_mk l11 c11 k11, PySem.W.mg_of X G a11⟩, f_need_rate := ⟨f12, _, funD_mk l12 c12 k12, PySem.W.mg_of X G a12⟩, f_need_numbers := ⟨f13, _, funD_mk l13 c13 k13, PySem.W.mg_of X G a13⟩, f_is_slow := ⟨f14, _, funD_mk l14 c14 k14, PySem.W.mg_of X G a14⟩, f_stay_bound := ⟨f15, _, funD_mk l15 c15 k15, PySem.W.mg_of X G a15⟩, f_trip_bound := ⟨f16, _, funD_mk l16 c16 k16, PySem.W.mg_of X G a16⟩, f_wait_bound := ⟨f17, _, funD_mk l17 c17 k17, PySem.W.mg_of X G a17⟩, f__law_room := ⟨f18, _, funD_mk l18 c18 k18, PySem.W.mg_of X G a18⟩, f__law_going := ⟨f19, _, funD_mk l19 c19 k19, PySem.W.mg_of X G a19⟩, f__law_played := ⟨f20, _, funD_mk l20 c20 k20, PySem.W.mg_of X G a20⟩, f_law := ⟨fa, _, funD_mk l21 c21 k21, PySem.W.mg_of X G a21⟩, b_abs := PySem.W.mg_none_of X G z_abs, b_all := PySem.W.mg_none_of X G z_all, b_any := PySem.W.mg_none_of X G z_any, b_bool := PySem.W.mg_none_of X G z_bool, b_int := PySem.W.mg_none_of X G z_int, b_isinstance := PySem.W.mg_none_of X G z_isinstance, b_len := PySem.W.mg_none_of X G z_len, b_max := PySem.W.mg_none_of X G z_max, b_min := PySem.W.mg_none_of X G z_min, b_range := PySem.W.mg_none_of X G z_range, b_tuple := PySem.W.mg_none_of X G z_tuple, c_MOST_BELTS_OF_WAY := ⟨_, PySem.W.mg_of X G y_MOST_BELTS_OF_WAY, ⟨_, rfl⟩⟩, c_MOST_BOTTOM := ⟨_, PySem.W.mg_of X G y_MOST_BOTTOM, ⟨_, rfl⟩⟩ }, rfl⟩
theorem at_law {l : PySem.W.OpenLaw} {w : World} {K : PySem.W.Frag} {mg : Str → Option Value} {fa : Addr} {ca : Nat → Addr} (t : Tx K mg fa) : ∃ fd : FuncData, (∀ (s : Shared) (u : Value), BindsTo s fd ⟨[u], []⟩ [("script", u)]) ∧ ∀ base : Heap, K.In base → base.Ns mainGlobals mg → FnOk l.prog w K mg base (L2.CX l.prog w) 12 fa fd ["script"] (spF ⟨K, ca, []⟩ 1 f_law) := by
  obtain ⟨T, rfl⟩ := t
  exact ⟨T.f_law.fd, fun s u => T.f_law.F.bindsA (ps := ["script"]) (fun _ _ _ _ _ _ us hl => match us, hl with | [_], _ => rfl) s [u] rfl, fun base _ _ => ok_law T⟩
end K55

set_option maxRecDepth 100000
set_option maxHeartbeats 1000000
set_option linter.all false
namespace K55
open PySem L2 DL
/-- the box at b -/
def Box (h : LH) (b : Nat) : Prop := ∃ c0 c1 c2 : Int, lsAt h b = some [.int c0, .int c1, .int c2] ∧ 0 ≤ c0 ∧ 0 < c1 ∧ 0 ≤ c2
/-- only the box has changed -/
structure Upd (b : Nat) (h h' : LH) : Prop where
  len : h'.length = h.length
  oth : ∀ k, k ≠ b → h'[k]? = h[k]?
  box : Box h' b
theorem ixN_at {n : Nat} {i : Int} (h0 : 0 ≤ i) (h1 : i < n) : ixN n i = some i.toNat := by unfold ixN; rw [if_pos h0, if_pos h1]
theorem atI_at {xs : List D} {i : Int} {d : D} (h0 : 0 ≤ i) (h1 : xs[i.toNat]? = some d) : atI xs i = some d := by
  have hl := (List.getElem?_eq_some_iff.mp h1).1
  unfold atI
  rw [ixN_at h0 (by omega)]
  exact h1
@[simp] theorem atI_0 {x : D} {xs : List D} : atI (x :: xs) 0 = some x := atI_at (by decide) rfl
@[simp] theorem atI_1 {x y : D} {xs : List D} : atI (x :: y :: xs) 1 = some y := atI_at (by decide) rfl
@[simp] theorem atI_2 {x y z : D} {xs : List D} : atI (x :: y :: z :: xs) 2 = some z := atI_at (by decide) rfl
@[simp] theorem ixN3_0 : ixN 3 0 = some 0 := rfl
@[simp] theorem ixN3_1 : ixN 3 1 = some 1 := rfl
@[simp] theorem ixN3_2 : ixN 3 2 = some 2 := rfl
theorem mul_l {i j : Int} (h1 : -(2 ^ 64) < i) (h2 : i < 2 ^ 64) : mulOk i j = true := by
  unfold mulOk
  simp only [Bool.or_eq_true, Bool.and_eq_true, decide_eq_true_eq]
  exact .inl (.inl ⟨h1, h2⟩)
theorem mul_r {i j : Int} (h1 : -(2 ^ 64) < j) (h2 : j < 2 ^ 64) : mulOk i j = true := by
  unfold mulOk
  simp only [Bool.or_eq_true, Bool.and_eq_true, decide_eq_true_eq]
  exact .inl (.inr ⟨h1, h2⟩)
theorem divOk_of {j : Int} (h1 : 0 < j) (h2 : j < 1073741824) : divOk j = true := by
  unfold divOk
  simp [h1, h2]
theorem upd_of {h : LH} {b : Nat} (hlt : b < h.length) {c0 c1 c2 : Int} (p0 : 0 ≤ c0) (p1 : 0 < c1) (p2 : 0 ≤ c2) : Upd b h (h.set b (.lst [.int c0, .int c1, .int c2])) where
  len := List.length_set
  oth := fun k hk => by rw [List.getElem?_set_ne (Ne.symm hk)]
  box := ⟨c0, c1, c2, by rw [lsAt_set hlt, if_pos rfl], p0, p1, p2⟩
theorem take_is {h : LH} {b : Nat} {many : Int} {P : D → LH → Prop} (hb : Box h b) (h1 : 0 < many) (h2 : many < 1073741824)
    (k : ∀ (r : Int) (h' : LH), 0 ≤ r → r < many → Upd b h h' → P (.int r) h') : Is (f__law_take [.loc b, .int many] h) P := by
  obtain ⟨c0, c1, c2, hl, p0, p1, p2⟩ := hb
  have hlt := lsAt_lt hl
  unfold f__law_take
  refine fin_is ?_
  unfold m__law_take
  simp [hl, h1, hlt, lsAt_set, mul_l, mul_r, divOk_of, h2]
  split
  · exact k _ _ (Int.emod_nonneg _ (by omega)) (Int.emod_lt_of_pos _ h1) (upd_of hlt (Int.ediv_nonneg p0 (by omega)) p1 p2)
  · refine k _ _ (Int.emod_nonneg _ (by omega)) (Int.emod_lt_of_pos _ h1) (upd_of hlt p0 ?_ (by omega))
    have := Int.emod_nonneg ((((c1 + 69031 * (c2 + 1)) * 48611 + 911) % 2147483543 * 39019 + 28001)) (show (2147483629 : Int) ≠ 0 by decide)
    omega
theorem Upd.ls {b k : Nat} {h h' : LH} (u : Upd b h h') (hk : k ≠ b) : lsAt h' k = lsAt h k := by unfold lsAt; rw [u.oth k hk]
theorem Upd.trans {b : Nat} {h h' h'' : LH} (u : Upd b h h') (v : Upd b h' h'') : Upd b h h'' := ⟨v.len.trans u.len, fun k hk => (v.oth k hk).trans (u.oth k hk), v.box⟩
theorem pick_is {h : LH} {b : Nat} {x : D} {xs : List D} {P : D → LH → Prop} (hb : Box h b) (hx : seqA h x = some xs) (hx' : ∀ h', Upd b h h' → seqA h' x = some xs) (h1 : 0 < xs.length) (h2 : xs.length < 1073741824)
    (k : ∀ (i : Nat) (d : D) (h' : LH), xs[i]? = some d → Upd b h h' → P d h') : Is (f__law_pick [.loc b, x] h) P := by
  unfold f__law_pick
  refine fin_is ?_
  unfold m__law_pick
  simp [hx]
  refine take_is hb (by omega) (by omega) fun r h' r0 r1 u => ?_
  have hr : r.toNat < xs.length := by omega
  simp [hx' h' u, atI_at r0 (List.getElem?_eq_getElem hr)]
  exact k r.toNat _ h' (List.getElem?_eq_getElem hr) u
theorem atI_ints {ns : List Int} {i : Int} (h0 : 0 ≤ i) (h1 : i < ns.length) : ∃ v, atI (ns.map D.int) i = some (.int v) :=
  ⟨ns[i.toNat], atI_at h0 (by rw [List.getElem?_map, List.getElem?_eq_getElem (by omega)]; rfl)⟩
theorem big_is {σ : DL.Env} {h : LH} : e2 (oMul false) (e2 (oMul false) (e2 iPow (eC (.int 10)) (eC (.int 60))) (e2 iPow (eC (.int 10)) (eC (.int 60)))) (e2 iPow (eC (.int 10)) (eC (.int 60))) σ h = some (.ok (.int (10 ^ 180)), h) := by
  have p1 : powOk 10 60 = true := by decide +kernel
  have m1 : mulOk (10 ^ 60) (10 ^ 60) = true := by decide +kernel
  have m2 : mulOk (10 ^ 60 * 10 ^ 60) (10 ^ 60) = true := by decide +kernel
  have e : (10 ^ 60 * 10 ^ 60 * 10 ^ 60 : Int) = 10 ^ 180 := by decide +kernel
  simp only [x_e2, x_eC, bnd_ok, x_iPow, p1, if_true, x_iMul, show (60 : Int).toNat = 60 from rfl, m1, m2, e]
theorem p18_is {σ : DL.Env} {h : LH} : e2 iPow (eC (.int 10)) (eC (.int 18)) σ h = some (.ok (.int 1000000000000000000), h) := by
  have p1 : powOk 10 18 = true := by decide +kernel
  simp only [x_e2, x_eC, bnd_ok, x_iPow, p1, if_true, show (18 : Int).toNat = 18 from rfl]
  rfl
theorem box_is {h : LH} {ns : List Int} {i : Int} {P : D → LH → Prop} (h0 : 0 ≤ i) (hi : i < 1000)
    (k : ∀ (c0 c1 : Int), 0 ≤ c0 → 0 < c1 → P (.loc h.length) (h ++ [.lst [.int c0, .int c1, .int 0]])) : Is (f__law_box [.scr ns, .int i] h) P := by
  unfold f__law_box
  refine fin_is ?_
  unfold m__law_box
  have fin : ∀ (c : Int), 0 ≤ c → Is (sRet (eLst true (aCons (e2 oIx (eLst false (aCons (eC (.int 0)) (aCons (eVar 2) (aNil)))) (eBi bInt (aCons (e2 cGe (eVar 2) (e2 iPow (eC (.int 10)) (eC (.int 18)))) (aNil)))) (aCons (e2 (oAdd false) (e2 iMod (eBi bInt (aCons (e2 (oAdd false) (e2 (oMul false) (e2 iMod (eBi bInt (aCons (eVar 2) (aNil))) (eC (.int 2147483629))) (eC (.int 31013))) (e2 (oMul false) (eC (.int 46021)) (eVar 1))) (aNil))) (eC (.int 2147483629))) (eC (.int 1))) (aCons (eC (.int 0)) (aNil))))) [some (.scr ns), some (.int i), some (.int c)] h) fun r h' => match r with
      | (.nx, _) => P .non h'
      | (.rt d, _) => P d h'
      | _ => False := fun c hc => by
    have e18 : ∀ σ h, e2 cGe (eVar 2) (e2 iPow (eC (.int 10)) (eC (.int 18))) σ h = bnd (eVar 2 σ h) fun x h1 => cGe x (.int 1000000000000000000) h1 := fun σ h => by
      show bnd (eVar 2 σ h) (fun x h1 => bnd (e2 iPow (eC (.int 10)) (eC (.int 18)) σ h1) fun y h2 => cGe x y h2) = _
      congr 1
    have hp := Int.emod_nonneg (c % 2147483629 * 31013 + 46021 * i) (show (2147483629 : Int) ≠ 0 by decide)
    have pw : powOk 10 18 = true := by decide +kernel
    by_cases hbig : (1000000000000000000 : Int) ≤ c
    · simp [hbig, mul_l, mul_r, pw, line]
      refine k _ _ hc ?_
      omega
    · simp [hbig, mul_l, mul_r, pw, line]
      refine k _ _ (Int.le_refl _) ?_
      omega
  have pw : powOk 10 60 = true := by decide +kernel
  have m1 : mulOk 1000000000000000000000000000000000000000000000000000000000000 1000000000000000000000000000000000000000000000000000000000000 = true := by decide +kernel
  have m2 : mulOk 1000000000000000000000000000000000000000000000000000000000000000000000000000000000000000000000000000000000000000000000000 1000000000000000000000000000000000000000000000000000000000000 = true := by decide +kernel
  simp [mul_l, pw, m1, m2, -x_sRet]
  split
  · rename_i hlt
    obtain ⟨v, hv⟩ := atI_ints h0 hlt
    simp [hv, -x_sRet]
    exact fin _ (Int.emod_nonneg _ (by omega))
  · split
    · rename_i hlen
      obtain ⟨v, hv⟩ := atI_ints (ns := ns) (Int.emod_nonneg i (show (ns.length : Int) ≠ 0 by omega)) (Int.emod_lt_of_pos i (by omega))
      refine ⟨hlen, ?_⟩
      simp [hv, mul_r, -x_sRet]
      refine fin _ ?_
      have := Int.emod_nonneg (if v < 0 then -v else v) (show (2147483629 : Int) ≠ 0 by decide)
      omega
    · exact fin _ (by omega)

/-! ### numbers -/
@[simp] theorem x_fin {q : Nat} {b : SV} {ds : List D} {h : LH} : finD false q b ds h = match b (ds.map some ++ List.replicate q none) h with
  | some (.ok (.nx, _), h') => some (.ok .non, h')
  | some (.ok (.rt d, _), h') => some (.ok d, h')
  | some (.ex c x, h') => some (.ex c x, h')
  | _ => none := rfl
@[simp] theorem is_integer_int {m : Int} {h : LH} : f_is_integer [.int m] h = some (.ok (.bl true), h) := by
  simp [f_is_integer, m_is_integer, tyD, isT]
@[simp] theorem is_number1 {m : Int} {h : LH} : f_is_number [.int m, .non] h = some (.ok (.bl (decide (0 ≤ m))), h) := by
  by_cases h0 : 0 ≤ m <;> simp [f_is_number, m_is_number, h0]
@[simp] theorem is_number2 {m n : Int} {h : LH} : f_is_number [.int m, .int n] h = some (.ok (.bl (decide (0 ≤ m ∧ m ≤ n))), h) := by
  by_cases h0 : 0 ≤ m <;> simp [f_is_number, m_is_number, h0]
theorem gcd_step {x y : Int} (hx : 0 ≤ x) (hy : 0 < y) : Int.gcd y (x % y) = Int.gcd x y := by
  obtain ⟨n, rfl⟩ := Int.eq_ofNat_of_zero_le hx
  obtain ⟨m, rfl⟩ := Int.eq_ofNat_of_zero_le (Int.le_of_lt hy)
  show Nat.gcd ((m : Int)).natAbs ((n : Int) % (m : Int)).natAbs = Nat.gcd ((n : Int)).natAbs ((m : Int)).natAbs
  have e : ((n : Int) % (m : Int)).natAbs = n % m := by omega
  rw [e, Int.natAbs_natCast, Int.natAbs_natCast, Nat.gcd_comm n m, Nat.gcd_comm m (n % m), ← Nat.gcd_rec]
theorem divisor_is {a b : Int} {h : LH} (ha : 0 ≤ a) (hb : 0 ≤ b) (hb2 : b < 1000000) : f_common_divisor [.int a, .int b] h = some (.ok (.int (Int.gcd a b)), h) := by
  have go : Is (f_common_divisor [.int a, .int b] h) fun d h' => d = .int (Int.gcd a b) ∧ h' = h := by
    unfold f_common_divisor
    refine fin_is ?_
    unfold m_common_divisor
    simp only [x_sSeq, is_bnd]
    show Is (whileD _ _ fuel _ _) _
    refine while_is (fun n σ h' => h' = h ∧ ∃ x y : Int, σ = [some (.int x), some (.int y)] ∧ 0 ≤ x ∧ 0 ≤ y ∧ n = y.toNat ∧ Int.gcd x y = Int.gcd a b) ?_ fuel b.toNat (by unfold fuel; omega) ⟨rfl, a, b, rfl, ha, hb, rfl, rfl⟩
    rintro n σ h' ⟨rfl, x, y, rfl, hx, hy, rfl, hg⟩
    by_cases hp : 0 < y
    · simp [hp]
      refine ⟨(x % y).toNat, ?_, y, x % y, ⟨rfl, rfl⟩, hy, Int.emod_nonneg _ (by omega), rfl, ?_⟩
      · have := Int.emod_lt_of_pos x hp
        have := Int.emod_nonneg x (show y ≠ 0 by omega)
        omega
      · rw [← hg]
        exact gcd_step hx hp
    · have e : y = 0 := by omega
      subst e
      simp
      have : Int.gcd x 0 = x.natAbs := Int.gcd_zero_right x
      rw [this] at hg
      omega
  obtain ⟨d, h', e, rfl, rfl⟩ := go
  exact e
theorem rate_ok {p q : Int} {h : LH} (h0 : 0 < p) (h1 : p < q) (h2 : q ≤ 1000) (hg : Int.gcd p q = 1) : f_is_rate [.tup [.int p, .int q]] h = some (.ok (.bl true), h) := by
  have hd := divisor_is (a := p) (b := q) (h := h) (by omega) (by omega) (by omega)
  rw [hg] at hd
  have e1 : (0 : Int) ≤ p := by omega
  have e2 : (0 : Int) ≤ q := by omega
  have e3 : (0 : Int) < q := by omega
  have hf : f_is_fraction [.tup [.int p, .int q]] h = some (.ok (.bl true), h) := by
    simp [f_is_fraction, m_is_fraction, tyD, isT, line, compD, e1, e2, e3, hd, bAll, blsD, wipeD]
  simp [f_is_rate, m_is_rate, hf, h0, h1, h2]
theorem need_ok {p q b d : Int} {h : LH} (h0 : 0 < p) (h1 : p < q) (h2 : q ≤ 1000) (hg : Int.gcd p q = 1) (hb : 0 < b) (hd : 0 < d) (hd2 : d ≤ 60) : f_need_numbers [.tup [.int p, .int q], .int b, .int d] h = some (.ok .non, h) := by
  have hr := rate_ok (h := h) h0 h1 h2 hg
  have hn : f_need_rate [.tup [.int p, .int q]] h = some (.ok .non, h) := by
    simp [f_need_rate, m_need_rate, hr]
  have e1 : (0 : Int) ≤ b := by omega
  have e2 : (0 : Int) ≤ d := by omega
  have e3 : b ≠ 0 := by omega
  have e4 : d ≠ 0 := by omega
  simp [f_need_numbers, m_need_numbers, hn, e1, e2, e3, e4, hd2]
/-- the bounds -/
def stayB (p q b d : Int) : Int := (b - 1) * q / (q - p * d) + 1
theorem bounds_ok {p q b d : Int} {h : LH} (h0 : 0 < p) (h1 : p < q) (h2 : q ≤ 1000) (hg : Int.gcd p q = 1) (hb : 0 < b) (hb2 : b ≤ 1000) (hd : 0 < d) (hd2 : d ≤ 60) (hs : p * d < q) :
    f_stay_bound [.tup [.int p, .int q], .int b, .int d] h = some (.ok (.int (stayB p q b d)), h) ∧ f_trip_bound [.tup [.int p, .int q], .int b, .int d] h = some (.ok (.int (stayB p q b d * d)), h) ∧
      f_wait_bound [.tup [.int p, .int q], .int b, .int d] h = some (.ok (.int (p * (stayB p q b d * d) / q + b)), h) := by
  have hn := need_ok (h := h) h0 h1 h2 hg hb hd hd2
  have hn1 := need_ok (h := h) h0 h1 h2 hg (show (0 : Int) < 1 by decide) hd hd2
  have m1 : mulOk p d = true := mul_l (by omega) (by omega)
  have m2 : mulOk (b - 1) q = true := mul_l (by omega) (by omega)
  have hsl : f_is_slow [.tup [.int p, .int q], .int d] h = some (.ok (.bl true), h) := by
    simp [f_is_slow, m_is_slow, hn1, m1, hs]
  have d1 : divOk (q - p * d) = true := divOk_of (by omega) (by have := Int.mul_pos h0 hd; omega)
  have s1 : f_stay_bound [.tup [.int p, .int q], .int b, .int d] h = some (.ok (.int (stayB p q b d)), h) := by
    simp [f_stay_bound, m_stay_bound, hn, hsl, m1, m2, d1, stayB]
  have m3 : mulOk (stayB p q b d) d = true := mul_r (by omega) (by omega)
  have s2 : f_trip_bound [.tup [.int p, .int q], .int b, .int d] h = some (.ok (.int (stayB p q b d * d)), h) := by
    simp [f_trip_bound, m_trip_bound, s1, m3]
  have m4 : mulOk p (stayB p q b d * d) = true := mul_l (by omega) (by omega)
  have d2 : divOk q = true := divOk_of (by omega) (by omega)
  refine ⟨s1, s2, ?_⟩
  simp [f_wait_bound, m_wait_bound, s2, m4, d2]
end K55

set_option maxRecDepth 100000
set_option maxHeartbeats 1000000
set_option linter.all false
namespace K55
open PySem L2 DL
theorem oNe_loc {h : LH} {k : Nat} {xs : List D} (e : lsAt h k = some xs) (hf : ∀ x ∈ xs, flat 60 x) : oNe (.loc k) (.lst []) h = some (.ok (.bl (!xs.isEmpty)), h) := by
  rw [x_oNe (by rw [topD_loc e]; exact flat_ok (flat_lst hf) (by decide)) rfl, topD_loc e]
  simp
theorem oEq_loc {h : LH} {k : Nat} {xs : List D} (e : lsAt h k = some xs) (hf : ∀ x ∈ xs, flat 60 x) : oEq (.loc k) (.lst []) h = some (.ok (.bl xs.isEmpty), h) := by
  rw [x_oEq (by rw [topD_loc e]; exact flat_ok (flat_lst hf) (by decide)) rfl, topD_loc e]
  simp
theorem oNe_lst {h : LH} {xs : List D} (hf : ∀ x ∈ xs, flat 60 x) : oNe (.lst xs) (.lst []) h = some (.ok (.bl (!xs.isEmpty)), h) := by
  rw [x_oNe]
  · simp
  · exact flat_ok (flat_lst hf) (by decide)
  · rfl
theorem oNe_tup {h : LH} {xs : List D} (hf : ∀ x ∈ xs, flat 60 x) : oNe (.tup xs) (.tup []) h = some (.ok (.bl (!xs.isEmpty)), h) := by
  rw [x_oNe]
  · simp
  · exact flat_ok (flat_tup hf) (by decide)
  · rfl
theorem oEq_tup {h : LH} {xs : List D} (hf : ∀ x ∈ xs, flat 60 x) : oEq (.tup xs) (.tup []) h = some (.ok (.bl xs.isEmpty), h) := by
  rw [x_oEq]
  · simp
  · exact flat_ok (flat_tup hf) (by decide)
  · rfl
/-- what stood before the def began stands but for the box -/
structure Fr (b : Nat) (h0 h : LH) : Prop where
  len : h0.length ≤ h.length
  oth : ∀ k, k < h0.length → k ≠ b → h[k]? = h0[k]?
  box : Box h b
  lt : b < h0.length
theorem Box.lt {h : LH} {b : Nat} (hb : Box h b) : b < h.length := by obtain ⟨_, _, _, e, _⟩ := hb; exact lsAt_lt e
theorem Fr.refl {b : Nat} {h : LH} (hb : Box h b) : Fr b h h := ⟨Nat.le_refl _, fun _ _ _ => rfl, hb, hb.lt⟩
theorem Fr.upd {b : Nat} {h0 h h' : LH} (f : Fr b h0 h) (u : Upd b h h') : Fr b h0 h' := ⟨by rw [u.len]; exact f.len, fun k hk hn => (u.oth k hn).trans (f.oth k hk hn), u.box, f.lt⟩
theorem Box.app {b : Nat} {h h' : LH} (hb : Box h b) : Box (h ++ h') b := by
  obtain ⟨c0, c1, c2, e, r⟩ := hb
  exact ⟨c0, c1, c2, lsAt_app e, r⟩
theorem Fr.app {b : Nat} {h0 h h' : LH} (f : Fr b h0 h) : Fr b h0 (h ++ h') := ⟨by rw [List.length_append]; have := f.len; omega, fun k hk hn => by
  rw [List.getElem?_append_left (by have := f.len; omega)]; exact f.oth k hk hn, f.box.app, f.lt⟩
theorem Fr.set {b k : Nat} {h0 h : LH} {o : LO} (f : Fr b h0 h) (hk : h0.length ≤ k) : Fr b h0 (h.set k o) := ⟨by rw [List.length_set]; exact f.len, fun j hj hn => by
  rw [List.getElem?_set_ne (by omega)]; exact f.oth j hj hn, by
  obtain ⟨c0, c1, c2, e, r⟩ := f.box
  refine ⟨c0, c1, c2, ?_, r⟩
  have : k ≠ b := by have := f.lt; omega
  unfold lsAt at e ⊢
  rw [List.getElem?_set_ne this]
  exact e, f.lt⟩
theorem Fr.gc {b : Nat} {h0 h : LH} (f : Fr b h0 h) : gcOk h0 h ∧ Upd b h0 (h.take h0.length) := by
  refine ⟨fun i o hi ho => ?_, ?_, fun k hk => ?_, ?_⟩
  · by_cases e : i = b
    · obtain ⟨c0, c1, c2, q, _⟩ := f.box
      right
      have := lsAt_some q
      rw [← e, ho] at this
      cases this
      rfl
    · left; rw [← f.oth i hi e]; exact ho
  · rw [List.length_take]; have := f.len; omega
  · by_cases hk2 : k < h0.length
    · rw [List.getElem?_take_of_lt hk2, f.oth k hk2 hk]
    · rw [List.getElem?_eq_none (by rw [List.length_take]; omega), List.getElem?_eq_none (by omega)]
  · obtain ⟨c0, c1, c2, e, r⟩ := f.box
    refine ⟨c0, c1, c2, ?_, r⟩
    unfold lsAt at e ⊢
    rw [List.getElem?_take_of_lt f.lt]
    exact e
theorem Upd.fr {b : Nat} {h0 h : LH} (u : Upd b h0 h) (hb : b < h0.length) : Fr b h0 h := ⟨by rw [u.len]; exact Nat.le_refl _, fun k _ hn => u.oth k hn, u.box, hb⟩
def pr (z : Int × Int) : D := .tup [.int z.1, .int z.2]
theorem pr_flat (z : Int × Int) : flat 60 (pr z) := flat_tup (n := 59) fun x hx => by
  rcases List.mem_cons.mp hx with rfl | hx
  · exact flat_int
  · rcases List.mem_cons.mp hx with rfl | hx
    · exact flat_int
    · cases hx
theorem prs_flat (zs : List (Int × Int)) : ∀ x ∈ zs.map pr, flat 60 x := fun x hx => by
  obtain ⟨z, _, rfl⟩ := List.mem_map.mp hx
  exact pr_flat z
theorem atI_last {zs : List (Int × Int)} (h : zs ≠ []) : ∃ z, atI (zs.map pr) (-1) = some (pr z) := by
  have hl := List.length_pos_iff.mpr h
  refine ⟨zs[zs.length - 1], ?_⟩
  unfold atI ixN
  rw [if_neg (by decide), if_pos (by rw [List.length_map]; omega)]
  show (zs.map pr)[(-1 + ((zs.map pr).length : Int)).toNat]? = _
  have e : (-1 + ((zs.map pr).length : Int)).toNat = zs.length - 1 := by rw [List.length_map]; omega
  rw [e, List.getElem?_map, List.getElem?_eq_getElem (by omega)]
  rfl
theorem atI_first {zs : List (Int × Int)} (h : zs ≠ []) : ∃ z, atI (zs.map pr) 0 = some (pr z) := by
  cases zs with
  | nil => exact absurd rfl h
  | cons z r => exact ⟨z, atI_at (by decide) rfl⟩
theorem pr_get {zs : List (Int × Int)} {i : Nat} {d : D} (h : (zs.map pr)[i]? = some d) : ∃ z, d = pr z := by
  obtain ⟨z, _, rfl⟩ := List.mem_map.mp (List.mem_of_getElem? h)
  exact ⟨z, rfl⟩
theorem web_is {h : LH} {b : Nat} {P : D → LH → Prop} (hb : Box h b)
    (k : ∀ (pl : Int) (zs : List (Int × Int)) (h' : LH), zs.length ≤ 10 → Upd b h h' → P (.tup [.int pl, .tup (zs.map pr)]) h') : Is (f__law_web [.loc b, .int 6, .int 10] h) P := by
  unfold f__law_web
  refine fing_is ?_
  unfold m__law_web
  simp [-x_sFor]
  refine take_is hb (by decide) (by decide) fun r0 h1 g0 g1 u1 => ?_
  simp [line, rOk]
  have f1 : Fr b h (h1 ++ [.lst []]) := (u1.fr hb.lt).app
  have l1 : lsAt (h1 ++ [.lst []]) h.length = some [] := by rw [← u1.len]; exact lsAt_new
  refine take_is f1.box (by decide) (by decide) fun r1 h2 g2 g3 u2 => ?_
  have e1 : -4611686018427387904 ≤ 1 + r1 ∧ 1 + r1 < 4611686018427387904 := by omega
  simp [e1]
  have nb : h.length ≠ b := by have := hb.lt; omega
  refine forR_is (fun i σ h' => ∃ (o5 o6 o7 : Option D) (zs : List (Int × Int)), σ = [some (.loc b), some (.int 6), some (.int 10), some (.int (2 + r0)), some (.loc h.length), o5, o6, o7] ∧ Fr b h h' ∧ lsAt h' h.length = some (zs.map pr) ∧ zs.length ≤ i) (1 + r1).toNat ?_ ?_
    ⟨none, none, none, [], by rw [u1.len], f1.upd u2, by rw [u2.ls nb]; exact l1, Nat.le_refl _⟩
  · rintro i σ h3 hi ⟨o5, o6, o7, zs, rfl, f3, l3, hz⟩
    simp
    refine take_is f3.box (by omega) (by omega) fun a h4 a0 a1 u4 => ?_
    simp
    refine take_is u4.box (by omega) (by omega) fun c h5 c0 c1 u5 => ?_
    have f5 := (f3.upd u4).upd u5
    have l5 : lsAt h5 h.length = some (zs.map pr) := by rw [u5.ls nb, u4.ls nb]; exact l3
    have hp : (0 : Int) < 2 + r0 := by omega
    simp [hp, line, oNe_loc l5 (prs_flat zs)]
    have hz9 : zs.length ≤ 9 := by omega
    have fin : ∀ (x y : Int) (h6 : LH), Fr b h h6 → lsAt h6 h.length = some (zs.map pr) → ∀ {c : Prop} [Decidable c],
        if c then Fr b h h6 ∧ ∃ x : List (Int × Int), lsAt h6 h.length = some (x.map pr) ∧ x.length ≤ i + 1 else (lsAt h6 h.length).isSome = true ∧ Is ((lsAt h6 h.length).elim none fun xs =>
            if xs.length < 16777216 then some (R.ok D.non, h6.set h.length (LO.lst (xs ++ [D.tup [D.int x, D.int y]]))) else none)
          fun a h_1 => Fr b h h_1 ∧ ∃ x : List (Int × Int), lsAt h_1 h.length = some (x.map pr) ∧ x.length ≤ i + 1 := by
      intro x y h6 f6 l6 c _
      have hk := lsAt_lt l6
      split
      · exact ⟨f6, zs, l6, by omega⟩
      · simp [l6]
        exact ⟨by omega, f6.set (Nat.le_refl _), zs ++ [(x, y)], by rw [lsAt_set hk, if_pos rfl]; simp [pr], by simp; omega⟩
    split
    · exact fin _ _ h5 f5 l5
    · rename_i hne
      refine take_is f5.box (by decide) (by decide) fun r2 h6 g4 g5 u6 => ?_
      have f6 := f5.upd u6
      have l6 : lsAt h6 h.length = some (zs.map pr) := by rw [u6.ls nb]; exact l5
      simp
      by_cases hr : r2 = 0
      · obtain ⟨zl, hl⟩ := atI_last hne
        obtain ⟨zf, hf⟩ := atI_first hne
        simp [hr, l6, hl, hf, pr, oRevA]
        refine pick_is f6.box (xs := zs.map pr) (by rw [seqA_loc]; exact l6) (fun h' u => by rw [seqA_loc, u.ls nb]; exact l6) (by rw [List.length_map]; exact List.length_pos_iff.mpr hne) (by rw [List.length_map]; omega) fun j d h7 hd u7 => ?_
        obtain ⟨zd, rfl⟩ := pr_get hd
        have l7 : lsAt h7 h.length = some (zs.map pr) := by rw [u7.ls nb]; exact l6
        refine pick_is u7.box (xs := [D.tup [.int zl.1, .int zl.2], D.tup [.int zl.2, .int zl.1], D.tup [.int zl.2, .int zf.1], pr zd]) rfl (fun _ _ => rfl) (by simp) (by simp) fun j2 d2 h8 hd2 u8 => ?_
        obtain ⟨z, rfl⟩ : ∃ z, d2 = pr z := by
          have := List.mem_of_getElem? hd2
          simp only [List.mem_cons, List.not_mem_nil, or_false] at this
          rcases this with rfl | rfl | rfl | rfl
          · exact ⟨zl, rfl⟩
          · exact ⟨(zl.2, zl.1), rfl⟩
          · exact ⟨(zl.2, zf.1), rfl⟩
          · exact ⟨zd, rfl⟩
        have l8 : lsAt h8 h.length = some (zs.map pr) := by rw [u8.ls nb]; exact l7
        simp [pr]
        exact fin _ _ h8 ((f6.upd u7).upd u8) l8
      · simp [hr]
        exact fin _ _ h6 f6 l6
  · rintro σ h3 ⟨o5, o6, o7, zs, rfl, f3, l3, hz⟩
    obtain ⟨ok, u⟩ := f3.gc
    simp [l3, line]
    refine ⟨ok, _, ?_, k (2 + r0) zs _ (by omega) u⟩
    refine frz_tup (ys := [.int (2 + r0), .tup (zs.map pr)]) ?_
    have e : frz h3 h.length 63 (.tup (zs.map pr)) = some (.tup (zs.map pr)) := by
      refine frz_tup (mapO_same fun x hx => ?_)
      obtain ⟨z, _, rfl⟩ := List.mem_map.mp hx
      exact frz_tup (mapO_same fun y hy => by
        rcases List.mem_cons.mp hy with rfl | hy
        · exact frz_int
        · rcases List.mem_cons.mp hy with rfl | hy
          · exact frz_int
          · cases hy)
    simp [mapO, e]
end K55

set_option maxRecDepth 100000
set_option maxHeartbeats 1000000
set_option linter.all false
namespace K55
open PySem L2 DL
theorem deps_all : ∀ {xs : List D} {k : Nat}, deps xs = some k → ∀ x ∈ xs, ∃ j, dep x = some j ∧ j ≤ k
  | [], k, e, x, hx => by cases hx
  | y :: ys, k, e, x, hx => by
    unfold deps at e
    split at e
    · rename_i a b e1 e2
      cases e
      rcases List.mem_cons.mp hx with rfl | hx
      · exact ⟨a, e1, by omega⟩
      · obtain ⟨j, h1, h2⟩ := deps_all e2 x hx
        exact ⟨j, h1, by omega⟩
    · cases e
theorem frz_flat {h : LH} {n : Nat} : ∀ (f : Nat) (d : D), flat f d → frz h n (f + 1) d = some d
  | f, .non, _ => by unfold frz; rfl
  | f, .bl _, _ => by unfold frz; rfl
  | f, .int _, _ => by unfold frz; rfl
  | f, .str _, _ => by unfold frz; rfl
  | 0, .tup xs, ⟨k, e, hk⟩ => by
    unfold dep at e
    obtain ⟨j, _, rfl⟩ := Option.map_eq_some_iff.mp e
    omega
  | 0, .lst xs, ⟨k, e, hk⟩ => by
    unfold dep at e
    obtain ⟨j, _, rfl⟩ := Option.map_eq_some_iff.mp e
    omega
  | f + 1, .tup xs, ⟨k, e, hk⟩ => by
    unfold dep at e
    obtain ⟨j, ej, rfl⟩ := Option.map_eq_some_iff.mp e
    exact frz_tup (mapO_same fun x hx => by
      obtain ⟨i, h1, h2⟩ := deps_all ej x hx
      exact frz_flat f x ⟨i, h1, by omega⟩)
  | f + 1, .lst xs, ⟨k, e, hk⟩ => by
    unfold dep at e
    obtain ⟨j, ej, rfl⟩ := Option.map_eq_some_iff.mp e
    exact frz_lst (mapO_same fun x hx => by
      obtain ⟨i, h1, h2⟩ := deps_all ej x hx
      exact frz_flat f x ⟨i, h1, by omega⟩)
  | f, .obj _ _ _, ⟨k, e, hk⟩ => by unfold dep at e; cases e
  | f, .loc _, ⟨k, e, hk⟩ => by unfold dep at e; cases e
  | f, .scr _, ⟨k, e, hk⟩ => by unfold dep at e; cases e
theorem flat_mono {d : D} {m n : Nat} (h : flat m d) (k : m ≤ n) : flat n d := let ⟨j, e, l⟩ := h; ⟨j, e, Nat.le_trans l k⟩
/-- numbers as a list of values -/
def nd (w : List Nat) : List D := w.map fun (e : Nat) => D.int (e : Int)
def wy (w : List Nat) : D := .tup (nd w)
@[simp] theorem nd_len (w : List Nat) : (nd w).length = w.length := by simp [nd]
theorem nd_flat (w : List Nat) : ∀ x ∈ nd w, flat 0 x := fun x hx => by
  obtain ⟨e, _, rfl⟩ := List.mem_map.mp hx
  exact flat_int
theorem wy_flat (w : List Nat) : flat 1 (wy w) := flat_tup (nd_flat w)
theorem nd_get {w : List Nat} {i : Nat} (hi : i < w.length) : (nd w)[i]? = some (.int (w[i] : Int)) := by
  unfold nd
  rw [List.getElem?_map, List.getElem?_eq_getElem hi]
  rfl
theorem nd_any (w : List Nat) (m : Nat) : ((nd w).any fun z => eqD z (.int (m : Int))) = decide (m ∈ w) := by
  unfold nd
  rw [List.any_map, Bool.eq_iff_iff, List.any_eq_true, decide_eq_true_eq]
  constructor
  · rintro ⟨x, hx, e⟩
    have e : eqD (.int (x : Int)) (.int (m : Int)) = true := e
    rw [eqD_int, decide_eq_true_eq] at e
    have : x = m := by omega
    rw [← this]; exact hx
  · exact fun hm => ⟨m, hm, by show eqD (.int (m : Int)) (.int (m : Int)) = true; rw [eqD_int]; simp⟩
theorem in_loc {h : LH} {k m : Nat} {w : List Nat} {neg : Bool} (e : lsAt h k = some (nd w)) : oIn neg (.int (m : Int)) (.loc k) h = some (.ok (.bl (neg.xor (decide (m ∈ w)))), h) := by
  unfold oIn
  rw [topD_loc e, flat_ok (flat_lst (nd_flat w)) (by decide)]
  simp [nd_any]
theorem in_tup {h : LH} {m : Nat} {w : List Nat} {neg : Bool} : oIn neg (.int (m : Int)) (wy w) h = some (.ok (.bl (neg.xor (decide (m ∈ w)))), h) := by
  unfold oIn wy
  rw [topD_tup, flat_ok (flat_tup (nd_flat w)) (by decide)]
  simp [nd_any]
theorem rok_of {i : Int} (h0 : 0 ≤ i) (h1 : i < 1000000) : rOk i = true := by
  have a1 : -(2 ^ 62) ≤ i := by omega
  have a2 : i < 2 ^ 62 := by omega
  unfold rOk
  rw [decide_eq_true a1, decide_eq_true a2]
  rfl
/-- the turns -/
def IsTurn (B : Nat) (x : D) : Prop := ∃ e f : Nat, x = .tup [.int (e : Int), .int (f : Int)] ∧ e < B ∧ f < B
theorem pr_at {zs : List (Int × Int)} {i : Nat} (hi : i < zs.length) : atI (zs.map pr) (i : Int) = some (pr zs[i]) := atI_at (by omega) (by
  rw [Int.toNat_natCast, List.getElem?_map, List.getElem?_eq_getElem hi]; rfl)
theorem turns_is {h : LH} {zs : List (Int × Int)} (hz : zs.length ≤ 10) : ∃ ts : List D, f__law_turns [.tup (zs.map pr)] h = some (.ok (.lst ts), h) ∧ (∀ x ∈ ts, IsTurn zs.length x) ∧ ts.length ≤ 100 := by
  have go : Is (f__law_turns [.tup (zs.map pr)] h) fun d h' => h' = h ∧ ∃ ts : List D, d = .lst ts ∧ (∀ x ∈ ts, IsTurn zs.length x) ∧ ts.length ≤ 100 := by
    unfold f__law_turns
    refine fin_is ?_
    unfold m__law_turns
    have e1 : rOk (zs.length : Int) = true := rok_of (by omega) (by omega)
    simp -implicitDefEqProofs [e1]
    refine forR_is (fun i σ h' => ∃ (o2 o3 : Option D) (ts : List D), σ = [some (.tup (zs.map pr)), some (.lst ts), o2, o3] ∧ h' = h ∧ (∀ x ∈ ts, IsTurn zs.length x) ∧ ts.length ≤ i * zs.length) zs.length ?_ ?_ ⟨none, none, [], rfl, rfl, (fun x hx => by cases hx), by simp⟩
    · rintro i σ h' hi ⟨o2, o3, ts, rfl, rfl, ht, hl⟩
      simp -implicitDefEqProofs [e1, wipeD, rng_len]
      refine ⟨by unfold line; omega, ?_⟩
      rw [comp_pure (s := ⟨rngD 0 zs.length, none⟩) (fun x => match x with | .int f => !decide ((i : Int) = f) && decide ((zs.getD i (0, 0)).2 = (zs.getD f.toNat (0, 0)).1) | _ => false) (fun x => .tup [.int (i : Int), x]) trivial (fun x hx => ?_)]
      · simp -implicitDefEqProofs [oAdd]
        have hfl := List.length_filter_le (fun x => match x with | D.int f => !decide ((i : Int) = f) && decide ((zs[i]?.getD (0, 0)).snd = (zs[f.toNat]?.getD (0, 0)).fst) | x => false) (rngD 0 zs.length)
        rw [rng_len] at hfl
        have h90 : i * zs.length ≤ 9 * 10 := Nat.mul_le_mul (by omega) hz
        refine ⟨by unfold line; omega, _, _, _, ⟨rfl, rfl, rfl⟩, fun x hx => ?_, ?_⟩
        · rcases List.mem_append.mp hx with hx | hx
          · exact ht x hx
          · obtain ⟨y, hy, rfl⟩ := List.mem_map.mp hx
            obtain ⟨f, hf, rfl⟩ := List.mem_map.mp (List.mem_filter.mp hy).1
            exact ⟨i, f, by simp, hi, List.mem_range.mp hf⟩
        · rw [List.length_append, List.length_map, Nat.succ_mul]
          omega
      · obtain ⟨f, hf, rfl⟩ : ∃ f : Nat, f < zs.length ∧ x = .int (f : Int) := by
          obtain ⟨f, hf, rfl⟩ := List.mem_map.mp hx
          exact ⟨f, List.mem_range.mp hf, by simp⟩
        refine ⟨_, rfl, ?_, ?_⟩
        · simp -implicitDefEqProofs [pr_at hi, pr_at hf, pr, hi, hf]
          by_cases e : (i : Int) = f <;> simp [e]
        · intro _
          simp -implicitDefEqProofs [line]
    · rintro σ h' ⟨o2, o3, ts, rfl, rfl, ht, hl⟩
      simp -implicitDefEqProofs
      exact ⟨ht, Nat.le_trans hl (by have := Nat.mul_le_mul hz hz; omega)⟩
  obtain ⟨d, h', e, rfl, ts, rfl, r⟩ := go
  exact ⟨ts, e, r⟩
/-- a way: places in a row, none twice -/
def IsWay (B d : Nat) (w : List Nat) : Prop := w ≠ [] ∧ w.Nodup ∧ (∀ e ∈ w, e < B) ∧ w.length ≤ d
theorem nd_last {w : List Nat} (h : w ≠ []) : ∃ e, atI (nd w) (-1) = some (.int ((e : Nat) : Int)) := by
  have hl := List.length_pos_iff.mpr h
  refine ⟨w[w.length - 1], ?_⟩
  unfold atI ixN
  rw [if_neg (by decide), if_pos (by rw [nd_len]; omega)]
  show (nd w)[(-1 + ((nd w).length : Int)).toNat]? = _
  have e : (-1 + ((nd w).length : Int)).toNat = w.length - 1 := by rw [nd_len]; omega
  rw [e]
  exact nd_get (by omega)
theorem nd_snoc (w : List Nat) (f : Nat) : nd w ++ [D.int (f : Int)] = nd (w ++ [f]) := by simp [nd]
theorem ways_is {h : LH} {b : Nat} {zs : List (Int × Int)} {P : D → LH → Prop} (hb : Box h b) (hz : zs.length ≤ 10) (hz0 : 0 < zs.length)
    (k : ∀ (ws : List (List Nat)) (d : Nat) (h' : LH), ws ≠ [] → ws.length ≤ 6 → (∀ w ∈ ws, IsWay zs.length d w) → 1 ≤ d → d ≤ 6 → Upd b h h' → P (.tup [.lst (ws.map wy), .int (d : Int)]) h') : Is (f__law_ways [.loc b, .tup (zs.map pr)] h) P := by
  unfold f__law_ways
  refine fing_is ?_
  unfold m__law_ways
  obtain ⟨ts, et, ht, hl⟩ := turns_is (h := h) hz
  have nb : h.length ≠ b := by have := hb.lt; omega
  simp -implicitDefEqProofs [et, -x_sFor, line]
  have f1 : Fr b h (h ++ [.lst []]) := (Fr.refl hb).app
  rw [x_sFor]
  simp -implicitDefEqProofs
  refine take_is f1.box (by decide) (by decide) fun r1 h2 g2 g3 u2 => ?_
  simp -implicitDefEqProofs [rok_of (show (0 : Int) ≤ 1 + r1 by omega) (by omega)]
  refine forR_is (fun i σ h' => ∃ (o4 o5 o6 o7 o8 o9 : Option D) (ws : List (List Nat)), σ = [some (.loc b), some (.tup (zs.map pr)), some (.lst ts), some (.loc h.length), o4, o5, o6, o7, o8, o9] ∧ Fr b h h' ∧ lsAt h' h.length = some (ws.map wy) ∧ ws.length = i ∧ ∀ w ∈ ws, IsWay zs.length 6 w) (1 + r1).toNat ?_ ?_
    ⟨none, none, none, none, none, none, [], rfl, f1.upd u2, by rw [u2.ls nb]; exact lsAt_new, rfl, fun w hw => by cases hw⟩
  · rintro i σ h3 hi ⟨o4, o5, o6, o7, o8, o9, ws, rfl, f3, l3, rfl, hw⟩
    simp -implicitDefEqProofs [-x_sFor]
    refine take_is f3.box (by omega) (by omega) fun e0 h4 a0 a1 u4 => ?_
    obtain ⟨e, rfl⟩ := Int.eq_ofNat_of_zero_le a0
    have l4 : lsAt h4 h.length = some (ws.map wy) := by rw [u4.ls nb]; exact l3
    have n4 := lsAt_lt l4
    have f4 : Fr b h (h4 ++ [.lst [.int (e : Int)]]) := (f3.upd u4).app
    have l4' : lsAt (h4 ++ [.lst [.int (e : Int)]]) h.length = some (ws.map wy) := lsAt_app l4
    have nb1 : h4.length ≠ b := by have := f3.lt; omega
    refine ⟨by unfold line; omega, ?_⟩
    rw [x_sFor]
    simp -implicitDefEqProofs
    refine take_is f4.box (by decide) (by decide) fun r2 h5 g4 g5 u5 => ?_
    simp -implicitDefEqProofs [rok_of (show (0 : Int) ≤ r2 by omega) (by omega)]
    refine forR_is (fun j σ h' => ∃ (o6 o7 o8 o9 : Option D) (w : List Nat), σ = [some (.loc b), some (.tup (zs.map pr)), some (.lst ts), some (.loc h.length), some (.int (ws.length : Int)), some (.loc h4.length), o6, o7, o8, o9] ∧ Fr b h h' ∧ lsAt h' h.length = some (ws.map wy) ∧ lsAt h' h4.length = some (nd w) ∧ IsWay zs.length (1 + j) w) r2.toNat ?_ ?_
      ⟨o6, o7, o8, o9, [e], rfl, f4.upd u5, by rw [u5.ls nb]; exact l4', by rw [u5.ls nb1]; exact lsAt_new, by simp, by simp, fun x hx => by rw [List.mem_singleton.mp hx]; omega, by simp⟩
    · rintro j σ h6 hj ⟨p6, p7, p8, p9, w, rfl, f6, l6, m6, w1, w2, w3, w4⟩
      obtain ⟨la, hla⟩ := nd_last w1
      simp -implicitDefEqProofs [wipeD, -x_sIf]
      refine ⟨by unfold line; omega, ?_⟩
      have tn : ∀ x ∈ ts, ∃ σ1, gTp (gC (gNm 8) (gC (gNm 9) gN)) 2 x [some (.loc b), some (.tup (zs.map pr)), some (.lst ts), some (.loc h.length), some (.int (ws.length : Int)), some (.loc h4.length), some (.int (j : Int)), p7, none, none] h6 = some (.ok σ1, h6) ∧
          (tAndD (tOf (e2 oEq (eVar 8) (e2 oIx (eVar 5) (e1 oNeg (eC (D.int 1)))))) (tOf (e2 (oIn true) (eVar 9) (eVar 5)))) σ1 h6 = some (.ok ((match x with | .tup [.int e, .int f] => decide (e = (la : Int)) && !decide (f.toNat ∈ w) | _ => false)), h6) ∧
          ((match x with | .tup [.int e, .int f] => decide (e = (la : Int)) && !decide (f.toNat ∈ w) | _ => false) = true → eVar 9 σ1 h6 = some (.ok (match x with | .tup [_, y] => y | _ => .non), h6)) := by
        intro x hx
        obtain ⟨e, f, rfl, he, hf⟩ := ht x hx
        refine ⟨[some (.loc b), some (.tup (zs.map pr)), some (.lst ts), some (.loc h.length), some (.int (ws.length : Int)), some (.loc h4.length), some (.int (j : Int)), p7, some (.int (e : Int)), some (.int (f : Int))], by simp -implicitDefEqProofs, ?_, fun _ => by simp -implicitDefEqProofs⟩
        simp -implicitDefEqProofs [m6, hla, in_loc m6]
        by_cases q : (e : Int) = la <;> simp [q]
      rw [comp_pure (s := ⟨ts, none⟩) _ _ trivial tn]
      generalize hon : (ts.filter fun x => match x with | .tup [.int e, .int f] => decide (e = (la : Int)) && !decide (f.toNat ∈ w) | _ => false).map (fun x => match x with | .tup [_, y] => y | _ => .non) = on
      have ho : ∀ x ∈ on, ∃ f : Nat, x = .int (f : Int) ∧ f < zs.length ∧ f ∉ w := by
        intro x hx
        rw [← hon] at hx
        obtain ⟨y, hy, rfl⟩ := List.mem_map.mp hx
        obtain ⟨hy1, hy2⟩ := List.mem_filter.mp hy
        obtain ⟨e, f, rfl, he, hf⟩ := ht y hy1
        refine ⟨f, rfl, hf, fun hm => ?_⟩
        simp [hm] at hy2
      have hol : on.length ≤ 100 := by
        rw [← hon, List.length_map]
        exact Nat.le_trans (List.length_filter_le _ _) hl
      have hof : ∀ x ∈ on, flat 60 x := fun x hx => by
        obtain ⟨f, rfl, _⟩ := ho x hx
        exact flat_int
      simp -implicitDefEqProofs [oNe_lst hof]
      have f6t := f6
      by_cases hn : on = []
      · simp -implicitDefEqProofs [hn]
        exact ⟨f6, l6, w, m6, w1, w2, w3, by omega⟩
      · simp -implicitDefEqProofs [hn, m6]
        refine pick_is f6.box (xs := on) rfl (fun _ _ => rfl) (List.length_pos_iff.mpr hn) (by omega) fun jx d h7 hd u7 => ?_
        obtain ⟨f, rfl, hf, hfw⟩ := ho d (List.mem_of_getElem? hd)
        have l7 : lsAt h7 h.length = some (ws.map wy) := by rw [u7.ls nb]; exact l6
        have m7 : lsAt h7 h4.length = some (nd w) := by rw [u7.ls nb1]; exact m6
        have k7 := lsAt_lt m7
        simp -implicitDefEqProofs [m7]
        refine ⟨by unfold line; omega, (f6.upd u7).set (by omega), ?_, w ++ [f], ?_, by simp, ?_, fun x hx => ?_, ?_⟩
        · rw [lsAt_set k7, if_neg (by omega)]; exact l7
        · rw [lsAt_set k7, if_pos rfl, nd_snoc]
        · rw [List.nodup_append]
          exact ⟨w2, by simp, fun a ha c hc => by rw [List.mem_singleton.mp hc]; exact fun q => hfw (by rw [← q]; exact ha)⟩
        · rcases List.mem_append.mp hx with hx | hx
          · exact w3 x hx
          · rw [List.mem_singleton.mp hx]; exact hf
        · rw [List.length_append, List.length_singleton]; omega
    · rintro σ h6 ⟨p6, p7, p8, p9, w, rfl, f6, l6, m6, w1, w2, w3, w4⟩
      have k6 := lsAt_lt l6
      simp -implicitDefEqProofs [l6, m6]
      refine ⟨by unfold line; omega, f6.set (Nat.le_refl _), ws ++ [w], ?_, by simp, fun x hx => ?_⟩
      · rw [lsAt_set k6, if_pos rfl, List.map_append]; rfl
      · rcases List.mem_append.mp hx with hx | hx
        · exact hw x hx
        · rw [List.mem_singleton.mp hx]; exact ⟨w1, w2, w3, by omega⟩
  · rintro σ h3 ⟨o4, o5, o6, o7, o8, o9, ws, rfl, f3, l3, hlen, hw⟩
    obtain ⟨ok, u⟩ := f3.gc
    simp -implicitDefEqProofs [l3, wipeD]
    refine ⟨by unfold line; omega, ?_⟩
    rw [comp_pure (s := ⟨ws.map wy, some h.length⟩) (fun _ => true) (fun x => match x with | .tup ys => .int (ys.length : Int) | _ => .non) (by rw [grd_some]; exact lsAt_some l3) (fun x hx => ?_)]
    · have eL : ((ws.map wy).filter fun _ => true).map (fun x => match x with | .tup ys => D.int (ys.length : Int) | _ => .non) = (ws.map fun w => (w.length : Int)).map D.int := by
        rw [List.filter_eq_self.mpr (fun _ _ => rfl), List.map_map, List.map_map]
        refine List.map_congr_left fun w _ => ?_
        show D.int ((nd w).length : Int) = D.int (w.length : Int)
        rw [nd_len]
      rw [eL]
      have hne : (ws.map fun w => (w.length : Int)) ≠ [] := by
        intro q
        have q2 := congrArg List.length q
        rw [List.length_map] at q2
        simp at q2
        rw [q2] at hlen
        simp at hlen
        omega
      obtain ⟨hm1, hm2⟩ := maxL_mem hne
      obtain ⟨wm, hwm, ewm⟩ := List.mem_map.mp hm1
      have em : bMax [.lst ((ws.map fun w => (w.length : Int)).map D.int)] h3 = some (.ok (.int (wm.length : Int)), h3) := by
        unfold bMax
        show ((intsD ((ws.map fun w => (w.length : Int)).map D.int)).elim none fun ns => if ns.isEmpty then none else some (R.ok (D.int (maxL ns)), h3)) = _
        rw [intsD_map]
        show (if (ws.map fun w => (w.length : Int)).isEmpty then none else _) = _
        rw [if_neg (by simpa using hne), ← ewm]
      simp only [calm_ok, is_ok, em]
      obtain ⟨q1, q2, q3, q4⟩ := hw wm hwm
      refine ⟨by unfold line; omega, ok, .tup [.lst (ws.map wy), .int (wm.length : Int)], ?_, k ws wm.length _ ?_ ?_ (fun w hx => ?_) ?_ q4 u⟩
      · refine frz_tup ?_
        have e1 : frz h3 h.length 63 (.loc h.length) = some (.lst (ws.map wy)) := frz_loc (Nat.lt_irrefl _) l3 (mapO_same fun x hx => by
          obtain ⟨w, _, rfl⟩ := List.mem_map.mp hx
          exact frz_flat 61 _ (flat_mono (wy_flat w) (by decide)))
        have e2 : frz h3 h.length 63 (.int (wm.length : Int)) = some (.int (wm.length : Int)) := frz_int
        simp only [mapO, e1, e2, Option.bind_some, Option.map_some]
      · intro q; rw [q] at hne; exact hne rfl
      · omega
      · obtain ⟨p1, p2, p3, _⟩ := hw w hx
        refine ⟨p1, p2, p3, ?_⟩
        have := hm2 _ (List.mem_map.mpr ⟨w, hx, rfl⟩)
        rw [← ewm] at this
        omega
      · exact List.length_pos_iff.mpr q1
    · obtain ⟨w, _, rfl⟩ := List.mem_map.mp hx
      exact ⟨_, rfl, rfl, fun _ => by simp -implicitDefEqProofs [wy]⟩
end K55

set_option maxRecDepth 100000
set_option maxHeartbeats 1000000
set_option linter.all false
namespace K55
open PySem L2 DL
/-- n values by their place -/
def tab (n : Nat) (f : Nat → D) : List D := (List.range n).map f
@[simp] theorem tab_len (n : Nat) (f : Nat → D) : (tab n f).length = n := by simp [tab]
theorem tab_get {n i : Nat} {f : Nat → D} (hi : i < n) : (tab n f)[i]? = some (f i) := by
  unfold tab
  rw [List.getElem?_map, List.getElem?_range hi]
  rfl
theorem tab_at {n i : Nat} {f : Nat → D} (hi : i < n) : atI (tab n f) (i : Int) = some (f i) := atI_at (by omega) (by rw [Int.toNat_natCast]; exact tab_get hi)
theorem tab_set {n i : Nat} {f : Nat → D} {x : D} : (tab n f).set i x = tab n fun j => if j = i then x else f j := by
  apply List.ext_getElem?
  intro j
  by_cases hj : j < n
  · rw [tab_get hj, List.getElem?_set, tab_get hj]
    by_cases e : i = j
    · subst e; simp [hj]
    · rw [if_neg e, if_neg (fun q => e q.symm)]
  · rw [List.getElem?_eq_none (by rw [List.length_set, tab_len]; omega), List.getElem?_eq_none (by rw [tab_len]; omega)]
theorem tab_snoc {n : Nat} {f : Nat → D} {x : D} : tab n f ++ [x] = tab (n + 1) fun j => if j = n then x else f j := by
  unfold tab
  rw [List.range_succ, List.map_append]
  congr 1
  · refine List.map_congr_left fun j hj => ?_
    rw [if_neg (by have := List.mem_range.mp hj; omega)]
  · simp
theorem tab_mem {n : Nat} {f : Nat → D} {x : D} (h : x ∈ tab n f) : ∃ i, i < n ∧ x = f i := by
  obtain ⟨i, hi, rfl⟩ := List.mem_map.mp h
  exact ⟨i, List.mem_range.mp hi, rfl⟩
theorem ixN_nat {n i : Nat} (hi : i < n) : ixN n (i : Int) = some i := by
  rw [ixN_at (by omega) (by omega), Int.toNat_natCast]
theorem x_bAll {h : LH} {bs : List Bool} : bAll [.lst (bs.map D.bl)] h = some (.ok (.bl (bs.all id)), h) := by
  have e : bAll [.lst (bs.map D.bl)] h = (blsD (bs.map D.bl)).elim none fun ns => some (R.ok (D.bl (ns.all id)), h) := rfl
  rw [e, blsD_map]
  rfl
theorem x_bAny {h : LH} {bs : List Bool} : bAny [.lst (bs.map D.bl)] h = some (.ok (.bl (bs.any id)), h) := by
  have e : bAny [.lst (bs.map D.bl)] h = (blsD (bs.map D.bl)).elim none fun ns => some (R.ok (D.bl (ns.any id)), h) := rfl
  rw [e, blsD_map]
  rfl
theorem x_bMaxL {h : LH} {ns : List Int} (hne : ns ≠ []) : bMax [.lst (ns.map D.int)] h = some (.ok (.int (maxL ns)), h) := by
  have e : bMax [.lst (ns.map D.int)] h = (intsD (ns.map D.int)).elim none fun ns => if ns.isEmpty then none else some (R.ok (D.int (maxL ns)), h) := rfl
  rw [e, intsD_map]
  show (if ns.isEmpty then none else _) = _
  rw [if_neg (by simpa using hne)]
theorem x_bMaxO {h : LH} {k : Nat} {ns : List Int} (hk : lsAt h k = some (ns.map D.int)) (hne : ns ≠ []) : bMax [.loc k] h = some (.ok (.int (maxL ns)), h) := by
  have e : bMax [.loc k] h = (lsAt h k).elim none fun xs => (intsD xs).elim none fun ns => if ns.isEmpty then none else some (R.ok (D.int (maxL ns)), h) := rfl
  rw [e, hk]
  show (intsD (ns.map D.int)).elim none _ = _
  rw [intsD_map]
  show (if ns.isEmpty then none else _) = _
  rw [if_neg (by simpa using hne)]
/-- a rate that is slow -/
structure Slow (p q d : Int) : Prop where
  p0 : 0 < p
  pq : p < q
  q1 : q ≤ 1000
  g : Int.gcd p q = 1
  s : p * d < q
theorem rate_is {h : LH} {b d : Nat} {P : D → LH → Prop} (hb : Box h b) (d0 : 1 ≤ d) (d1 : d ≤ 6)
    (k : ∀ (p q : Int) (h' : LH), Slow p q d → Upd b h h' → P (.tup [.int p, .int q]) h') : Is (f__law_rate [.loc b, .int (d : Int)] h) P := by
  unfold f__law_rate
  refine fin_is ?_
  unfold m__law_rate
  simp -implicitDefEqProofs [line, mul_l]
  refine pick_is hb (xs := [D.tup [.int 1, .int ((d : Int) + 1)], D.tup [.int 1, .int ((d : Int) + 1)], D.tup [.int 1, .int ((d : Int) + 2)], D.tup [.int 2, .int (2 * (d : Int) + 1)], D.tup [.int 3, .int (3 * (d : Int) + 1)]]) rfl (fun _ _ => rfl) (by simp) (by simp) fun i x h' hx u => ?_
  have hm := List.mem_of_getElem? hx
  simp only [List.mem_cons, List.not_mem_nil, or_false] at hm
  have hd : d = 1 ∨ d = 2 ∨ d = 3 ∨ d = 4 ∨ d = 5 ∨ d = 6 := by omega
  rcases hm with rfl | rfl | rfl | rfl | rfl <;> (refine k _ _ h' ⟨by omega, by omega, by omega, ?_, by omega⟩ u; rcases hd with rfl | rfl | rfl | rfl | rfl | rfl <;> decide)
theorem room_is {h : LH} {lv : Nat} {B : Nat} {L : Nat → Int} {p q bu : Int} {w : List Nat} (hl : lsAt h lv = some (tab B fun e => .int (L e))) (hw : ∀ e ∈ w, e < B) (hq : 0 < q) (hq2 : q ≤ 1000) (hwl : w.length ≤ 100) :
    f__law_room [.loc lv, .tup [.int p, .int q], .int bu, wy w] h = some (.ok (.bl (w.all fun e => decide (L e + q ≤ q * bu + p))), h) := by
  have m1 : mulOk q bu = true := mul_l (by omega) (by omega)
  have go : Is (f__law_room [.loc lv, .tup [.int p, .int q], .int bu, wy w] h) fun d h' => d = .bl (w.all fun e => decide (L e + q ≤ q * bu + p)) ∧ h' = h := by
    unfold f__law_room
    refine fin_is ?_
    unfold m__law_room
    simp -implicitDefEqProofs [wy, wipeD]
    refine ⟨by unfold line; omega, ?_⟩
    rw [comp_pure (s := ⟨nd w, none⟩) (fun _ => true) (fun x => match x with | .int e => .bl (decide (L e.toNat + q ≤ q * bu + p)) | _ => .non) trivial (fun x hx => ?_)]
    · have eL : ((nd w).filter fun _ => true).map (fun x => match x with | .int e => D.bl (decide (L e.toNat + q ≤ q * bu + p)) | _ => .non) = (w.map fun e => decide (L e + q ≤ q * bu + p)).map D.bl := by
        rw [List.filter_eq_self.mpr (fun _ _ => rfl)]
        unfold nd
        rw [List.map_map, List.map_map]
        refine List.map_congr_left fun e _ => ?_
        simp
      rw [eL]
      simp only [calm_ok, is_ok, x_bAll]
      refine ⟨?_, trivial⟩
      rw [List.all_map]
      rfl
    · obtain ⟨e, he, rfl⟩ := List.mem_map.mp hx
      refine ⟨_, rfl, rfl, fun _ => ?_⟩
      simp -implicitDefEqProofs [hl, tab_at (hw e he), m1]
  obtain ⟨d, h', e, rfl, rfl⟩ := go
  exact e
theorem min_pairs {h : LH} {Q : List Nat} {f : Nat → Int} (hq : Q ≠ []) : ∃ i ∈ Q, bMinA [.lst (Q.map fun i => .tup [.int (f i), .int (i : Int)])] h = some (.ok (.tup [.int (f i), .int (i : Int)]), h) := by
  have h1 : intsD (Q.map fun i => D.tup [.int (f i), .int (i : Int)]) = none := by
    cases Q with
    | nil => exact absurd rfl hq
    | cons a r => rfl
  have h2 : ∀ R : List Nat, tupsI (R.map fun i => D.tup [.int (f i), .int (i : Int)]) = some (R.map fun i => [f i, (i : Int)]) := by
    intro R
    induction R with
    | nil => rfl
    | cons a r ih =>
      show ((tupI (.tup [.int (f a), .int (a : Int)])).bind fun y => (tupsI (r.map fun i => D.tup [.int (f i), .int (i : Int)])).map (y :: ·)) = _
      rw [ih]
      rfl
  have hlt := argMin_lt (nss := Q.map fun i => [f i, (i : Int)]) (by simpa using hq)
  rw [List.length_map] at hlt
  refine ⟨Q[argMin (Q.map fun i => [f i, (i : Int)])], List.getElem_mem hlt, ?_⟩
  unfold bMinA
  show (if (Q.map fun i => D.tup [.int (f i), .int (i : Int)]).isEmpty then none else _) = _
  rw [if_neg (by simpa using hq), h1, h2]
  show ((Q.map fun i => D.tup [.int (f i), .int (i : Int)])[argMin (Q.map fun i => [f i, (i : Int)])]?).elim none _ = _
  rw [List.getElem?_map, List.getElem?_eq_getElem hlt]
  rfl
theorem going_is {h : LH} {b ql ca ow n : Nat} {rule : Int} {Q : List Nat} {O : Nat → List Nat} {P : D → LH → Prop} (hb : Box h b) (hQ : lsAt h ql = some (nd Q)) (nq : ql ≠ b) (hq : Q ≠ []) (hql : Q.length ≤ 10000) (hO : lsAt h ow = some (tab n fun i => wy (O i))) (hn : ∀ i ∈ Q, i < n)
    (k : ∀ (x : Nat) (h' : LH), x ∈ Q → Upd b h h' → P (.int (x : Int)) h') (same : Upd b h h := ⟨rfl, fun _ _ => rfl, hb⟩) : Is (f__law_going [.loc b, .int rule, .loc ql, .loc ca, .loc ow] h) P := by
  unfold f__law_going
  refine fin_is ?_
  unfold m__law_going
  have hl := List.length_pos_iff.mpr hq
  have comp2 : ∀ (f : Nat → Int) (e : EV) (σ : DL.Env), (∀ i ∈ Q, e ((wipeD σ [5]).set 5 (some (.int (i : Int)))) h = some (.ok (.tup [.int (f i), .int (i : Int)]), h)) →
      compD ⟨nd Q, some ql⟩ (gNm 5) tYesD e (wipeD σ [5]) (nd Q) h = some (.ok (Q.map fun i => .tup [.int (f i), .int (i : Int)]), h) := by
    intro f e σ he
    rw [comp_pure (s := ⟨nd Q, some ql⟩) (fun _ => true) (fun x => match x with | .int i => .tup [.int (f i.toNat), .int i] | _ => .non) (by rw [grd_some]; exact lsAt_some hQ) (fun x hx => ?_)]
    · rw [List.filter_eq_self.mpr (fun _ _ => rfl)]
      unfold nd
      rw [List.map_map]
      have : Q.map ((fun x => match x with | .int i => D.tup [.int (f i.toNat), .int i] | _ => .non) ∘ fun (e : Nat) => D.int (e : Int)) = Q.map fun i => D.tup [.int (f i), .int (i : Int)] := List.map_congr_left fun i _ => by simp
      rw [this]
    · obtain ⟨i, hi, rfl⟩ := List.mem_map.mp hx
      exact ⟨_, rfl, rfl, fun _ => by rw [he i hi]; simp⟩
  by_cases r0 : rule = 0
  · have e := @nd_get Q 0 hl
    simp -implicitDefEqProofs [r0, hQ, atI_at (show (0 : Int) ≤ 0 by decide) e]
    exact k _ h (List.getElem_mem hl) same
  by_cases r1 : rule = 1
  · obtain ⟨e, hm, he⟩ : ∃ e, e ∈ Q ∧ atI (nd Q) (-1) = some (.int ((e : Nat) : Int)) := by
      refine ⟨Q[Q.length - 1], List.getElem_mem _, ?_⟩
      unfold atI ixN
      rw [if_neg (by decide), if_pos (by rw [nd_len]; omega)]
      show (nd Q)[(-1 + ((nd Q).length : Int)).toNat]? = _
      have e : (-1 + ((nd Q).length : Int)).toNat = Q.length - 1 := by rw [nd_len]; omega
      rw [e]
      exact nd_get (by omega)
    simp -implicitDefEqProofs [r1, hQ, he]
    exact k _ h hm same
  have wlen : ∀ i ∈ Q, ∀ (f : EV) , True := fun _ _ _ => trivial
  by_cases r2 : rule = 2
  · subst r2
    simp -implicitDefEqProofs [hQ]
    refine ⟨by unfold line; omega, ?_⟩
    have hc := comp2 (fun i => ((O i).length : Int)) (eTup (aCons (eBi bLen (aCons (e2 oIx (eVar 4) (eVar 5)) (aNil))) (aCons (eVar 5) (aNil)))) [some (.loc b), some (.int 2), some (.loc ql), some (.loc ca), some (.loc ow), none] (fun i hi => by
      simp -implicitDefEqProofs [wipeD, hO, tab_at (hn i hi), wy, line])
    rw [hc]
    obtain ⟨i, hi, e⟩ := min_pairs (h := h) (f := fun i => ((O i).length : Int)) hq
    simp only [calm_ok, is_ok, e, seqA_tup, Option.elim, atI_1]
    exact k i h hi same
  by_cases r3 : rule = 3
  · subst r3
    simp -implicitDefEqProofs [hQ]
    refine ⟨by unfold line; omega, ?_⟩
    have hc := comp2 (fun i => 0 - ((O i).length : Int)) (eTup (aCons (e2 iSub (eC (.int 0)) (eBi bLen (aCons (e2 oIx (eVar 4) (eVar 5)) (aNil)))) (aCons (eVar 5) (aNil)))) [some (.loc b), some (.int 3), some (.loc ql), some (.loc ca), some (.loc ow), none] (fun i hi => by
      simp -implicitDefEqProofs [wipeD, hO, tab_at (hn i hi), wy, line])
    rw [hc]
    obtain ⟨i, hi, e⟩ := min_pairs (h := h) (f := fun i => 0 - ((O i).length : Int)) hq
    simp only [calm_ok, is_ok, e, seqA_tup, Option.elim, atI_1]
    exact k i h hi same
  by_cases r4 : rule = 4
  · have hne : (Q.map fun (i : Nat) => (i : Int)) ≠ [] := by simpa using hq
    have e := x_bMaxO (h := h) (k := ql) (ns := Q.map fun (i : Nat) => (i : Int)) (by rw [hQ, List.map_map]; rfl) hne
    simp -implicitDefEqProofs [r4, e]
    obtain ⟨i, hi, ei⟩ := List.mem_map.mp (maxL_mem hne).1
    rw [← ei]
    exact k i h hi same
  · simp -implicitDefEqProofs [r0, r1, r2, r3, r4]
    refine pick_is hb (xs := nd Q) (by rw [seqA_loc]; exact hQ) (fun h' u => by rw [seqA_loc, u.ls nq]; exact hQ) (by rw [nd_len]; omega) (by rw [nd_len]; omega) fun i d h' hd u => ?_
    obtain ⟨x, hx, rfl⟩ := List.mem_map.mp (List.mem_of_getElem? hd)
    exact k x h' hx u
end K55

set_option maxRecDepth 100000
set_option maxHeartbeats 1000000
set_option linter.all false
/-! the plain law: parcels, queues, buckets; no program in sight -/
namespace K55
def up {α : Type} (f : Nat → α) (x : Nat) (v : α) : Nat → α := fun j => if j = x then v else f j
@[simp] theorem up_same {α : Type} {f : Nat → α} {x : Nat} {v : α} : up f x v x = v := if_pos rfl
theorem up_ne {α : Type} {f : Nat → α} {x j : Nat} {v : α} (h : j ≠ x) : up f x v j = f j := if_neg h
/-- parcels 0 .. n-1: ways og, what they owe O (og without its first k), begun be, came ca; queues Q, levels L; who is on the way li; for each belt its busy time τ and who came in it Bs -/
structure S where
  n : Nat
  L : Nat → Int
  Q : Nat → List Nat
  O : Nat → List Nat
  li : List Nat
  be : Nat → Nat
  ca : Nat → Nat
  og : Nat → List Nat
  k : Nat → Nat
  τ : Nat → Nat
  Bs : Nat → List Nat
structure Pm where
  B : Nat
  d : Nat
  p : Int
  q : Int
  bu : Int
  T : Int
structure Pm.Ok (z : Pm) : Prop where
  p0 : 0 < z.p
  pq : z.p < z.q
  bu0 : 0 < z.bu
  T0 : 0 < z.T
  d0 : 0 < z.d
  key : (z.bu - 1) * z.q < z.T * (z.q - z.p * z.d)
def cnt (s : S) (e : Nat) (x : Int) : Nat := ((List.range s.n).filter fun i => decide (e ∈ s.og i) && decide (x ≤ (s.be i : Int))).length
/-- one belt's busy time -/
structure Busy (z : Pm) (s : S) (e t : Nat) : Prop where
  le : s.τ e ≤ t
  nd : (s.Bs e).Nodup
  mem : ∀ i ∈ s.Bs e, i < s.n ∧ e ∈ s.og i ∧ (s.τ e : Int) - z.T * ((z.d : Int) - 1) ≤ s.be i
  inq : ∀ i ∈ s.Bs e, e ∈ s.O i → i ∈ s.Q e
  qin : ∀ i ∈ s.Q e, i ∈ s.Bs e ∧ s.τ e ≤ s.ca i
  len : (s.Bs e).length = (t - s.τ e) + (s.Q e).length
  qnd : (s.Q e).Nodup
  head : ∀ i ∈ s.Q e, i < s.n ∧ (s.O i).head? = some e
/-- t: the beat of buckets; ph: of each belt's busy time; M: who has moved and stands in no queue -/
structure Inv (z : Pm) (s : S) (t : Nat) (ph : Nat → Nat) (M : List Nat) : Prop where
  ognd : ∀ i, i < s.n → (s.og i).Nodup
  oglt : ∀ i, i < s.n → ∀ e ∈ s.og i, e < z.B
  oglen : ∀ i, i < s.n → (s.og i).length ≤ z.d
  oeq : ∀ i, i < s.n → s.O i = (s.og i).drop (s.k i)
  bele : ∀ i, i < s.n → s.be i ≤ t
  cale : ∀ i, i < s.n → s.O i ≠ [] → (s.ca i : Int) ≤ s.be i + z.T * s.k i
  lind : s.li.Nodup
  lii : ∀ i, i ∈ s.li ↔ i < s.n ∧ s.O i ≠ []
  L0 : ∀ e, e < z.B → 0 ≤ s.L e
  bk : ∀ e, e < z.B → ∀ x : Int, x ≤ t → z.q * cnt s e x ≤ s.L e + z.p * (t - x)
  busy : ∀ e, e < z.B → Busy z s e (ph e)
  mnd : M.Nodup
  mv : ∀ i ∈ M, i < s.n ∧ (∀ e, e < z.B → i ∉ s.Q e) ∧ (t : Int) + 1 ≤ s.be i + z.T * s.k i
  full : ∀ i, i < s.n → ∀ e, (s.O i).head? = some e → i ∈ s.Q e ∨ i ∈ M
def LB (z : Pm) (s : S) (c : Int) : Prop := ∀ e, e < z.B → s.L e ≤ z.q * z.bu + c
def Young (z : Pm) (s : S) (t : Nat) : Prop := ∀ i, i < s.n → s.O i ≠ [] → (t : Int) - s.ca i < z.T
theorem sub_len {l : List Nat} {m : List Nat} (nd : l.Nodup) (h : ∀ i ∈ l, i ∈ m) : l.length ≤ m.length := by
  induction l generalizing m with
  | nil => exact Nat.zero_le _
  | cons a r ih =>
    have ha := h a List.mem_cons_self
    have nd' := List.nodup_cons.mp nd
    have := ih (m := m.erase a) nd'.2 fun i hi => by
      have : i ≠ a := fun q => nd'.1 (by rw [← q]; exact hi)
      exact (List.mem_erase_of_ne this).mpr (h i (List.mem_cons_of_mem _ hi))
    rw [List.length_erase_of_mem ha] at this
    have := List.length_pos_of_mem ha
    simp only [List.length_cons]
    omega
theorem cnt_ge {s : S} {e : Nat} {x : Int} {l : List Nat} (nd : l.Nodup) (h : ∀ i ∈ l, i < s.n ∧ e ∈ s.og i ∧ x ≤ (s.be i : Int)) : l.length ≤ cnt s e x := by
  refine sub_len nd fun i hi => List.mem_filter.mpr ⟨List.mem_range.mpr (h i hi).1, ?_⟩
  rw [decide_eq_true (h i hi).2.1, decide_eq_true (h i hi).2.2]
  rfl
section
variable {z : Pm} {s : S} {t : Nat} {M : List Nat}
/-- nobody stays long -/
theorem young (ok : z.Ok) (I : Inv z s t (fun _ => t) []) (lb : LB z s 0) : Young z s t := by
  intro i hi ho
  cases hO : s.O i with
  | nil => exact absurd hO ho
  | cons e r =>
    have hh : (s.O i).head? = some e := by rw [hO]; rfl
    have he : e < z.B := I.oglt i hi e (by
      have : e ∈ s.O i := by rw [hO]; exact List.mem_cons_self
      rw [I.oeq i hi] at this
      exact List.mem_of_mem_drop this)
    have hq : i ∈ s.Q e := (I.full i hi e hh).elim id (fun q => by cases q)
    have b := I.busy e he
    have hτ := (b.qin i hq).2
    have hle := b.le
    by_cases hT : (t : Int) - s.ca i < z.T
    · exact hT
    · exfalso
      have hd0 := ok.d0
      have T0 := ok.T0
      have hTd : 0 ≤ z.T * ((z.d : Int) - 1) := Int.mul_nonneg (by omega) (by omega)
      have c1 := cnt_ge (s := s) (e := e) (x := (s.τ e : Int) - z.T * ((z.d : Int) - 1)) b.nd b.mem
      have c2 := I.bk e he ((s.τ e : Int) - z.T * ((z.d : Int) - 1)) (by omega)
      have c3 := lb e he
      have hql := List.length_pos_of_mem hq
      have hlen := b.len
      -- T' = t - τ
      have hT' : z.T ≤ (t : Int) - s.τ e := by omega
      have hB : ((t : Int) - s.τ e) + 1 ≤ cnt s e ((s.τ e : Int) - z.T * ((z.d : Int) - 1)) := by omega
      have q0 : 0 < z.q := by have := ok.p0; have := ok.pq; omega
      have m1 : z.q * (((t : Int) - s.τ e) + 1) ≤ z.q * (cnt s e ((s.τ e : Int) - z.T * ((z.d : Int) - 1)) : Nat) := Int.mul_le_mul_of_nonneg_left hB (Int.le_of_lt q0)
      have m2 : (z.q - z.p) * z.T ≤ (z.q - z.p) * ((t : Int) - s.τ e) := Int.mul_le_mul_of_nonneg_left hT' (by have := ok.pq; omega)
      have k1 := ok.key
      generalize hX : ((t : Int) - s.τ e) = X at *
      generalize hC : ((cnt s e ((s.τ e : Int) - z.T * ((z.d : Int) - 1)) : Nat) : Int) = C at *
      have e1 : (t : Int) - ((s.τ e : Int) - z.T * ((z.d : Int) - 1)) = X + z.T * ((z.d : Int) - 1) := by omega
      rw [e1] at c2
      have e2 : z.p * (X + z.T * ((z.d : Int) - 1)) = z.p * X + (z.T * (z.p * z.d) - z.p * z.T) := by
        rw [Int.mul_add, Int.mul_sub, Int.mul_sub, Int.mul_one, Int.mul_left_comm z.p z.T]
      have e3 : z.q * (X + 1) = z.q * X + z.q := by rw [Int.mul_add, Int.mul_one]
      have e4 : (z.q - z.p) * z.T = z.q * z.T - z.p * z.T := Int.sub_mul ..
      have e5 : (z.q - z.p) * X = z.q * X - z.p * X := Int.sub_mul ..
      have e6 : z.T * (z.q - z.p * z.d) = z.q * z.T - z.T * (z.p * z.d) := by rw [Int.mul_sub, Int.mul_comm z.T z.q]
      have e7 : (z.bu - 1) * z.q = z.q * z.bu - z.q := by rw [Int.sub_mul, Int.one_mul, Int.mul_comm]
      rw [e2] at c2
      rw [e3] at m1
      rw [e4, e5] at m2
      rw [e6, e7] at k1
      omega
/-- how long a parcel can be on its way -/
theorem age (ok : z.Ok) (I : Inv z s t (fun _ => t) []) (y : Young z s t) {i : Nat} (hi : i < s.n) (ho : s.O i ≠ []) : (t : Int) - s.be i < z.T * z.d := by
  have h1 := y i hi ho
  have h2 := I.cale i hi ho
  have hk : s.k i < z.d := by
    have h3 := I.oeq i hi
    have h4 := I.oglen i hi
    by_cases q : s.k i < (s.og i).length
    · omega
    · rw [List.drop_eq_nil_of_le (by omega)] at h3
      exact absurd h3 ho
  have h5 : z.T * ((s.k i : Int) + 1) ≤ z.T * z.d := Int.mul_le_mul_of_nonneg_left (by omega) (Int.le_of_lt ok.T0)
  rw [Int.mul_add, Int.mul_one] at h5
  omega
/-- how many want a belt -/
theorem wants (ok : z.Ok) (I : Inv z s t (fun _ => t) []) (y : Young z s t) (lb : LB z s z.p) {e : Nat} (he : e < z.B) :
    (((s.li.filter fun i => decide (e ∈ s.O i)).length : Nat) : Int) ≤ z.p * (z.T * z.d) / z.q + z.bu := by
  have q0 : 0 < z.q := by have := ok.p0; have := ok.pq; omega
  have Td : 0 < z.T * z.d := Int.mul_pos ok.T0 (by have := ok.d0; omega)
  have c1 := cnt_ge (s := s) (e := e) (x := (t : Int) - z.T * z.d + 1) (l := s.li.filter fun i => decide (e ∈ s.O i)) (I.lind.filter _) fun i hi => by
    obtain ⟨h1, h2⟩ := List.mem_filter.mp hi
    obtain ⟨h3, h4⟩ := (I.lii i).mp h1
    refine ⟨h3, ?_, ?_⟩
    · have := of_decide_eq_true h2
      rw [I.oeq i h3] at this
      exact List.mem_of_mem_drop this
    · have := age ok I y h3 h4
      omega
  have c2 := I.bk e he ((t : Int) - z.T * z.d + 1) (by omega)
  have c3 := lb e he
  have m1 : z.q * ((s.li.filter fun i => decide (e ∈ s.O i)).length : Nat) ≤ z.q * (cnt s e ((t : Int) - z.T * z.d + 1) : Nat) := Int.mul_le_mul_of_nonneg_left (by omega) (Int.le_of_lt q0)
  generalize (((s.li.filter fun i => decide (e ∈ s.O i)).length : Nat) : Int) = N at *
  have e1 : z.p * ((t : Int) - ((t : Int) - z.T * z.d + 1)) = z.p * (z.T * z.d) - z.p := by
    have : (t : Int) - ((t : Int) - z.T * z.d + 1) = z.T * z.d - 1 := by omega
    rw [this, Int.mul_sub, Int.mul_one]
  rw [e1] at c2
  have h : z.q * (N - z.bu) ≤ z.p * (z.T * z.d) := by rw [Int.mul_sub]; omega
  have := (Int.le_ediv_iff_mul_le q0).mpr (by rw [Int.mul_comm]; exact h)
  omega
end
end K55

set_option maxRecDepth 100000
set_option maxHeartbeats 1000000
set_option linter.all false
namespace K55
section
variable {z : Pm} {s : S} {t : Nat} {M : List Nat}
/-- levels fall -/
def S.decay (s : S) (p : Int) : S := { s with L := fun e => max 0 (s.L e - p) }
theorem decay_ok (ok : z.Ok) (I : Inv z s t (fun _ => t + 1) []) (lb : LB z s z.p) : Inv z (s.decay z.p) (t + 1) (fun _ => t + 1) [] ∧ LB z (s.decay z.p) 0 := by
  have q0 : 0 < z.q := by have := ok.p0; have := ok.pq; omega
  refine ⟨{ I with bele := fun i hi => Nat.le_succ_of_le (I.bele i hi), L0 := fun e he => by show 0 ≤ max 0 _; omega, bk := fun e he x hx => ?_, busy := fun e he => ?_, mv := fun i hi => by cases hi }, fun e he => ?_⟩
  · by_cases hxt : x ≤ t
    · have h1 : z.q * (cnt s e x : Nat) ≤ s.L e + z.p * (t - x) := I.bk e he x hxt
      have e1 : z.p * (((t + 1 : Nat) : Int) - x) = z.p * (t - x) + z.p := by
        have : ((t + 1 : Nat) : Int) - x = ((t : Int) - x) + 1 := by omega
        rw [this, Int.mul_add, Int.mul_one]
      show z.q * (cnt s e x : Nat) ≤ max 0 (s.L e - z.p) + z.p * (((t + 1 : Nat) : Int) - x)
      rw [e1]
      omega
    · have h0 : cnt s e x = 0 := by
        unfold cnt
        rw [List.length_eq_zero_iff, List.filter_eq_nil_iff]
        intro i hi h
        have hb := I.bele i (List.mem_range.mp hi)
        simp only [Bool.and_eq_true, decide_eq_true_eq] at h
        omega
      have ex : ((t + 1 : Nat) : Int) - x = 0 := by omega
      show z.q * (cnt s e x : Nat) ≤ max 0 (s.L e - z.p) + z.p * (((t + 1 : Nat) : Int) - x)
      rw [h0, ex, Int.mul_zero]
      simp
      omega
  · exact { I.busy e he with }
  · have := lb e he
    show max 0 (s.L e - z.p) ≤ z.q * z.bu + 0
    have := Int.mul_nonneg (Int.le_of_lt q0) (Int.le_of_lt ok.bu0)
    omega
/-- a belt rests -/
def S.rest (s : S) (e t : Nat) : S := { s with τ := up s.τ e (t + 1), Bs := up s.Bs e [] }
def phm (t e : Nat) : Nat → Nat := fun e' => if e' < e then t + 1 else t
theorem rest_ok {e : Nat} (he : e < z.B) (I : Inv z s t (phm t e) M) (hq : s.Q e = []) : Inv z (s.rest e t) t (phm t (e + 1)) M := by
  refine { I with busy := fun e' he' => ?_ }
  by_cases q : e' = e
  · subst q
    have hp : phm t (e' + 1) e' = t + 1 := if_pos (Nat.lt_succ_self _)
    rw [hp]
    have h1 : (s.rest e' t).τ e' = t + 1 := up_same
    have h2 : (s.rest e' t).Bs e' = [] := up_same
    have h3 : (s.rest e' t).Q e' = [] := hq
    exact { le := (by rw [h1]; exact Nat.le_refl _), nd := (by rw [h2]; exact List.nodup_nil), mem := fun i hi => (by rw [h2] at hi; cases hi), inq := fun i hi => (by rw [h2] at hi; cases hi), qin := fun i hi => (by rw [h3] at hi; cases hi), len := (by rw [h1, h2, h3]; simp), qnd := (by rw [h3]; exact List.nodup_nil), head := fun i hi => (by rw [h3] at hi; cases hi) }
  · have hp : phm t (e + 1) e' = phm t e e' := by unfold phm; by_cases r : e' < e <;> simp [r] <;> omega
    rw [hp]
    have b := I.busy e' he'
    have h1 : (s.rest e t).τ e' = s.τ e' := up_ne q
    have h2 : (s.rest e t).Bs e' = s.Bs e' := up_ne q
    exact { le := (by rw [h1]; exact b.le), nd := (by rw [h2]; exact b.nd), mem := fun i hi => (by rw [h2] at hi; rw [h1]; exact b.mem i hi), inq := fun i hi => (by rw [h2] at hi; exact b.inq i hi), qin := fun i hi => (by rw [h2, h1]; exact b.qin i hi), len := (by rw [h1, h2]; exact b.len), qnd := b.qnd, head := b.head }
/-- a parcel moves -/
def S.move (s : S) (e x : Nat) : S := { s with Q := up s.Q e ((s.Q e).erase x), O := up s.O x ((s.O x).drop 1), k := up s.k x (s.k x + 1), li := if (s.O x).drop 1 = [] then s.li.erase x else s.li }
theorem move_ok {e x : Nat} (ok : z.Ok) (he : e < z.B) (I : Inv z s t (phm t e) M) (y : Young z s t) (hx : x ∈ s.Q e) :
    Inv z (s.move e x) t (phm t (e + 1)) (M ++ [x]) ∧ Young z (s.move e x) t ∧ ((s.O x).drop 1 = [] → (t : Int) + 1 ≤ s.be x + z.T * z.d) := by
  have b := I.busy e he
  obtain ⟨hn, hh⟩ := b.head x hx
  obtain ⟨r, hO⟩ : ∃ r, s.O x = e :: r := by
    cases q : s.O x with
    | nil => rw [q] at hh; cases hh
    | cons a r => rw [q] at hh; cases hh; exact ⟨r, rfl⟩
  have hOne : s.O x ≠ [] := by rw [hO]; exact fun q => by cases q
  have xM : x ∉ M := fun q => (I.mv x q).2.1 e he hx
  have nq : ∀ e', e' < z.B → e' ≠ e → x ∉ s.Q e' := fun e' he' hne hm => by
    have := ((I.busy e' he').head x hm).2
    rw [hh] at this
    cases this
    exact hne rfl
  have ndO : (s.O x).Nodup := by rw [I.oeq x hn]; exact (I.ognd x hn).sublist (List.drop_sublist _ _)
  have er : e ∉ r := by rw [hO] at ndO; exact (List.nodup_cons.mp ndO).1
  have hk : s.k x < (s.og x).length := by
    by_cases q : s.k x < (s.og x).length
    · exact q
    · have := I.oeq x hn
      rw [List.drop_eq_nil_of_le (by omega)] at this
      exact absurd this hOne
  have come : (t : Int) + 1 ≤ s.be x + z.T * ((s.k x + 1 : Nat) : Int) := by
    have h1 := y x hn hOne
    have h2 := I.cale x hn hOne
    have : z.T * ((s.k x + 1 : Nat) : Int) = z.T * s.k x + z.T := by
      rw [Int.natCast_add, Int.mul_add]
      simp
    omega
  have Osub : ∀ i, (s.move e x).O i = if i = x then (s.O x).drop 1 else s.O i := fun i => rfl
  have Ox : (s.move e x).O x = r := by rw [Osub, if_pos rfl, hO]; rfl
  have One : ∀ i, i ≠ x → (s.move e x).O i = s.O i := fun i hi => up_ne hi
  have Qe : (s.move e x).Q e = (s.Q e).erase x := up_same
  have Qne : ∀ e', e' ≠ e → (s.move e x).Q e' = s.Q e' := fun e' h => up_ne h
  have kx : (s.move e x).k x = s.k x + 1 := up_same
  have kne : ∀ i, i ≠ x → (s.move e x).k i = s.k i := fun i h => up_ne h
  refine ⟨{ ognd := I.ognd, oglt := I.oglt, oglen := I.oglen, bele := I.bele, L0 := I.L0, bk := I.bk, oeq := ?_, cale := ?_, lind := ?_, lii := ?_, busy := ?_, mnd := ?_, mv := ?_, full := ?_ }, ?_, ?_⟩
  · intro i hi
    by_cases q : i = x
    · subst q
      rw [Osub, if_pos rfl, kx, I.oeq i hi, List.drop_drop]
      rfl
    · rw [One i q, kne i q]; exact I.oeq i hi
  · intro i hi ho
    by_cases q : i = x
    · subst q
      have h2 := I.cale i hi hOne
      rw [kx]
      have : z.T * ((s.k i + 1 : Nat) : Int) = z.T * s.k i + z.T := by
        rw [Int.natCast_add, Int.mul_add]
        simp
      rw [this]
      have := ok.T0
      show (s.ca i : Int) ≤ s.be i + _
      omega
    · rw [One i q] at ho; rw [kne i q]; exact I.cale i hi ho
  · show (if _ then s.li.erase x else s.li).Nodup
    split
    · exact I.lind.erase x
    · exact I.lind
  · intro i
    have hr : (s.O x).drop 1 = r := by rw [hO]; rfl
    show i ∈ (if (s.O x).drop 1 = [] then s.li.erase x else s.li) ↔ i < s.n ∧ (s.move e x).O i ≠ []
    by_cases q : i = x
    · subst q
      rw [Ox, hr]
      split
      · rename_i h0
        constructor
        · intro hm
          exact absurd hm (fun hm => (List.Nodup.not_mem_erase I.lind) hm)
        · rintro ⟨_, h1⟩
          exact absurd h0 h1
      · rename_i h0
        exact ⟨fun _ => ⟨hn, h0⟩, fun _ => (I.lii i).mpr ⟨hn, hOne⟩⟩
    · rw [One i q]
      split
      · rw [List.mem_erase_of_ne q]; exact I.lii i
      · exact I.lii i
  · intro e' he'
    by_cases q : e' = e
    · subst q
      have hp : phm t (e' + 1) e' = t + 1 := if_pos (Nat.lt_succ_self _)
      have hp0 : phm t e' e' = t := if_neg (Nat.lt_irrefl _)
      rw [hp]
      rw [hp0] at b
      have bl := b.le
      refine { le := Nat.le_succ_of_le b.le, nd := b.nd, mem := b.mem, inq := fun i hi ho => ?_, qin := fun i hi => ?_, len := ?_, qnd := ?_, head := fun i hi => ?_ }
      · rw [Qe]
        by_cases w : i = x
        · subst w; rw [Ox] at ho; exact absurd ho er
        · rw [One i w] at ho; exact (List.mem_erase_of_ne w).mpr (b.inq i hi ho)
      · rw [Qe] at hi; exact b.qin i (List.mem_of_mem_erase hi)
      · rw [Qe, List.length_erase_of_mem hx]
        have h1 := b.len
        have h2 := List.length_pos_of_mem hx
        show (s.Bs e').length = t + 1 - s.τ e' + ((s.Q e').length - 1)
        omega
      · rw [Qe]; exact b.qnd.erase x
      · rw [Qe] at hi
        have w : i ≠ x := fun w => (List.Nodup.not_mem_erase b.qnd) (by rw [w] at hi; exact hi)
        rw [One i w]
        exact b.head i (List.mem_of_mem_erase hi)
    · have hp : phm t (e + 1) e' = phm t e e' := by unfold phm; by_cases r : e' < e <;> simp [r] <;> omega
      rw [hp]
      have b' := I.busy e' he'
      refine { le := b'.le, nd := b'.nd, mem := b'.mem, inq := fun i hi ho => ?_, qin := fun i hi => ?_, len := ?_, qnd := ?_, head := fun i hi => ?_ }
      · rw [Qne e' q]
        by_cases w : i = x
        · subst w
          rw [Ox] at ho
          have : e' ∈ s.O i := by rw [hO]; exact List.mem_cons_of_mem _ ho
          exact b'.inq i hi this
        · rw [One i w] at ho; exact b'.inq i hi ho
      · rw [Qne e' q] at hi; exact b'.qin i hi
      · rw [Qne e' q]; exact b'.len
      · rw [Qne e' q]; exact b'.qnd
      · rw [Qne e' q] at hi
        have w : i ≠ x := fun w => nq e' he' q (by rw [← w]; exact hi)
        rw [One i w]
        exact b'.head i hi
  · rw [List.nodup_append]
    exact ⟨I.mnd, by simp, fun a ha c hc => by rw [List.mem_singleton.mp hc]; exact fun q => xM (by rw [← q]; exact ha)⟩
  · intro i hi
    rcases List.mem_append.mp hi with hi | hi
    · obtain ⟨h1, h2, h3⟩ := I.mv i hi
      have w : i ≠ x := fun w => xM (by rw [← w]; exact hi)
      refine ⟨h1, fun e' he' hm => ?_, by rw [kne i w]; exact h3⟩
      by_cases q : e' = e
      · subst q; rw [Qe] at hm; exact h2 e' he' (List.mem_of_mem_erase hm)
      · rw [Qne e' q] at hm; exact h2 e' he' hm
    · rw [List.mem_singleton.mp hi]
      refine ⟨hn, fun e' he' hm => ?_, by rw [kx]; exact come⟩
      by_cases q : e' = e
      · subst q; rw [Qe] at hm; exact (List.Nodup.not_mem_erase b.qnd) hm
      · rw [Qne e' q] at hm; exact nq e' he' q hm
  · intro i hi e' hh'
    by_cases w : i = x
    · subst w; exact .inr (List.mem_append_right _ List.mem_cons_self)
    · rw [One i w] at hh'
      rcases I.full i hi e' hh' with q | q
      · refine .inl ?_
        by_cases v : e' = e
        · subst v; rw [Qe]; exact (List.mem_erase_of_ne w).mpr q
        · rw [Qne e' v]; exact q
      · exact .inr (List.mem_append_left _ q)
  · intro i hi ho
    by_cases w : i = x
    · subst w; exact y i hi hOne
    · rw [One i w] at ho; exact y i hi ho
  · intro h0
    have h4 := I.oglen x hn
    have : z.T * ((s.k x + 1 : Nat) : Int) ≤ z.T * z.d := Int.mul_le_mul_of_nonneg_left (by omega) (Int.le_of_lt ok.T0)
    omega
end
end K55

set_option maxRecDepth 100000
set_option maxHeartbeats 1000000
set_option linter.all false
namespace K55
section
variable {z : Pm} {s : S} {t : Nat} {M : List Nat}
theorem home_ok {x : Nat} (I : Inv z s t (fun _ => t + 1) (x :: M)) (h : s.O x = []) : Inv z s t (fun _ => t + 1) M :=
  { I with mnd := (List.nodup_cons.mp I.mnd).2, mv := fun i hi => I.mv i (List.mem_cons_of_mem _ hi), full := fun i hi e hh => (I.full i hi e hh).elim .inl fun q => (List.mem_cons.mp q).elim (fun q => by rw [q, h] at hh; cases hh) .inr }
/-- a parcel wants its next belt -/
def S.come (s : S) (e x t : Nat) : S := { s with Q := up s.Q e (s.Q e ++ [x]), ca := up s.ca x (t + 1), Bs := up s.Bs e (x :: s.Bs e) }
theorem come_ok {e x : Nat} (ok : z.Ok) (I : Inv z s t (fun _ => t + 1) (x :: M)) (hh : (s.O x).head? = some e) : Inv z (s.come e x t) t (fun _ => t + 1) M ∧ e < z.B := by
  obtain ⟨hn, hno, hcome⟩ := I.mv x List.mem_cons_self
  have hOx : e ∈ s.O x := by
    cases q : s.O x with
    | nil => rw [q] at hh; cases hh
    | cons a r => rw [q] at hh; cases hh; exact List.mem_cons_self
  have hog : e ∈ s.og x := by rw [I.oeq x hn] at hOx; exact List.mem_of_mem_drop hOx
  have he : e < z.B := I.oglt x hn e hog
  have hk : s.k x < (s.og x).length := by
    by_cases q : s.k x < (s.og x).length
    · exact q
    · have h1 := I.oeq x hn
      rw [List.drop_eq_nil_of_le (by omega)] at h1
      rw [h1] at hOx; cases hOx
  have b := I.busy e he
  have xB : x ∉ s.Bs e := fun q => hno e he (b.inq x q hOx)
  have xM : x ∉ M := (List.nodup_cons.mp I.mnd).1
  have Qe : (s.come e x t).Q e = s.Q e ++ [x] := up_same
  have Qne : ∀ e', e' ≠ e → (s.come e x t).Q e' = s.Q e' := fun e' h => up_ne h
  have Be : (s.come e x t).Bs e = x :: s.Bs e := up_same
  have Bne : ∀ e', e' ≠ e → (s.come e x t).Bs e' = s.Bs e' := fun e' h => up_ne h
  have cx : (s.come e x t).ca x = t + 1 := up_same
  have cne : ∀ i, i ≠ x → (s.come e x t).ca i = s.ca i := fun i h => up_ne h
  refine ⟨{ ognd := I.ognd, oglt := I.oglt, oglen := I.oglen, bele := I.bele, L0 := I.L0, bk := I.bk, oeq := I.oeq, lind := I.lind, lii := I.lii, cale := ?_, busy := ?_, mnd := (List.nodup_cons.mp I.mnd).2, mv := ?_, full := ?_ }, he⟩
  · intro i hi ho
    by_cases w : i = x
    · subst w
      rw [cx]
      show ((t + 1 : Nat) : Int) ≤ s.be i + z.T * s.k i
      omega
    · rw [cne i w]; exact I.cale i hi ho
  · intro e' he'
    by_cases q : e' = e
    · subst q
      have b1 := b.le
      have hT : z.T * ((s.k x : Nat) : Int) ≤ z.T * ((z.d : Int) - 1) := Int.mul_le_mul_of_nonneg_left (by have := I.oglen x hn; omega) (Int.le_of_lt ok.T0)
      refine { le := b.le, nd := ?_, mem := fun i hi => ?_, inq := fun i hi ho => ?_, qin := fun i hi => ?_, len := ?_, qnd := ?_, head := fun i hi => ?_ }
      · rw [Be]; exact List.nodup_cons.mpr ⟨xB, b.nd⟩
      · rw [Be] at hi
        rcases List.mem_cons.mp hi with w | hi
        · subst w
          refine ⟨hn, hog, ?_⟩
          show (s.τ e' : Int) - _ ≤ s.be i
          omega
        · exact b.mem i hi
      · rw [Qe]
        rw [Be] at hi
        rcases List.mem_cons.mp hi with w | hi
        · subst w; exact List.mem_append_right _ List.mem_cons_self
        · exact List.mem_append_left _ (b.inq i hi ho)
      · rw [Qe] at hi
        rw [Be]
        rcases List.mem_append.mp hi with hi | hi
        · obtain ⟨h1, h2⟩ := b.qin i hi
          have w : i ≠ x := fun w => hno e' he (by rw [← w]; exact hi)
          rw [cne i w]
          exact ⟨List.mem_cons_of_mem _ h1, h2⟩
        · rw [List.mem_singleton.mp hi, cx]
          exact ⟨List.mem_cons_self, b.le⟩
      · rw [Be, Qe, List.length_append, List.length_cons, List.length_singleton, b.len]
        show _ = t + 1 - s.τ e' + _
        omega
      · rw [Qe, List.nodup_append]
        exact ⟨b.qnd, by simp, fun a ha c hc => by rw [List.mem_singleton.mp hc]; exact fun q => hno e' he (by rw [← q]; exact ha)⟩
      · rw [Qe] at hi
        rcases List.mem_append.mp hi with hi | hi
        · exact b.head i hi
        · rw [List.mem_singleton.mp hi]; exact ⟨hn, hh⟩
    · have b' := I.busy e' he'
      refine { le := b'.le, nd := ?_, mem := fun i hi => ?_, inq := fun i hi ho => ?_, qin := fun i hi => ?_, len := ?_, qnd := ?_, head := fun i hi => ?_ }
      · rw [Bne e' q]; exact b'.nd
      · rw [Bne e' q] at hi; exact b'.mem i hi
      · rw [Bne e' q] at hi; rw [Qne e' q]; exact b'.inq i hi ho
      · rw [Qne e' q] at hi
        have w : i ≠ x := fun w => hno e' he' (by rw [← w]; exact hi)
        rw [Bne e' q, cne i w]
        exact b'.qin i hi
      · rw [Bne e' q, Qne e' q]; exact b'.len
      · rw [Qne e' q]; exact b'.qnd
      · rw [Qne e' q] at hi; exact b'.head i hi
  · intro i hi
    obtain ⟨h1, h2, h3⟩ := I.mv i (List.mem_cons_of_mem _ hi)
    refine ⟨h1, fun e' he' hm => ?_, h3⟩
    by_cases q : e' = e
    · subst q
      rw [Qe] at hm
      rcases List.mem_append.mp hm with hm | hm
      · exact h2 e' he' hm
      · exact xM (by rw [← List.mem_singleton.mp hm]; exact hi)
    · rw [Qne e' q] at hm; exact h2 e' he' hm
  · intro i hi e' hh'
    rcases I.full i hi e' hh' with q | q
    · refine .inl ?_
      by_cases v : e' = e
      · subst v; rw [Qe]; exact List.mem_append_left _ q
      · rw [Qne e' v]; exact q
    · rcases List.mem_cons.mp q with w | q
      · subst w
        have : e' = e := Option.some.inj (hh'.symm.trans hh)
        subst this
        exact .inl (by rw [Qe]; exact List.mem_append_right _ List.mem_cons_self)
      · exact .inr q
/-- a parcel is put in -/
def S.put (s : S) (w : List Nat) (e t : Nat) (q : Int) : S :=
  { n := s.n + 1, L := fun e' => if e' ∈ w then s.L e' + q else s.L e', Q := up s.Q e (s.Q e ++ [s.n]), O := up s.O s.n w, li := s.li ++ [s.n], be := up s.be s.n t, ca := up s.ca s.n t, og := up s.og s.n w, k := up s.k s.n 0, τ := s.τ, Bs := up s.Bs e (s.n :: s.Bs e) }
theorem put_ok {w r : List Nat} {e : Nat} (ok : z.Ok) (I : Inv z s t (fun _ => t) []) (y : Young z s t) (lb : LB z s z.p) (hw : w = e :: r) (wnd : w.Nodup) (wlt : ∀ e ∈ w, e < z.B) (wd : w.length ≤ z.d) (hr : ∀ e ∈ w, s.L e + z.q ≤ z.q * z.bu + z.p) :
    Inv z (s.put w e t z.q) t (fun _ => t) [] ∧ Young z (s.put w e t z.q) t ∧ LB z (s.put w e t z.q) z.p := by
  have q0 : 0 < z.q := by have := ok.p0; have := ok.pq; omega
  have ew : e ∈ w := by rw [hw]; exact List.mem_cons_self
  have he : e < z.B := wlt e ew
  have On : (s.put w e t z.q).O s.n = w := up_same
  have One : ∀ i, i ≠ s.n → (s.put w e t z.q).O i = s.O i := fun i h => up_ne h
  have ogn : (s.put w e t z.q).og s.n = w := up_same
  have ogne : ∀ i, i ≠ s.n → (s.put w e t z.q).og i = s.og i := fun i h => up_ne h
  have ben : (s.put w e t z.q).be s.n = t := up_same
  have bene : ∀ i, i ≠ s.n → (s.put w e t z.q).be i = s.be i := fun i h => up_ne h
  have can : (s.put w e t z.q).ca s.n = t := up_same
  have cane : ∀ i, i ≠ s.n → (s.put w e t z.q).ca i = s.ca i := fun i h => up_ne h
  have kn : (s.put w e t z.q).k s.n = 0 := up_same
  have kne : ∀ i, i ≠ s.n → (s.put w e t z.q).k i = s.k i := fun i h => up_ne h
  have Qe : (s.put w e t z.q).Q e = s.Q e ++ [s.n] := up_same
  have Qne : ∀ e', e' ≠ e → (s.put w e t z.q).Q e' = s.Q e' := fun e' h => up_ne h
  have Be : (s.put w e t z.q).Bs e = s.n :: s.Bs e := up_same
  have Bne : ∀ e', e' ≠ e → (s.put w e t z.q).Bs e' = s.Bs e' := fun e' h => up_ne h
  have lt_or : ∀ i, i < (s.put w e t z.q).n → i = s.n ∨ (i ≠ s.n ∧ i < s.n) := fun i hi => by
    have hi : i < s.n + 1 := hi
    omega
  have cnt1 : ∀ (e' : Nat) (x : Int), x ≤ t → cnt (s.put w e t z.q) e' x = cnt s e' x + (if e' ∈ w then 1 else 0) := fun e' x hx => by
    unfold cnt
    show ((List.range (s.n + 1)).filter _).length = _
    rw [List.range_succ, List.filter_append, List.length_append]
    have h1 : (List.range s.n).filter (fun i => decide (e' ∈ (s.put w e t z.q).og i) && decide (x ≤ ((s.put w e t z.q).be i : Int))) = (List.range s.n).filter fun i => decide (e' ∈ s.og i) && decide (x ≤ (s.be i : Int)) := by
      refine List.filter_congr fun i hi => ?_
      have : i ≠ s.n := by have := List.mem_range.mp hi; omega
      rw [ogne i this, bene i this]
    rw [h1]
    have h2 : decide (x ≤ ((t : Nat) : Int)) = true := decide_eq_true hx
    by_cases hm : e' ∈ w
    · simp [ogn, ben, hm, h2]
    · simp [ogn, ben, hm]
  refine ⟨{ ognd := ?_, oglt := ?_, oglen := ?_, oeq := ?_, bele := ?_, cale := ?_, lind := ?_, lii := ?_, L0 := ?_, bk := ?_, busy := ?_, mnd := List.nodup_nil, mv := fun i hi => (by cases hi), full := ?_ }, ?_, ?_⟩
  · intro i hi
    rcases lt_or i hi with rfl | ⟨h1, h2⟩
    · rw [ogn]; exact wnd
    · rw [ogne i h1]; exact I.ognd i h2
  · intro i hi
    rcases lt_or i hi with rfl | ⟨h1, h2⟩
    · rw [ogn]; exact wlt
    · rw [ogne i h1]; exact I.oglt i h2
  · intro i hi
    rcases lt_or i hi with rfl | ⟨h1, h2⟩
    · rw [ogn]; exact wd
    · rw [ogne i h1]; exact I.oglen i h2
  · intro i hi
    rcases lt_or i hi with rfl | ⟨h1, h2⟩
    · rw [On, ogn, kn]; rfl
    · rw [One i h1, ogne i h1, kne i h1]; exact I.oeq i h2
  · intro i hi
    rcases lt_or i hi with rfl | ⟨h1, h2⟩
    · rw [ben]; exact Nat.le_refl _
    · rw [bene i h1]; exact I.bele i h2
  · intro i hi ho
    rcases lt_or i hi with rfl | ⟨h1, h2⟩
    · rw [can, ben, kn]; simp
    · rw [One i h1] at ho; rw [cane i h1, bene i h1, kne i h1]; exact I.cale i h2 ho
  · show (s.li ++ [s.n]).Nodup
    rw [List.nodup_append]
    exact ⟨I.lind, by simp, fun a ha c hc => by rw [List.mem_singleton.mp hc]; exact fun q => by have := ((I.lii a).mp ha).1; omega⟩
  · intro i
    show i ∈ s.li ++ [s.n] ↔ i < s.n + 1 ∧ (s.put w e t z.q).O i ≠ []
    by_cases h1 : i = s.n
    · subst h1
      rw [On, hw]
      simp
    · rw [One i h1, List.mem_append, List.mem_singleton, I.lii i]
      constructor
      · rintro (⟨h2, h3⟩ | h2)
        · exact ⟨by omega, h3⟩
        · exact absurd h2 h1
      · rintro ⟨h2, h3⟩
        exact .inl ⟨by omega, h3⟩
  · intro e' he'
    show 0 ≤ if e' ∈ w then s.L e' + z.q else s.L e'
    have := I.L0 e' he'
    split <;> omega
  · intro e' he' x hx
    rw [cnt1 e' x hx]
    have h1 := I.bk e' he' x hx
    show z.q * _ ≤ (if e' ∈ w then s.L e' + z.q else s.L e') + _
    by_cases hm : e' ∈ w
    · rw [if_pos hm, if_pos hm, Int.natCast_add, Int.mul_add]
      simp
      omega
    · rw [if_neg hm, if_neg hm]
      exact h1
  · intro e' he'
    by_cases q : e' = e
    · subst q
      have b := I.busy e' he
      have b1 := b.le
      have nB : s.n ∉ s.Bs e' := fun h => by have := (b.mem s.n h).1; omega
      have hTd : 0 ≤ z.T * ((z.d : Int) - 1) := Int.mul_nonneg (by have := ok.T0; omega) (by have := ok.d0; omega)
      refine { le := b.le, nd := ?_, mem := fun i hi => ?_, inq := fun i hi ho => ?_, qin := fun i hi => ?_, len := ?_, qnd := ?_, head := fun i hi => ?_ }
      · rw [Be]; exact List.nodup_cons.mpr ⟨nB, b.nd⟩
      · rw [Be] at hi
        rcases List.mem_cons.mp hi with w' | hi
        · subst w'
          refine ⟨Nat.lt_succ_self _, by rw [ogn]; exact ew, ?_⟩
          rw [ben]
          show (s.τ e' : Int) - _ ≤ _
          omega
        · obtain ⟨h1, h2, h3⟩ := b.mem i hi
          have hne : i ≠ s.n := by omega
          refine ⟨Nat.lt_succ_of_lt h1, by rw [ogne i hne]; exact h2, by rw [bene i hne]; exact h3⟩
      · rw [Qe]
        rw [Be] at hi
        rcases List.mem_cons.mp hi with w' | hi
        · subst w'; exact List.mem_append_right _ List.mem_cons_self
        · have hne : i ≠ s.n := by have := (b.mem i hi).1; omega
          rw [One i hne] at ho
          exact List.mem_append_left _ (b.inq i hi ho)
      · rw [Qe] at hi
        rw [Be]
        rcases List.mem_append.mp hi with hi | hi
        · obtain ⟨h1, h2⟩ := b.qin i hi
          have hne : i ≠ s.n := by have := (b.head i hi).1; omega
          rw [cane i hne]
          exact ⟨List.mem_cons_of_mem _ h1, h2⟩
        · rw [List.mem_singleton.mp hi, can]
          exact ⟨List.mem_cons_self, b.le⟩
      · rw [Be, Qe, List.length_append, List.length_cons, List.length_singleton, b.len]
        show _ = t - s.τ e' + _
        omega
      · rw [Qe, List.nodup_append]
        exact ⟨b.qnd, by simp, fun a ha c hc => by rw [List.mem_singleton.mp hc]; exact fun q => by have := (b.head a ha).1; omega⟩
      · rw [Qe] at hi
        rcases List.mem_append.mp hi with hi | hi
        · obtain ⟨h1, h2⟩ := b.head i hi
          have hne : i ≠ s.n := by omega
          rw [One i hne]
          exact ⟨Nat.lt_succ_of_lt h1, h2⟩
        · rw [List.mem_singleton.mp hi, On, hw]
          exact ⟨Nat.lt_succ_self _, rfl⟩
    · have b' := I.busy e' he'
      refine { le := b'.le, nd := ?_, mem := fun i hi => ?_, inq := fun i hi ho => ?_, qin := fun i hi => ?_, len := ?_, qnd := ?_, head := fun i hi => ?_ }
      · rw [Bne e' q]; exact b'.nd
      · rw [Bne e' q] at hi
        obtain ⟨h1, h2, h3⟩ := b'.mem i hi
        have hne : i ≠ s.n := by omega
        exact ⟨Nat.lt_succ_of_lt h1, by rw [ogne i hne]; exact h2, by rw [bene i hne]; exact h3⟩
      · rw [Bne e' q] at hi
        have hne : i ≠ s.n := by have := (b'.mem i hi).1; omega
        rw [One i hne] at ho
        rw [Qne e' q]; exact b'.inq i hi ho
      · rw [Qne e' q] at hi
        have hne : i ≠ s.n := by have := (b'.head i hi).1; omega
        rw [Bne e' q, cane i hne]
        exact b'.qin i hi
      · rw [Bne e' q, Qne e' q]; exact b'.len
      · rw [Qne e' q]; exact b'.qnd
      · rw [Qne e' q] at hi
        obtain ⟨h1, h2⟩ := b'.head i hi
        have hne : i ≠ s.n := by omega
        rw [One i hne]
        exact ⟨Nat.lt_succ_of_lt h1, h2⟩
  · intro i hi e' hh'
    rcases lt_or i hi with rfl | ⟨h1, h2⟩
    · rw [On, hw] at hh'
      have : e = e' := Option.some.inj hh'
      subst this
      exact .inl (by rw [Qe]; exact List.mem_append_right _ List.mem_cons_self)
    · rw [One i h1] at hh'
      rcases I.full i h2 e' hh' with q | q
      · refine .inl ?_
        by_cases v : e' = e
        · subst v; rw [Qe]; exact List.mem_append_left _ q
        · rw [Qne e' v]; exact q
      · cases q
  · intro i hi ho
    rcases lt_or i hi with rfl | ⟨h1, h2⟩
    · rw [can]; have := ok.T0; omega
    · rw [One i h1] at ho; rw [cane i h1]; exact y i h2 ho
  · intro e' he'
    show (if e' ∈ w then s.L e' + z.q else s.L e') ≤ _
    by_cases hm : e' ∈ w
    · rw [if_pos hm]; exact hr e' hm
    · rw [if_neg hm]; exact lb e' he'
/-- the beginning -/
def S0 : S := ⟨0, fun _ => 0, fun _ => [], fun _ => [], [], fun _ => 0, fun _ => 0, fun _ => [], fun _ => 0, fun _ => 0, fun _ => []⟩
theorem start_ok (ok : z.Ok) : Inv z S0 0 (fun _ => 0) [] ∧ LB z S0 0 := by
  have q0 : 0 < z.q := by have := ok.p0; have := ok.pq; omega
  refine ⟨{ ognd := fun i hi => absurd hi (Nat.not_lt_zero _), oglt := fun i hi => absurd hi (Nat.not_lt_zero _), oglen := fun i hi => absurd hi (Nat.not_lt_zero _), oeq := fun i hi => absurd hi (Nat.not_lt_zero _), bele := fun i hi => absurd hi (Nat.not_lt_zero _), cale := fun i hi => absurd hi (Nat.not_lt_zero _), lind := List.nodup_nil, lii := fun i => ⟨fun h => (by cases h), fun h => absurd h.1 (Nat.not_lt_zero _)⟩, L0 := fun _ _ => Int.le_refl _, bk := fun e he x hx => ?_, busy := fun e he => { le := Nat.le_refl _, nd := List.nodup_nil, mem := fun i hi => (by cases hi), inq := fun i hi => (by cases hi), qin := fun i hi => (by cases hi), len := rfl, qnd := List.nodup_nil, head := fun i hi => (by cases hi) }, mnd := List.nodup_nil, mv := fun i hi => (by cases hi), full := fun i hi => absurd hi (Nat.not_lt_zero _) }, fun e he => ?_⟩
  · show z.q * ((0 : Nat) : Int) ≤ 0 + z.p * (0 - x)
    have := Int.mul_nonneg (Int.le_of_lt ok.p0) (show (0 : Int) ≤ 0 - x by have : x ≤ ((0 : Nat) : Int) := hx; omega)
    simp only [Int.natCast_zero, Int.mul_zero]
    omega
  · show (0 : Int) ≤ _
    have := Int.mul_nonneg (Int.le_of_lt q0) (Int.le_of_lt ok.bu0)
    omega
end
end K55

set_option maxRecDepth 100000
set_option maxHeartbeats 1000000
set_option linter.all false
namespace K55
open PySem L2 DL
/-- the lists of a run in the logical heap -/
structure Rp (b lv ow ca li : Nat) (ql : Nat → Nat) (B : Nat) (h0 h : LH) (Ll Ol Cl Vl : List D) (Ql : Nat → List D) : Prop where
  fr : Fr b h0 h
  l : lsAt h lv = some Ll
  o : lsAt h ow = some Ol
  c : lsAt h ca = some Cl
  v : lsAt h li = some Vl
  q : ∀ e, e < B → lsAt h (ql e) = some (Ql e)
  nl : h0.length ≤ lv
  no : h0.length ≤ ow
  nc : h0.length ≤ ca
  nv : h0.length ≤ li
  nq : ∀ e, e < B → h0.length ≤ ql e
  dis : lv ≠ ow ∧ lv ≠ ca ∧ lv ≠ li ∧ ow ≠ ca ∧ ow ≠ li ∧ ca ≠ li
  dq : ∀ e, e < B → ql e ≠ lv ∧ ql e ≠ ow ∧ ql e ≠ ca ∧ ql e ≠ li
  inj : ∀ e e', e < B → e' < B → ql e = ql e' → e = e'
section
variable {b lv ow ca li : Nat} {ql : Nat → Nat} {B : Nat} {h0 h h' : LH} {Ll Ol Cl Vl : List D} {Ql : Nat → List D}
theorem Rp.upd (R : Rp b lv ow ca li ql B h0 h Ll Ol Cl Vl Ql) (u : Upd b h h') : Rp b lv ow ca li ql B h0 h' Ll Ol Cl Vl Ql := by
  have hb := R.fr.lt
  have := R.nl; have := R.no; have := R.nc; have := R.nv
  exact { R with fr := R.fr.upd u, l := by rw [u.ls (by omega)]; exact R.l, o := by rw [u.ls (by omega)]; exact R.o, c := by rw [u.ls (by omega)]; exact R.c, v := by rw [u.ls (by omega)]; exact R.v, q := fun e he => by have := R.nq e he; rw [u.ls (by omega)]; exact R.q e he }
theorem Rp.app (R : Rp b lv ow ca li ql B h0 h Ll Ol Cl Vl Ql) {t : LH} : Rp b lv ow ca li ql B h0 (h ++ t) Ll Ol Cl Vl Ql :=
  { R with fr := R.fr.app, l := lsAt_app R.l, o := lsAt_app R.o, c := lsAt_app R.c, v := lsAt_app R.v, q := fun e he => lsAt_app (R.q e he) }
theorem Rp.setL (R : Rp b lv ow ca li ql B h0 h Ll Ol Cl Vl Ql) (x : List D) : Rp b lv ow ca li ql B h0 (h.set lv (.lst x)) x Ol Cl Vl Ql := by
  have k := lsAt_lt R.l
  obtain ⟨d1, d2, d3, d4, d5, d6⟩ := R.dis
  exact { R with fr := R.fr.set R.nl, l := by rw [lsAt_set k, if_pos rfl], o := by rw [lsAt_set k, if_neg d1]; exact R.o, c := by rw [lsAt_set k, if_neg d2]; exact R.c, v := by rw [lsAt_set k, if_neg d3]; exact R.v, q := fun e he => by rw [lsAt_set k, if_neg (Ne.symm (R.dq e he).1)]; exact R.q e he }
theorem Rp.setO (R : Rp b lv ow ca li ql B h0 h Ll Ol Cl Vl Ql) (x : List D) : Rp b lv ow ca li ql B h0 (h.set ow (.lst x)) Ll x Cl Vl Ql := by
  have k := lsAt_lt R.o
  obtain ⟨d1, d2, d3, d4, d5, d6⟩ := R.dis
  exact { R with fr := R.fr.set R.no, o := by rw [lsAt_set k, if_pos rfl], l := by rw [lsAt_set k, if_neg (Ne.symm d1)]; exact R.l, c := by rw [lsAt_set k, if_neg d4]; exact R.c, v := by rw [lsAt_set k, if_neg d5]; exact R.v, q := fun e he => by rw [lsAt_set k, if_neg (Ne.symm (R.dq e he).2.1)]; exact R.q e he }
theorem Rp.setC (R : Rp b lv ow ca li ql B h0 h Ll Ol Cl Vl Ql) (x : List D) : Rp b lv ow ca li ql B h0 (h.set ca (.lst x)) Ll Ol x Vl Ql := by
  have k := lsAt_lt R.c
  obtain ⟨d1, d2, d3, d4, d5, d6⟩ := R.dis
  exact { R with fr := R.fr.set R.nc, c := by rw [lsAt_set k, if_pos rfl], l := by rw [lsAt_set k, if_neg (Ne.symm d2)]; exact R.l, o := by rw [lsAt_set k, if_neg (Ne.symm d4)]; exact R.o, v := by rw [lsAt_set k, if_neg d6]; exact R.v, q := fun e he => by rw [lsAt_set k, if_neg (Ne.symm (R.dq e he).2.2.1)]; exact R.q e he }
theorem Rp.setV (R : Rp b lv ow ca li ql B h0 h Ll Ol Cl Vl Ql) (x : List D) : Rp b lv ow ca li ql B h0 (h.set li (.lst x)) Ll Ol Cl x Ql := by
  have k := lsAt_lt R.v
  obtain ⟨d1, d2, d3, d4, d5, d6⟩ := R.dis
  exact { R with fr := R.fr.set R.nv, v := by rw [lsAt_set k, if_pos rfl], l := by rw [lsAt_set k, if_neg (Ne.symm d3)]; exact R.l, o := by rw [lsAt_set k, if_neg (Ne.symm d5)]; exact R.o, c := by rw [lsAt_set k, if_neg (Ne.symm d6)]; exact R.c, q := fun e he => by rw [lsAt_set k, if_neg (Ne.symm (R.dq e he).2.2.2)]; exact R.q e he }
theorem Rp.setQ (R : Rp b lv ow ca li ql B h0 h Ll Ol Cl Vl Ql) {e : Nat} (he : e < B) (x : List D) : Rp b lv ow ca li ql B h0 (h.set (ql e) (.lst x)) Ll Ol Cl Vl (up Ql e x) := by
  have k := lsAt_lt (R.q e he)
  obtain ⟨d1, d2, d3, d4⟩ := R.dq e he
  refine { R with fr := R.fr.set (R.nq e he), l := by rw [lsAt_set k, if_neg d1]; exact R.l, o := by rw [lsAt_set k, if_neg d2]; exact R.o, c := by rw [lsAt_set k, if_neg d3]; exact R.c, v := by rw [lsAt_set k, if_neg d4]; exact R.v, q := fun e' he' => ?_ }
  rw [lsAt_set k]
  by_cases w : e' = e
  · subst w; rw [if_pos rfl, up_same]
  · rw [if_neg (fun z => w (R.inj _ _ he he' z).symm), up_ne w]; exact R.q e' he'
theorem Rp.setX (R : Rp b lv ow ca li ql B h0 h Ll Ol Cl Vl Ql) {k : Nat} (hk : k < h.length) (h1 : h0.length ≤ k) (n1 : k ≠ lv ∧ k ≠ ow ∧ k ≠ ca ∧ k ≠ li) (n2 : ∀ e, e < B → k ≠ ql e) (x : LO) : Rp b lv ow ca li ql B h0 (h.set k x) Ll Ol Cl Vl Ql := by
  obtain ⟨d1, d2, d3, d4⟩ := n1
  have ls : ∀ j, k ≠ j → lsAt (h.set k x) j = lsAt h j := fun j hj => by unfold lsAt; rw [List.getElem?_set_ne hj]
  exact { R with fr := R.fr.set h1, l := by rw [ls _ d1]; exact R.l, o := by rw [ls _ d2]; exact R.o, c := by rw [ls _ d3]; exact R.c, v := by rw [ls _ d4]; exact R.v, q := fun e he => by rw [ls _ (n2 e he)]; exact R.q e he }
theorem Rp.Qeq {Ql' : Nat → List D} (R : Rp b lv ow ca li ql B h0 h Ll Ol Cl Vl Ql) (e : ∀ e, e < B → Ql e = Ql' e) : Rp b lv ow ca li ql B h0 h Ll Ol Cl Vl Ql' := { R with q := fun x hx => by rw [← e x hx]; exact R.q x hx }
end
/-- what stays the same in a run -/
structure Cn where
  b : Nat
  zs : List (Int × Int)
  ws : List (List Nat)
  d : Nat
  p : Int
  q : Int
  bu : Int
  rule : Int
  T : Int
  eg : Int
  li : Nat
  ql : Nat → Nat
abbrev Cn.B (c : Cn) : Nat := c.zs.length
abbrev Cn.z (c : Cn) : Pm := ⟨c.B, c.d, c.p, c.q, c.bu, c.T⟩
def qls (c : Cn) : List D := tab c.B fun e => .loc (c.ql e)
abbrev en (c : Cn) (lv ow ca : Nat) (bg : List D) (o18 o19 o20 o21 o22 o23 o24 o25 o26 : Option D) : DL.Env :=
  [some (.loc c.b), some (.tup (c.zs.map pr)), some (.lst (c.ws.map wy)), some (.int c.d), some (.int 40), some (.tup [.int c.p, .int c.q]), some (.int c.bu), some (.int c.rule), some (.int c.T), some (.int (c.T * c.d)), some (.int (c.p * (c.T * c.d) / c.q + c.bu)),
    some (.loc lv), some (.lst (qls c)), some (.loc ow), some (.lst bg), some (.loc ca), some (.loc c.li), some (.int c.eg), o18, o19, o20, o21, o22, o23, o24, o25, o26]
def RpS (c : Cn) (lv ow ca : Nat) (h0 h : LH) (s : S) : Prop :=
  Rp c.b lv ow ca c.li c.ql c.B h0 h (tab c.B fun e => .int (s.L e)) (tab s.n fun i => wy (s.O i)) (tab s.n fun i => .int (s.ca i)) (nd s.li) (fun e => nd (s.Q e))
def begs (s : S) : List D := tab s.n fun i => .int (s.be i)
theorem qls_at {c : Cn} {e : Nat} (he : e < c.B) : atI (qls c) (e : Int) = some (.loc (c.ql e)) := tab_at he
theorem nd_nil (w : List Nat) : (nd w).isEmpty = w.isEmpty := by cases w <;> rfl
theorem wy_slice {w : List Nat} {h : LH} : oSl false (wy w) (some 1) none h = some (.ok (wy (w.drop 1)), h) := by
  unfold oSl wy
  show some (R.ok (D.tup (cutD (nd w) (some 1) none)), h) = _
  have : cutD (nd w) (some 1) none = nd (w.drop 1) := by
    have a1 : HT.sIx (nd w).length 0 (some 1) = min 1 (nd w).length := by
      unfold HT.sIx
      simp
    have a2 : HT.sIx (nd w).length (nd w).length none = (nd w).length := rfl
    unfold cutD
    rw [a1, a2]
    unfold nd
    rw [List.map_drop]
    cases w with
    | nil => rfl
    | cons a r =>
      have : min 1 (List.map (fun (e : Nat) => D.int (e : Int)) (a :: r)).length = 1 := by simp
      rw [this]
      simp
      exact List.take_of_length_le (by simp)
  rw [this]
section
variable {c : Cn} {lv ow ca t : Nat} {h0 h : LH} {s : S} {o19 o20 o21 o23 o24 o25 o26 : Option D} {bg : List D}
theorem b1_is {x : Nat} {M : List Nat} {P : Fl × DL.Env → LH → Prop} (ok : c.z.Ok) (I : Inv c.z s t (fun _ => t + 1) (x :: M)) (R : RpS c lv ow ca h0 h s) (hql : ∀ e, e < c.B → (s.Q e).length ≤ 100000)
    (k : ∀ (s' : S) (h' : LH), Inv c.z s' t (fun _ => t + 1) M → RpS c lv ow ca h0 h' s' → s'.li = s.li → s'.n = s.n → s'.be = s.be → s'.L = s.L → (∀ j, j ≠ ca → (∀ e, e < c.B → j ≠ c.ql e) → lsAt h' j = lsAt h j) → P (.nx, en c lv ow ca bg (some (.int (t : Int))) o19 o20 o21 (some (.int (x : Int))) o23 o24 o25 o26) h') :
    Is (b1__law_played (en c lv ow ca bg (some (.int (t : Int))) o19 o20 o21 (some (.int (x : Int))) o23 o24 o25 o26) h) P := by
  unfold b1__law_played
  have hx := (I.mv x List.mem_cons_self).1
  simp -implicitDefEqProofs [R.o, tab_at hx, oNe_tup (fun y hy => flat_mono (nd_flat _ y hy) (Nat.zero_le _)), wy, nd_nil]
  by_cases hO : s.O x = []
  · simp -implicitDefEqProofs [hO]
    exact k s h (home_ok I hO) R rfl rfl rfl rfl fun _ _ _ => rfl
  · cases q : s.O x with
    | nil => exact absurd q hO
    | cons e r =>
      have hh : (s.O x).head? = some e := by rw [q]; rfl
      obtain ⟨I', he⟩ := come_ok ok I hh
      have e0 : atI (nd (e :: r)) 0 = some (.int (e : Int)) := atI_at (by decide) rfl
      have Rq := R.q e he
      have hl := hql e he
      have R2 := (R.setQ he (nd (s.Q e) ++ [.int (x : Int)])).setC ((tab s.n fun i => .int (s.ca i)).set x (.int ((t : Int) + 1)))
      have nc := (R.dq e he).2.2.1
      have kq := lsAt_lt Rq
      have ec : lsAt (h.set (c.ql e) (.lst (nd (s.Q e) ++ [.int (x : Int)]))) ca = some (tab s.n fun i => .int (s.ca i)) := by rw [lsAt_set kq, if_neg nc]; exact R.c
      simp -implicitDefEqProofs [e0, qls_at he, Rq, ec, ixN_nat hx]
      refine ⟨by unfold line; omega, k (s.come e x t) _ I' ?_ rfl rfl rfl rfl fun j h1 h2 => ?_⟩
      · have hc : (tab s.n fun i => D.int (s.ca i)).set x (.int ((t : Int) + 1)) = tab s.n fun i => .int ((s.come e x t).ca i) := by
          rw [tab_set]
          unfold tab
          refine List.map_congr_left fun j _ => ?_
          show (if j = x then _ else _) = D.int ((if j = x then t + 1 else s.ca j : Nat) : Int)
          split <;> simp
        refine Rp.Qeq (Ql := up (fun e => nd (s.Q e)) e (nd (s.Q e) ++ [.int (x : Int)])) ?_ fun e' he' => by
          show up (fun e => nd (s.Q e)) e (nd (s.Q e) ++ [.int (x : Int)]) e' = nd (up s.Q e (s.Q e ++ [x]) e')
          by_cases w : e' = e
          · subst w; rw [up_same, up_same, nd_snoc]
          · rw [up_ne w, up_ne w]
        show Rp c.b lv ow ca c.li c.ql c.B h0 _ (tab c.B fun e => .int (s.L e)) (tab s.n fun i => wy (s.O i)) (tab s.n fun i => .int ((s.come e x t).ca i)) (nd s.li) _
        rw [← hc]
        exact R2
      · have kc : ca < (h.set (c.ql e) (.lst (nd (s.Q e) ++ [.int (x : Int)]))).length := lsAt_lt ec
        rw [lsAt_set kc, if_neg (Ne.symm h1), lsAt_set kq, if_neg (Ne.symm (h2 e he))]
theorem q_len {z : Pm} {t : Nat} {ph : Nat → Nat} {M : List Nat} (I : Inv z s t ph M) {e : Nat} (he : e < z.B) : (s.Q e).length ≤ s.n := by
  have := sub_len (m := List.range s.n) (I.busy e he).qnd fun i hi => List.mem_range.mpr ((I.busy e he).head i hi).1
  rwa [List.length_range] at this
theorem any_false {xs : List D} : bAny [.lst ((xs.filter fun _ => true).map fun _ => D.bl false)] h = some (.ok (.bl false), h) := by
  have e : (xs.filter fun _ => true).map (fun _ => D.bl false) = (xs.map fun _ => false).map D.bl := by
    rw [List.filter_eq_self.mpr (fun _ _ => rfl), List.map_map]
    rfl
  rw [e, x_bAny]
  simp
theorem erase_cast : ∀ (Q : List Nat) (x : Nat), (Q.map fun (n : Nat) => (n : Int)).erase (x : Int) = (Q.erase x).map fun (n : Nat) => (n : Int)
  | [], x => rfl
  | a :: r, x => by
    by_cases e : a = x
    · subst e; simp
    · have h1 : ((a : Int) == (x : Int)) = false := by simpa using fun q : (a : Int) = x => e (by omega)
      have h2 : (a == x) = false := by simpa using e
      rw [List.map_cons, List.erase_cons_tail (by simp [h1]), List.erase_cons_tail (by simp [h2]), erase_cast r x, List.map_cons]
theorem nd_ints (Q : List Nat) : nd Q = (Q.map fun (n : Nat) => (n : Int)).map D.int := by
  unfold nd
  rw [List.map_map]
  rfl
theorem rem_nd {k x : Nat} {Q : List Nat} (hk : lsAt h k = some (nd Q)) (hx : x ∈ Q) : mRemove (.loc k) [.int (x : Int)] h = some (.ok .non, h.set k (.lst (nd (Q.erase x)))) := by
  rw [x_rem, hk]
  show (intsD (nd Q)).elim none _ = _
  rw [nd_ints, intsD_map]
  show (if (x : Int) ∈ Q.map (fun (n : Nat) => (n : Int)) then _ else _) = _
  rw [if_pos (List.mem_map.mpr ⟨x, hx, rfl⟩), erase_cast, ← nd_ints]
theorem oEq_wy {w : List Nat} : oEq (wy w) (.tup []) h = some (.ok (.bl w.isEmpty), h) := by
  have := oEq_tup (h := h) (xs := nd w) fun y hy => flat_mono (nd_flat _ y hy) (Nat.zero_le _)
  rw [nd_nil] at this
  exact this
theorem b2_is {e mv : Nat} {M : List Nat} {o22 : Option D} {P : Fl × DL.Env → LH → Prop} (ok : c.z.Ok) (he : e < c.B) (I : Inv c.z s t (phm t e) M) (y : Young c.z s t) (R : RpS c lv ow ca h0 h s) (hn : s.n ≤ 1000) (hM : lsAt h mv = some (nd M))
    (m0 : h0.length ≤ mv) (m1 : mv ≠ c.b ∧ mv ≠ lv ∧ mv ≠ ow ∧ mv ≠ ca ∧ mv ≠ c.li) (m2 : ∀ e, e < c.B → mv ≠ c.ql e) (hMl : M.length ≤ 1000)
    (k : ∀ (s' : S) (M' : List Nat) (h' : LH) (o22 : Option D), Inv c.z s' t (phm t (e + 1)) M' → Young c.z s' t → RpS c lv ow ca h0 h' s' → lsAt h' mv = some (nd M') → s'.n = s.n → s'.be = s.be → s'.L = s.L → M'.length ≤ M.length + 1 → P (.nx, en c lv ow ca (begs s) (some (.int (t : Int))) o19 (some (.int (e : Int))) (some (.loc mv)) o22 o23 o24 o25 o26) h') :
    Is (b2__law_played (en c lv ow ca (begs s) (some (.int (t : Int))) o19 (some (.int (e : Int))) (some (.loc mv)) o22 o23 o24 o25 o26) h) P := by
  unfold b2__law_played
  have Rq := R.q e he
  simp -implicitDefEqProofs [qls_at he, oNe_loc Rq (fun y hy => flat_mono (nd_flat _ y hy) (Nat.zero_le _)), nd_nil]
  by_cases hQ : s.Q e = []
  · simp -implicitDefEqProofs [hQ]
    exact k (s.rest e t) M h o22 (rest_ok he I hQ) y R hM rfl rfl rfl (by omega)
  · simp -implicitDefEqProofs [hQ]
    refine going_is R.fr.box Rq (by have := R.fr.lt; have := R.nq e he; omega) hQ (Nat.le_trans (q_len I he) (by omega)) R.o (fun i hi => ((I.busy e he).head i hi).1) fun x h1 hx u => ?_
    have R1 : RpS c lv ow ca h0 h1 s := Rp.upd R u
    have Rq1 := R1.q e he
    have hM1 : lsAt h1 mv = some (nd M) := by rw [u.ls m1.1]; exact hM
    obtain ⟨I', y', trip⟩ := move_ok ok he I y hx
    have hxn := ((I.busy e he).head x hx).1
    simp -implicitDefEqProofs [qls_at he, Rq1, wipeD, -x_rem]
    refine ⟨by have := q_len I he; unfold line; omega, ?_⟩
    rw [comp_pure (s := ⟨nd (s.Q e), some (c.ql e)⟩) (fun _ => true) (fun _ => .bl false) (by rw [grd_some]; exact lsAt_some Rq1) (fun a ha => ?_)]
    · have R2 := R1.setQ he (nd ((s.Q e).erase x))
      have k1 := lsAt_lt Rq1
      have R3 := R2.setO ((tab s.n fun i => wy (s.O i)).set x (wy ((s.O x).drop 1)))
      have hM2 : lsAt (h1.set (c.ql e) (.lst (nd ((s.Q e).erase x)))) mv = some (nd M) := by rw [lsAt_set k1, if_neg (Ne.symm (m2 e he))]; exact hM1
      have k2 := lsAt_lt R2.o
      have hM3 : lsAt ((h1.set (c.ql e) (.lst (nd ((s.Q e).erase x)))).set ow (.lst ((tab s.n fun i => wy (s.O i)).set x (wy ((s.O x).drop 1))))) mv = some (nd M) := by rw [lsAt_set k2, if_neg (Ne.symm m1.2.2.1)]; exact hM2
      have k3 := lsAt_lt hM3
      have R4 := R3.setX k3 m0 ⟨m1.2.1, m1.2.2.1, m1.2.2.2.1, m1.2.2.2.2⟩ m2 (.lst (nd M ++ [.int (x : Int)]))
      have hM4 : lsAt (((h1.set (c.ql e) (.lst (nd ((s.Q e).erase x)))).set ow (.lst ((tab s.n fun i => wy (s.O i)).set x (wy ((s.O x).drop 1))))).set mv (.lst (nd M ++ [.int (x : Int)]))) mv = some (nd (M ++ [x])) := by rw [lsAt_set k3, if_pos rfl, nd_snoc]
      have hc : (tab s.n fun i => wy (s.O i)).set x (wy ((s.O x).drop 1)) = tab s.n fun i => wy ((s.move e x).O i) := by
        rw [tab_set]
        unfold tab
        refine List.map_congr_left fun j _ => ?_
        show (if j = x then _ else _) = wy (if j = x then _ else _)
        split <;> rfl
      have hox : atI ((tab s.n fun i => wy (s.O i)).set x (wy ((s.O x).drop 1))) (x : Int) = some (wy ((s.O x).drop 1)) := by
        rw [tab_set, tab_at hxn, if_pos rfl]
      have hQeq : ∀ e', e' < c.B → up (fun e => nd (s.Q e)) e (nd ((s.Q e).erase x)) e' = nd ((s.move e x).Q e') := fun e' _ => by
        show _ = nd (up s.Q e ((s.Q e).erase x) e')
        by_cases w : e' = e
        · subst w; rw [up_same, up_same]
        · rw [up_ne w, up_ne w]
      have R5 := R4.Qeq hQeq
      have hRp : ∀ hh Vl, Rp c.b lv ow ca c.li c.ql c.B h0 hh (tab c.B fun e => .int (s.L e)) ((tab s.n fun i => wy (s.O i)).set x (wy ((s.O x).drop 1))) (tab s.n fun i => .int (s.ca i)) Vl (fun e' => nd ((s.move e x).Q e')) → Rp c.b lv ow ca c.li c.ql c.B h0 hh (tab c.B fun e => .int ((s.move e x).L e)) (tab s.n fun i => wy ((s.move e x).O i)) (tab s.n fun i => .int ((s.move e x).ca i)) Vl fun e' => nd ((s.move e x).Q e') := fun hh Vl q => by
        rw [← hc]
        exact q
      simp -implicitDefEqProofs [any_false, -x_rem, -List.drop_one, rem_nd Rq1 hx, Rq1, R2.o, tab_at hxn, wy_slice, ixN_nat hxn, hM3, R4.o, hox]
      refine ⟨by unfold line; omega, ?_⟩
      have R5v := R5.v
      have hxli : x ∈ s.li := (I.lii x).mpr ⟨hxn, fun q => by have := ((I.busy e he).head x hx).2; rw [q] at this; cases this⟩
      by_cases h0' : (s.O x).drop 1 = []
      · have tr := trip h0'
        have R6 := R5.setV (nd (s.li.erase x))
        have k5 := lsAt_lt R5.v
        have hM6 := hM4
        simp only [oEq_wy, h0', is_ok, List.isEmpty_nil, if_true]
        rw [h0'] at R6 R5v k5 hM4
        simp -implicitDefEqProofs [-x_rem, R5v, rem_nd R5v hxli, begs, tab_at hxn]
        rw [if_neg (by show ¬ (c.T * (c.d : Int) < (t : Int) - s.be x + 1); have : (t : Int) + 1 ≤ s.be x + c.T * c.d := tr; omega)]
        refine k (s.move e x) (M ++ [x]) _ (some (.int (x : Int))) I' y' ?_ ?_ rfl rfl rfl (by simp)
        · have hli : (s.move e x).li = s.li.erase x := if_pos h0'
          unfold RpS
          rw [hli]
          have := hRp _ _ (by rw [h0']; exact R6)
          exact this
        · rw [lsAt_set k5, if_neg (Ne.symm m1.2.2.2.2)]; exact hM4
      · have hne : (List.drop 1 (s.O x)).isEmpty = false := by simpa using h0'
        simp only [oEq_wy, is_ok, hne, Bool.false_eq_true, if_false]
        refine k (s.move e x) (M ++ [x]) _ (some (.int (x : Int))) I' y' ?_ hM4 rfl rfl rfl (by simp)
        have hli : (s.move e x).li = s.li := if_neg h0'
        unfold RpS
        rw [hli]
        exact hRp _ _ R5
    · obtain ⟨i, hi, rfl⟩ := List.mem_map.mp ha
      have hin := ((I.busy e he).head i hi)
      have hyo := y i hin.1 (fun q => by rw [q] at hin; cases hin.2)
      refine ⟨_, rfl, rfl, fun _ => ?_⟩
      simp -implicitDefEqProofs [R1.c, tab_at hin.1]
      show (t : Int) - s.ca i + 1 ≤ c.T
      have : (t : Int) - s.ca i < c.T := hyo
      omega
end
end K55

set_option maxRecDepth 100000
set_option maxHeartbeats 1000000
set_option linter.all false
namespace K55
open PySem L2 DL
section
variable {c : Cn} {lv ow ca t : Nat} {h0 h : LH} {s : S} {o19 o20 o21 o22 o23 o24 o25 o26 : Option D} {bg : List D}
theorem li_len {z : Pm} {ph : Nat → Nat} {M : List Nat} (I : Inv z s t ph M) : s.li.length ≤ s.n := by
  have := sub_len (m := List.range s.n) I.lind fun i hi => List.mem_range.mpr ((I.lii i).mp hi).1
  rwa [List.length_range] at this
theorem b3_is {e : Nat} {P : Fl × DL.Env → LH → Prop} (ok : c.z.Ok) (he : e < c.B) (I : Inv c.z s t (fun _ => t) []) (y : Young c.z s t) (lb : LB c.z s c.p) (R : RpS c lv ow ca h0 h s) (hn : s.n ≤ 1000)
    (k : P (.nx, en c lv ow ca bg (some (.int (t : Int))) o19 (some (.int (e : Int))) o21 o22 o23 o24 o25 o26) h) :
    Is (b3__law_played (en c lv ow ca bg (some (.int (t : Int))) o19 (some (.int (e : Int))) o21 o22 o23 o24 o25 o26) h) P := by
  unfold b3__law_played
  have w := wants ok I y lb he
  simp -implicitDefEqProofs [R.v, wipeD]
  refine ⟨by have := li_len I; unfold line; omega, ?_⟩
  rw [comp_pure (s := ⟨nd s.li, some c.li⟩) (fun x => match x with | .int i => decide (e ∈ s.O i.toNat) | _ => false) (fun _ => .int 1) (by rw [grd_some]; exact lsAt_some R.v) (fun a ha => ?_)]
  · have hl : ((nd s.li).filter fun x => match x with | .int i => decide (e ∈ s.O i.toNat) | _ => false).length = (s.li.filter fun i => decide (e ∈ s.O i)).length := by
      unfold nd
      rw [List.filter_map, List.length_map]
      rfl
    simp -implicitDefEqProofs [hl]
    rw [if_neg (by
      have w : (((s.li.filter fun i => decide (e ∈ s.O i)).length : Nat) : Int) ≤ c.p * (c.T * c.d) / c.q + c.bu := w
      omega)]
    exact k
  · obtain ⟨i, hi, rfl⟩ := List.mem_map.mp ha
    have hin := ((I.lii i).mp hi).1
    refine ⟨_, rfl, ?_, fun _ => rfl⟩
    simp -implicitDefEqProofs [R.o, tab_at hin, in_tup]
theorem oAdd_loc {mu : Bool} {j : Nat} {xs ys : List D} (e : lsAt h j = some xs) (hl : xs.length + ys.length ≤ line) : oAdd mu (.loc j) (.lst ys) h = newL mu (xs ++ ys) h := by
  have : oAdd mu (.loc j) (.lst ys) h = (lstM h (.loc j)).elim none fun xs => (lstM h (.lst ys)).elim none fun ys => if xs.length + ys.length ≤ line then newL mu (xs ++ ys) h else none := rfl
  rw [this, lstM_loc, e]
  show (if xs.length + ys.length ≤ line then _ else _) = _
  rw [if_pos hl]
theorem oAdd_lst {mu : Bool} {xs ys : List D} (hl : xs.length + ys.length ≤ line) : oAdd mu (.lst xs) (.lst ys) h = newL mu (xs ++ ys) h := by
  have : oAdd mu (.lst xs) (.lst ys) h = (lstM h (.lst xs)).elim none fun xs => (lstM h (.lst ys)).elim none fun ys => if xs.length + ys.length ≤ line then newL mu (xs ++ ys) h else none := rfl
  rw [this, lstM_lst, lstM_lst]
  show (if xs.length + ys.length ≤ line then _ else _) = _
  rw [if_pos hl]
/-- a way goes in -/
theorem levels_is {w : List Nat} {L : Nat → Int} {Ol Cl Vl : List D} {Ql : Nat → List D} {P : Fl × DL.Env → LH → Prop} (hw : ∀ e ∈ w, e < c.B) (wnd : w.Nodup) (R : Rp c.b lv ow ca c.li c.ql c.B h0 h (tab c.B fun e => .int (L e)) Ol Cl Vl Ql)
    (k : ∀ (h' : LH) (o20 : Option D), h'.length = h.length → Rp c.b lv ow ca c.li c.ql c.B h0 h' (tab c.B fun e => .int (if e ∈ w then L e + c.q else L e)) Ol Cl Vl Ql → P (.nx, en c lv ow ca bg (some (.int (t : Int))) o19 o20 o21 o22 o23 o24 o25 o26) h') :
    Is (forD ⟨nd w, none⟩ (gNm 20) b4__law_played (nd w) (en c lv ow ca bg (some (.int (t : Int))) o19 o20 o21 o22 o23 o24 o25 o26) h) P := by
  refine for_is (s := ⟨nd w, none⟩) (fun i σ h' => ∃ o20, σ = en c lv ow ca bg (some (.int (t : Int))) o19 o20 o21 o22 o23 o24 o25 o26 ∧ h'.length = h.length ∧ Rp c.b lv ow ca c.li c.ql c.B h0 h' (tab c.B fun e => .int (if e ∈ w.take i then L e + c.q else L e)) Ol Cl Vl Ql) w.length (nd_len w) ?_ ?_ ⟨o20, rfl, rfl, by simpa using R⟩
  · rintro i x σ h1 hx hi ⟨p20, rfl, hl, R1⟩
    rw [nd_get hi] at hx
    cases hx
    have he := hw _ (List.getElem_mem hi)
    have hne : w[i] ∉ w.take i := fun hm => by
      obtain ⟨j, hj, ej⟩ := List.getElem_of_mem hm
      rw [List.length_take] at hj
      rw [List.getElem_take] at ej
      have := (List.pairwise_iff_getElem.mp (List.nodup_iff_pairwise_ne.mp wnd)) j i (by omega) hi (by omega)
      exact this ej
    refine ⟨trivial, ?_⟩
    unfold b4__law_played
    simp -implicitDefEqProofs [R1.l, tab_at he, ixN_nat he, hne]
    have R2 := R1.setL ((tab c.B fun e => .int (if e ∈ w.take i then L e + c.q else L e)).set w[i] (.int (L w[i] + c.q)))
    refine ⟨hl, ?_⟩
    have hc : (tab c.B fun e => D.int (if e ∈ w.take i then L e + c.q else L e)).set w[i] (.int (L w[i] + c.q)) = tab c.B fun e => D.int (if e ∈ w.take (i + 1) then L e + c.q else L e) := by
      rw [tab_set]
      unfold tab
      refine List.map_congr_left fun j _ => ?_
      have hm : w.take (i + 1) = w.take i ++ [w[i]] := (List.take_append_getElem hi).symm
      rw [hm]
      by_cases q : j = w[i]
      · rw [if_pos q, if_pos (by rw [q]; exact List.mem_append_right _ List.mem_cons_self), q]
      · rw [if_neg q]
        by_cases q2 : j ∈ w.take i
        · rw [if_pos q2, if_pos (List.mem_append_left _ q2)]
        · rw [if_neg q2, if_neg (fun z => (List.mem_append.mp z).elim q2 fun z => q (List.mem_singleton.mp z))]
    rw [hc] at R2
    rw [← hc]
    rw [← hc] at R2
    exact R2
  · rintro σ h1 ⟨p20, rfl, hl, R1⟩
    rw [List.take_length] at R1
    exact ⟨trivial, k h1 p20 hl R1⟩
theorem b5_is {P : Fl × DL.Env → LH → Prop} (ok : c.z.Ok) (q1 : c.q ≤ 1000) (eg : c.eg = 1 ∨ c.eg = 2 ∨ c.eg = 8) (hws : c.ws ≠ []) (hws6 : c.ws.length ≤ 6) (hw : ∀ w ∈ c.ws, IsWay c.B c.d w) (hd : c.d ≤ 6) (I : Inv c.z s t (fun _ => t) []) (y : Young c.z s t) (lb : LB c.z s c.p) (R : RpS c lv ow ca h0 h s) (hn : s.n ≤ 1000)
    (k : ∀ (s' : S) (ow' ca' : Nat) (h' : LH) (o20 o23 : Option D), Inv c.z s' t (fun _ => t) [] → Young c.z s' t → LB c.z s' c.p → RpS c lv ow' ca' h0 h' s' → s'.n ≤ s.n + 1 → P (.nx, en c lv ow' ca' (begs s') (some (.int (t : Int))) o19 o20 o21 o22 o23 o24 o25 o26) h') :
    Is (b5__law_played (en c lv ow ca (begs s) (some (.int (t : Int))) o19 o20 o21 o22 o23 o24 o25 o26) h) P := by
  unfold b5__law_played
  simp -implicitDefEqProofs [-x_sFor]
  refine pick_is R.fr.box (xs := c.ws.map wy) rfl (fun _ _ => rfl) (by rw [List.length_map]; exact List.length_pos_iff.mpr hws) (by rw [List.length_map]; omega) fun i x h1 hx u1 => ?_
  obtain ⟨w, hwm, rfl⟩ := List.mem_map.mp (List.mem_of_getElem? hx)
  obtain ⟨w1, w2, w3, w4⟩ := hw w hwm
  have R1 : RpS c lv ow ca h0 h1 s := Rp.upd R u1
  refine take_is R1.fr.box (by omega) (by omega) fun r h2 r0 r1 u2 => ?_
  have R2 : RpS c lv ow ca h0 h2 s := Rp.upd R1 u2
  have q0 : 0 < c.q := by have := ok.p0; have := ok.pq; show 0 < c.z.q; omega
  by_cases hr : r = 0
  · have er := room_is (h := h2) (lv := lv) (B := c.B) (L := s.L) (p := c.p) (q := c.q) (bu := c.bu) (w := w) R2.l w3 q0 q1 (by omega)
    simp -implicitDefEqProofs [hr, er, -x_sFor]
    by_cases hroom : ∀ e ∈ w, s.L e + c.q ≤ c.q * c.bu + c.p
    · rw [if_pos hroom, x_sFor]
      obtain ⟨e, r', hwe⟩ : ∃ e r', w = e :: r' := by
        cases w with
        | nil => exact absurd rfl w1
        | cons e r' => exact ⟨e, r', rfl⟩
      have hew : e ∈ w := by rw [hwe]; exact List.mem_cons_self
      have he := w3 e hew
      simp -implicitDefEqProofs [wy]
      refine levels_is w3 w2 R2 fun h3 p20 hl3 R3 => ?_
      obtain ⟨I', y', lb'⟩ := put_ok (z := c.z) (w := w) (e := e) ok I y lb hwe w2 w3 w4 hroom
      have e0 : atI (nd w) 0 = some (.int (e : Int)) := by rw [hwe]; exact atI_at (by decide) rfl
      have Rq := R3.q e he
      have kq := lsAt_lt Rq
      have R4 := R3.setQ he (nd (s.Q e) ++ [.int (s.n : Int)])
      have kv := lsAt_lt R4.v
      have R5 := R4.setV (nd s.li ++ [.int (s.n : Int)])
      have ql := q_len I he
      have ll := li_len I
      simp -implicitDefEqProofs [e0, qls_at he, Rq, R3.o, R4.v, R4.o]
      refine ⟨by unfold line; omega, by unfold line; omega, ?_⟩
      have hB : begs s ++ [.int (t : Int)] = begs (s.put w e t c.q) := by
        unfold begs
        rw [tab_snoc]
        show tab (s.n + 1) _ = tab (s.n + 1) fun i => .int ((up s.be s.n t i : Nat) : Int)
        unfold tab up
        refine List.map_congr_left fun j _ => ?_
        by_cases q : j = s.n <;> simp [q]
      have hO : (tab s.n fun i => wy (s.O i)) ++ [wy w] = tab (s.n + 1) fun i => wy ((s.put w e t c.q).O i) := by
        rw [tab_snoc]
        show tab (s.n + 1) _ = tab (s.n + 1) fun i => wy (up s.O s.n w i)
        unfold tab up
        refine List.map_congr_left fun j _ => ?_
        by_cases q : j = s.n <;> simp [q]
      have hC : (tab s.n fun i => D.int (s.ca i)) ++ [.int (t : Int)] = tab (s.n + 1) fun i => .int ((s.put w e t c.q).ca i) := by
        rw [tab_snoc]
        show tab (s.n + 1) _ = tab (s.n + 1) fun i => .int ((up s.ca s.n t i : Nat) : Int)
        unfold tab up
        refine List.map_congr_left fun j _ => ?_
        by_cases q : j = s.n <;> simp [q]
      have hV : nd s.li ++ [.int (s.n : Int)] = nd (s.put w e t c.q).li := nd_snoc _ _
      have R6 := R5.Qeq (Ql' := fun e' => nd ((s.put w e t c.q).Q e')) fun e' _ => by
        show _ = nd (up s.Q e (s.Q e ++ [s.n]) e')
        by_cases v : e' = e
        · subst v; rw [up_same, up_same, nd_snoc]
        · rw [up_ne v, up_ne v]
      rw [hV] at R6 ⊢
      generalize hH : (h3.set (c.ql e) (.lst (nd (s.Q e) ++ [.int (s.n : Int)]))).set c.li (.lst (nd (s.put w e t c.q).li)) = H5 at R6 ⊢
      have o1 := oAdd_loc (mu := true) (ys := [wy w]) R6.o (by rw [tab_len]; show s.n + 1 ≤ line; unfold line; omega)
      have o2 := fun hh => oAdd_lst (h := hh) (mu := false) (xs := begs s) (ys := [.int (t : Int)]) (by unfold begs; rw [tab_len]; show s.n + 1 ≤ line; unfold line; omega)
      have R7 := R6.app (t := [.lst ((tab s.n fun i => wy (s.O i)) ++ [wy w])])
      have o3 := oAdd_loc (mu := true) (ys := [.int (t : Int)]) R7.c (by rw [tab_len]; show s.n + 1 ≤ line; unfold line; omega)
      have R8 := R7.app (t := [.lst ((tab s.n fun i => D.int (s.ca i)) ++ [.int (t : Int)])])
      have g1 := lsAt_lt R6.l
      have g2 := lsAt_lt R6.v
      have g3 : h0.length ≤ H5.length := R6.fr.len
      refine ⟨by unfold line; omega, ?_⟩
      have o1' : oAdd true (.loc ow) (.lst [D.tup (nd w)]) H5 = _ := o1
      rw [o1', x_newT]
      simp only [is_ok, o2, x_newF, o3, x_newT]
      refine ⟨by unfold line; omega, by unfold line; omega, by unfold line; omega, ?_⟩
      rw [hB]
      refine k (s.put w e t c.q) H5.length (H5 ++ [LO.lst ((tab s.n fun i => wy (s.O i)) ++ [wy w])]).length _ p20 (some (wy w)) I' y' lb' ?_ (Nat.le_refl _)
      have hl1 : (H5 ++ [LO.lst ((tab s.n fun i => wy (s.O i)) ++ [wy w])]).length = H5.length + 1 := by simp
      exact { fr := R8.fr, l := R8.l, o := (lsAt_app lsAt_new).trans (congrArg some hO), c := lsAt_new.trans (congrArg some hC), v := R8.v, q := R8.q, nl := R8.nl, no := g3, nc := by rw [hl1]; omega, nv := R8.nv, nq := R8.nq,
              dis := ⟨by omega, by rw [hl1]; omega, R6.dis.2.2.1, by rw [hl1]; omega, by omega, by rw [hl1]; omega⟩,
              dq := fun e' he' => ⟨(R6.dq e' he').1, by have := lsAt_lt (R6.q e' he'); omega, by have := lsAt_lt (R6.q e' he'); rw [hl1]; omega, (R6.dq e' he').2.2.2⟩, inj := R6.inj }
    · rw [if_neg hroom]
      exact k s ow ca h2 o20 (some (wy w)) I y lb R2 (by omega)
  · simp -implicitDefEqProofs [hr]
    exact k s ow ca h2 o20 (some (wy w)) I y lb R2 (by omega)
end
end K55

set_option maxRecDepth 100000
set_option maxHeartbeats 1000000
set_option linter.all false
namespace K55
open PySem L2 DL
section
variable {c : Cn} {lv ow ca t : Nat} {h0 h : LH} {s : S} {o18 o19 o20 o21 o22 o23 o24 o25 o26 : Option D} {bg : List D}
/-- the case as a whole -/
structure Cok (c : Cn) : Prop where
  z : c.z.Ok
  q1 : c.q ≤ 1000
  eg : c.eg = 1 ∨ c.eg = 2 ∨ c.eg = 8
  hws : c.ws ≠ []
  hws6 : c.ws.length ≤ 6
  hw : ∀ w ∈ c.ws, IsWay c.B c.d w
  hd : c.d ≤ 6
  hB : c.B ≤ 10
  T1 : c.T ≤ 100000
theorem b6_is {P : Fl × DL.Env → LH → Prop} (C : Cok c) (I : Inv c.z s t (fun _ => t) []) (lb : LB c.z s 0) (R : RpS c lv ow ca h0 h s) (n1 : s.n ≤ 5 * t) (n2 : s.n ≤ 200) (hbe : ∀ i, i < s.n → s.be i < 40)
    (k1 : ∀ (s' : S) (lv' ow' ca' : Nat) (h' : LH) (o19 o20 o21 o22 o23 : Option D), Inv c.z s' (t + 1) (fun _ => t + 1) [] → LB c.z s' 0 → RpS c lv' ow' ca' h0 h' s' → s'.n ≤ 5 * (t + 1) → s'.n ≤ 200 → (∀ i, i < s'.n → s'.be i < 40) → P (.nx, en c lv' ow' ca' (begs s') (some (.int (t : Int))) o19 o20 o21 o22 o23 o24 o25 o26) h')
    (k2 : ∀ σ h', Fr c.b h0 h' → P (.rt (.bl true), σ) h') :
    Is (b6__law_played (en c lv ow ca (begs s) (some (.int (t : Int))) o19 o20 o21 o22 o23 o24 o25 o26) h) P := by
  have ok := C.z
  have y := young ok I lb
  have lbp : LB c.z s c.p := fun e he => by have := lb e he; have := ok.p0; have e1 : c.z.p = c.p := rfl; omega
  unfold b6__law_played
  -- parcels are put in
  have put : ∀ (N : Nat) (Q : Fl × DL.Env → LH → Prop), (0 < N → t < 40) → N ≤ 5 → (∀ (s' : S) (ow' ca' : Nat) (h' : LH) (o19 o20 o23 : Option D), Inv c.z s' t (fun _ => t) [] → Young c.z s' t → LB c.z s' c.p → RpS c lv ow' ca' h0 h' s' → s'.n ≤ s.n + N → (∀ i, i < s'.n → s'.be i < 40) → Q (.nx, en c lv ow' ca' (begs s') (some (.int (t : Int))) o19 o20 o21 o22 o23 o24 o25 o26) h') →
      Is (forD ⟨rngD 0 N, none⟩ (gNm 19) b5__law_played (rngD 0 N) (en c lv ow ca (begs s) (some (.int (t : Int))) o19 o20 o21 o22 o23 o24 o25 o26) h) Q := by
    intro N Q hN hN5 kq
    refine forR_is (fun i σ h' => ∃ (s' : S) (ow' ca' : Nat) (p19 p20 p23 : Option D), σ = en c lv ow' ca' (begs s') (some (.int (t : Int))) p19 p20 o21 o22 p23 o24 o25 o26 ∧ Inv c.z s' t (fun _ => t) [] ∧ Young c.z s' t ∧ LB c.z s' c.p ∧ RpS c lv ow' ca' h0 h' s' ∧ s'.n ≤ s.n + i ∧ ∀ i, i < s'.n → s'.be i < 40) N ?_ ?_
      ⟨s, ow, ca, o19, o20, o23, rfl, I, y, lbp, R, by omega, hbe⟩
    · rintro i σ h1 hi ⟨s1, ow1, ca1, p19, p20, p23, rfl, I1, y1, lb1, R1, m1, be1⟩
      refine is_ok.mpr ?_
      refine b5_is (o19 := some (.int (i : Int))) ok C.q1 C.eg C.hws C.hws6 C.hw C.hd I1 y1 lb1 R1 (by omega) fun s2 ow2 ca2 h2 q20 q23 I2 y2 lb2 R2 m2 => ?_
      exact ⟨s2, ow2, ca2, _, q20, q23, rfl, I2, y2, lb2, R2, by omega, fun j hj => by have := I2.bele j hj; have := hN (by omega); omega⟩
    · rintro σ h1 ⟨s1, ow1, ca1, p19, p20, p23, rfl, I1, y1, lb1, R1, m1, be1⟩
      exact kq s1 ow1 ca1 h1 p19 p20 p23 I1 y1 lb1 R1 m1 be1
  -- the rest of the beat
  have rest : ∀ (N : Nat), (0 < N → t < 40) → N ≤ 5 → Is (forD ⟨rngD 0 N, none⟩ (gNm 19) b5__law_played (rngD 0 N) (en c lv ow ca (begs s) (some (.int (t : Int))) o19 o20 o21 o22 o23 o24 o25 o26) h)
      fun a h => Is (goOn (sSeq (sFor (iRg1 (aCons (eBi bLen (aCons (eVar 1) (aNil))) (aNil))) (gNm 20) (b3__law_played)) (sSeq (sAsg (eLst true (aNil)) (gNm 21)) (sSeq (sFor (iRg1 (aCons (eBi bLen (aCons (eVar 1) (aNil))) (aNil))) (gNm 20) (b2__law_played)) (sSeq (sFor (iLstD (eVar 21)) (gNm 22) (b1__law_played)) (sSeq (sAsg (eComp true (iLstD (eVar 11)) (gNm 25) (tYesD) (eBi bMax (aCons (eC (.int 0)) (aCons (e2 iSub (eVar 25) (e2 oIx (eVar 5) (eC (.int 0)))) (aNil)))) [25]) (gNm 11)) (sIf (tAndD (tOf (e2 cGe (eVar 18) (eVar 4))) (tOf (e2 oEq (eVar 16) (eLst false (aNil))))) (sRet (eC (.bl true))) (sNx))))))) a h) P := by
    intro N hN hN5
    refine put N _ hN hN5 fun s1 ow1 ca1 h1 p19 p20 p23 I1 y1 lb1 R1 m1 be1 => ?_
    simp -implicitDefEqProofs [-x_sFor]
    rw [x_sFor]
    have eB : rOk ((c.zs.length : Nat) : Int) = true := rok_of (by omega) (by have := C.hB; show (c.B : Int) < _; omega)
    simp -implicitDefEqProofs [eB, -x_sFor]
    refine forR_is (fun i σ h' => ∃ (p20 : Option D), σ = en c lv ow1 ca1 (begs s1) (some (.int (t : Int))) p19 p20 o21 o22 p23 o24 o25 o26 ∧ h' = h1) c.B ?_ ?_ ⟨p20, rfl, rfl⟩
    · rintro i σ h2 hi ⟨q20, rfl, rfl⟩
      refine is_ok.mpr ?_
      exact b3_is ok hi I1 y1 lb1 R1 (by omega) ⟨_, rfl, rfl⟩
    · rintro σ h2 ⟨q20, rfl, rfl⟩
      simp -implicitDefEqProofs [-x_sFor]
      rw [x_sFor]
      simp -implicitDefEqProofs [eB, -x_sFor]
      have R2 : RpS c lv ow1 ca1 h0 (h2 ++ [.lst []]) s1 := Rp.app R1
      have ml := lsAt_lt R1.l; have mo := lsAt_lt R1.o; have mc := lsAt_lt R1.c; have mv := lsAt_lt R1.v
      have m0 := R1.fr.len
      have mb := R1.fr.lt
      refine forR_is (fun i σ h' => ∃ (s' : S) (p20 p22 : Option D) (M : List Nat), σ = en c lv ow1 ca1 (begs s') (some (.int (t : Int))) p19 p20 (some (.loc h2.length)) p22 p23 o24 o25 o26 ∧ Inv c.z s' t (phm t i) M ∧ Young c.z s' t ∧ RpS c lv ow1 ca1 h0 h' s' ∧ lsAt h' h2.length = some (nd M) ∧ s'.n = s1.n ∧ s'.be = s1.be ∧ s'.L = s1.L ∧ M.length ≤ i) c.B ?_ ?_
        ⟨s1, q20, o22, [], rfl, I1, y1, R2, lsAt_new, rfl, rfl, rfl, Nat.le_refl _⟩
      · rintro i σ h3 hi ⟨s2, q20, q22, M, rfl, I2, y2, R2, l2, e1, e2, e3, hM⟩
        refine is_ok.mpr ?_
        have := C.hB
        refine b2_is ok hi I2 y2 R2 (by omega) l2 m0 ⟨by omega, by omega, by omega, by omega, by omega⟩ (fun e he => by have := lsAt_lt (R1.q e he); omega) (by omega) fun s3 M3 h4 q22' I3 y3 R3 l3 f1 f2 f3 f4 => ?_
        have hbg : begs s2 = begs s3 := by unfold begs; rw [f1, f2]
        exact ⟨s3, _, q22', M3, by rw [hbg], I3, y3, R3, l3, f1.trans e1, f2.trans e2, f3.trans e3, by omega⟩
      · rintro σ h3 ⟨s2, r20, q22, M, rfl, I2, y2, R2, l2, e1, e2, e3, hM⟩
        simp -implicitDefEqProofs [l2]
        have I3 : Inv c.z s2 t (fun _ => t + 1) M := { I2 with busy := fun e he => by have q := I2.busy e he; rwa [show phm t c.B e = t + 1 from if_pos he] at q }
        have := C.hB
        refine for_is (s := ⟨nd M, some h2.length⟩) (fun i σ h' => ∃ (s' : S) (p22 : Option D), σ = en c lv ow1 ca1 (begs s') (some (.int (t : Int))) p19 r20 (some (.loc h2.length)) p22 p23 o24 o25 o26 ∧ Inv c.z s' t (fun _ => t + 1) (M.drop i) ∧ RpS c lv ow1 ca1 h0 h' s' ∧ lsAt h' h2.length = some (nd M) ∧ s'.n = s1.n ∧ s'.be = s1.be ∧ s'.L = s1.L) M.length (nd_len M) ?_ ?_
          ⟨s2, q22, rfl, I3, R2, l2, e1, e2, e3⟩
        · rintro i x σ h4 hx hi ⟨s3, q22, rfl, I4, R3, l3, f1, f2, f3⟩
          refine ⟨lsAt_some l3, ?_⟩
          rw [nd_get hi] at hx
          cases hx
          rw [List.drop_eq_getElem_cons hi] at I4
          refine is_ok.mpr ?_
          refine b1_is ok I4 R3 (fun e he => Nat.le_trans (q_len I4 he) (by omega)) fun s4 h5 I5 R4 g1 g2 g3 g4 gl => ?_
          have hbg : begs s3 = begs s4 := by unfold begs; rw [g2, g3]
          exact ⟨s4, _, by rw [hbg], I5, R4, by rw [gl _ (by omega) fun e he => by have := lsAt_lt (R1.q e he); omega]; exact l3, g2.trans f1, g3.trans f2, g4.trans f3⟩
        · rintro σ h4 ⟨s3, q22, rfl, I4, R3, l3, f1, f2, f3⟩
          refine ⟨lsAt_some l3, ?_⟩
          rw [List.drop_length] at I4
          have lb3 : LB c.z s3 c.p := fun e he => by rw [f3]; exact lb1 e he
          obtain ⟨I5, lb5⟩ := decay_ok ok I4 lb3
          simp -implicitDefEqProofs [R3.l, wipeD]
          refine ⟨by unfold line; show c.B ≤ _; omega, ?_⟩
          rw [comp_pure (s := ⟨tab c.B fun e => .int (s3.L e), some lv⟩) (fun _ => true) (fun x => match x with | .int l => .int (max 0 (l - c.p)) | _ => .non) (by rw [grd_some]; exact lsAt_some R3.l) (fun a ha => ?_)]
          · have hL : ((tab c.B fun e => D.int (s3.L e)).filter fun _ => true).map (fun x => match x with | .int l => D.int (max 0 (l - c.p)) | _ => .non) = tab c.B fun e => .int ((s3.decay c.p).L e) := by
              rw [List.filter_eq_self.mpr (fun _ _ => rfl)]
              unfold tab
              rw [List.map_map]
              rfl
            rw [hL]
            have g1 := lsAt_lt R3.l
            have g0 := R3.fr.len
            have R5 : RpS c h4.length ow1 ca1 h0 (h4 ++ [.lst (tab c.B fun e => .int ((s3.decay c.p).L e))]) (s3.decay c.p) := by
              have q := Rp.app (t := [.lst (tab c.B fun e => .int ((s3.decay c.p).L e))]) R3
              have a1 := lsAt_lt R3.o; have a2 := lsAt_lt R3.c; have a3 := lsAt_lt R3.v
              exact { fr := q.fr, l := lsAt_new, o := q.o, c := q.c, v := q.v, q := q.q, nl := g0, no := q.no, nc := q.nc, nv := q.nv, nq := q.nq, dis := ⟨by omega, by omega, by omega, q.dis.2.2.2.1, q.dis.2.2.2.2.1, q.dis.2.2.2.2.2⟩, dq := fun e he => ⟨by have := lsAt_lt (R3.q e he); omega, (q.dq e he).2⟩, inj := q.inj }
            have b200 : s1.n ≤ 200 := by
              by_cases q : 0 < N
              · have := hN q; omega
              · omega
            have b5t : s1.n ≤ 5 * (t + 1) := by omega
            have fin := k1 (s3.decay c.p) h4.length ow1 ca1 _ p19 r20 (some (.loc h2.length)) q22 p23 I5 lb5 R5 (by show s3.n ≤ _; rw [f1]; exact b5t) (by show s3.n ≤ _; rw [f1]; exact b200) (fun i hi => by show s3.be i < 40; rw [f2]; exact be1 i (by rw [← f1]; exact hi))
            simp -implicitDefEqProofs [oEq_loc R5.v (fun y hy => flat_mono (nd_flat _ y hy) (Nat.zero_le _))]
            split
            · split
              · exact k2 _ _ R5.fr
              · exact fin
            · exact fin
          · obtain ⟨e, he, rfl⟩ := tab_mem ha
            exact ⟨_, rfl, rfl, fun _ => by simp -implicitDefEqProofs⟩
  by_cases ht : t < 40
  · have e1 : rOk 5 = true := rok_of (by decide) (by decide)
    have e2 : (t : Int) < 40 := by omega
    have := rest 5 (fun _ => ht) (by omega)
    rw [x_sSeq, is_bnd, x_sFor]
    simp -implicitDefEqProofs only [x_iRg1, x_aCons, x_eIf, x_tOf, x_e2, x_eVar, x_eC, x_aNil, bnd_ok, List.getElem?_cons_zero, List.getElem?_cons_succ, x_cLt, e2, decide_true, if_true, e1]
    exact this
  · have e1 : rOk 0 = true := rok_of (by decide) (by decide)
    have e2 : ¬ (t : Int) < 40 := by omega
    have := rest 0 (fun q => absurd q (Nat.lt_irrefl _)) (by omega)
    rw [x_sSeq, is_bnd, x_sFor]
    simp -implicitDefEqProofs only [x_iRg1, x_aCons, x_eIf, x_tOf, x_e2, x_eVar, x_eC, x_aNil, bnd_ok, List.getElem?_cons_zero, List.getElem?_cons_succ, x_cLt, e2, decide_false, Bool.false_eq_true, if_false, if_true, e1]
    exact this
end
end K55

set_option maxRecDepth 100000
set_option maxHeartbeats 1000000
set_option linter.all false
namespace K55
open PySem L2 DL
theorem comp_alloc {σ0 : DL.Env} {xs : List D} : ∀ (ys : List D) (h : LH), compD ⟨xs, none⟩ (gNm 24) tYesD (eLst true aNil) σ0 ys h = some (.ok ((List.range ys.length).map fun i => D.loc (h.length + i)), h ++ List.replicate ys.length (.lst []))
  | [], h => by
    unfold compD
    rw [if_pos (by trivial)]
    simp
  | y :: ys, h => by
    unfold compD
    rw [if_pos (by trivial)]
    have ih := comp_alloc ys (h ++ [.lst []]) (σ0 := σ0) (xs := xs)
    simp -implicitDefEqProofs [ih]
    constructor
    · rw [List.range_succ_eq_map, List.map_cons, List.map_map]
      simp
      intro a _
      omega
    · rw [List.replicate_succ]
theorem lsAt_rep {h : LH} {n i : Nat} (hi : i < n) : lsAt (h ++ List.replicate n (.lst [])) (h.length + i) = some [] := lsAt_of (by
  rw [List.getElem?_append_right (by omega), Nat.add_sub_cancel_left, List.getElem?_replicate, if_pos hi])
theorem played_is {h : LH} {b d : Nat} {zs : List (Int × Int)} {ws : List (List Nat)} {P : D → LH → Prop} (hb : Box h b) (hz0 : 0 < zs.length) (hz : zs.length ≤ 10) (hws : ws ≠ []) (hws6 : ws.length ≤ 6) (hw : ∀ w ∈ ws, IsWay zs.length d w) (d0 : 1 ≤ d) (d1 : d ≤ 6)
    (k : ∀ h', Upd b h h' → P (.bl true) h') : Is (f__law_played [.loc b, .tup (zs.map pr), .lst (ws.map wy), .int (d : Int), .int 40] h) P := by
  unfold f__law_played
  refine fing_is ?_
  unfold m__law_played
  simp -implicitDefEqProofs [-x_sFor]
  refine rate_is hb d0 d1 fun p q h1 hs u1 => ?_
  refine take_is u1.box (by decide) (by decide) fun bu h2 bu0 bu1 u2 => ?_
  simp -implicitDefEqProofs [-x_sFor]
  refine take_is u2.box (by decide) (by decide) fun rule h3 ru0 ru1 u3 => ?_
  obtain ⟨s1, s2, s3⟩ := bounds_ok (p := p) (q := q) (b := 1 + bu) (d := (d : Int)) (h := h3) hs.p0 hs.pq hs.q1 hs.g (by omega) (by omega) (by omega) (by omega) hs.s
  have q0 : 0 < q := by have := hs.p0; have := hs.pq; omega
  have g0 : 0 < q - p * d := by have := hs.s; omega
  generalize hT : stayB p q (1 + bu) d = T at s1 s2 s3
  have hkey : (1 + bu - 1) * q < T * (q - p * d) := by
    have e := Int.lt_ediv_add_one_mul_self ((1 + bu - 1) * q) g0
    rw [← hT]
    exact e
  have hT0 : 0 < T := by
    have e := Int.ediv_nonneg (a := (1 + bu - 1) * q) (b := q - p * d) (Int.mul_nonneg (by omega) (by omega)) (by omega)
    rw [← hT]
    show 0 < (1 + bu - 1) * q / (q - p * d) + 1
    omega
  have hT1 : T ≤ 100000 := by
    have e := Int.ediv_le_self (a := (1 + bu - 1) * q) (q - p * d) (Int.mul_nonneg (by omega) (by omega))
    have e2 : (1 + bu - 1) * q ≤ 3 * 1000 := Int.mul_le_mul (by omega) hs.q1 (by omega) (by omega)
    rw [← hT]
    show (1 + bu - 1) * q / (q - p * d) + 1 ≤ _
    omega
  simp -implicitDefEqProofs [-x_sFor, s1, s2, s3, line, hz]
  refine ⟨by omega, ?_⟩
  rw [comp_pure (s := ⟨zs.map pr, none⟩) (fun _ => true) (fun _ => .int 0) trivial (fun a _ => ⟨_, rfl, rfl, fun _ => rfl⟩)]
  have hZ : ((zs.map pr).filter fun _ => true).map (fun _ => D.int 0) = tab zs.length fun e => .int (S0.L e) := by
    rw [List.filter_eq_self.mpr (fun _ _ => rfl)]
    show _ = (List.range zs.length).map fun _ => D.int 0
    rw [List.map_const', List.map_const', List.length_map, List.length_range]
  rw [hZ]
  simp only [calm_ok, is_ok]
  refine ⟨by omega, ?_⟩
  rw [comp_alloc]
  simp only [calm_ok, is_ok]
  have hq : ((List.range (zs.map pr).length).map fun i => D.loc ((h3 ++ [LO.lst (tab zs.length fun e => .int (S0.L e))]).length + i)) = tab zs.length fun i => .loc (h3.length + 1 + i) := by
    unfold tab
    rw [List.length_map]
    simp
  rw [hq, List.length_map]
  generalize hA : tab zs.length (fun e => D.int (S0.L e)) = A
  have e3 := u3.len; have e2 := u2.len; have e1 := u1.len
  have bl := hb.lt
  have lv0 : lsAt (h3 ++ [LO.lst A]) h3.length = some A := lsAt_new
  have lq0 : ∀ i, i < zs.length → lsAt (h3 ++ [LO.lst A] ++ List.replicate zs.length (LO.lst [])) (h3.length + 1 + i) = some [] := fun i hi => by
    have := lsAt_rep (h := h3 ++ [LO.lst A]) hi
    rwa [show (h3 ++ [LO.lst A]).length = h3.length + 1 by simp] at this
  have F3 : Fr b h h3 := (((Fr.refl hb).upd u1).upd u2).upd u3
  generalize hH : h3 ++ [LO.lst A] ++ List.replicate zs.length (LO.lst []) = H at lq0
  have Hlen : H.length = h3.length + 1 + zs.length := by rw [← hH]; simp; omega
  have lvH : lsAt H h3.length = some A := by rw [← hH]; exact lsAt_app lv0
  have FH : Fr b h H := by rw [← hH]; exact F3.app.app
  have w0 : lsAt (H ++ [LO.lst [], LO.lst [], LO.lst []]) H.length = some [] := lsAt_of (by simp)
  have w1 : lsAt (H ++ [LO.lst [], LO.lst [], LO.lst []]) (H.length + 1) = some [] := lsAt_of (by
    rw [List.getElem?_append_right (by omega), Nat.add_sub_cancel_left]; rfl)
  have w2 : lsAt (H ++ [LO.lst [], LO.lst [], LO.lst []]) (H.length + 1 + 1) = some [] := lsAt_of (by
    rw [List.getElem?_append_right (by omega), show H.length + 1 + 1 - H.length = 2 by omega]; rfl)
  refine pick_is FH.app.box (xs := [D.int 1, D.int 2, D.int 8]) rfl (fun _ _ => rfl) (by simp) (by simp) fun j x h5 hx u5 => ?_
  obtain ⟨eg, rfl, heg⟩ : ∃ eg : Int, x = .int eg ∧ (eg = 1 ∨ eg = 2 ∨ eg = 8) := by
    have := List.mem_of_getElem? hx
    simp only [List.mem_cons, List.not_mem_nil, or_false] at this
    rcases this with rfl | rfl | rfl
    · exact ⟨1, rfl, .inl rfl⟩
    · exact ⟨2, rfl, .inr (.inl rfl)⟩
    · exact ⟨8, rfl, .inr (.inr rfl)⟩
  let c : Cn := ⟨b, zs, ws, d, p, q, 1 + bu, rule, T, eg, H.length + 1 + 1, fun i => h3.length + 1 + i⟩
  have C : Cok c := ⟨⟨hs.p0, hs.pq, by show 0 < 1 + bu; omega, hT0, by show 0 < d; omega, hkey⟩, hs.q1, heg, hws, hws6, hw, d1, hz, hT1⟩
  have R : RpS c h3.length H.length (H.length + 1) h h5 S0 := by
    have R0 : Rp b h3.length H.length (H.length + 1) (H.length + 1 + 1) (fun i => h3.length + 1 + i) zs.length h (H ++ [LO.lst [], LO.lst [], LO.lst []]) A [] [] [] (fun _ => []) :=
      { fr := FH.app, l := lsAt_app lvH, o := w0, c := w1, v := w2, q := fun e he => lsAt_app (lq0 e he), nl := by omega, no := by omega, nc := by omega, nv := by omega, nq := fun e he => by omega, dis := ⟨by omega, by omega, by omega, by omega, by omega, by omega⟩, dq := fun e he => ⟨by omega, by omega, by omega, by omega⟩, inj := fun e e' _ _ q => by omega }
    have R1 := R0.upd u5
    rw [← hA] at R1
    exact R1
  obtain ⟨I0, lb0⟩ := start_ok C.z
  have hTd : T * d ≤ 100000 * 6 := Int.mul_le_mul hT1 (by omega) (by omega) (by omega)
  have hTd0 : 0 < T * d := Int.mul_pos hT0 (by omega)
  rw [x_sFor]
  simp -implicitDefEqProofs [rok_of (show (0 : Int) ≤ 40 + T * d by omega) (by omega)]
  refine forR_is (fun i σ h' => ∃ (s : S) (lv ow ca : Nat) (o18 o19 o20 o21 o22 o23 : Option D), σ = en c lv ow ca (begs s) o18 o19 o20 o21 o22 o23 none none none ∧ Inv c.z s i (fun _ => i) [] ∧ LB c.z s 0 ∧ RpS c lv ow ca h h' s ∧ s.n ≤ 5 * i ∧ s.n ≤ 200 ∧ ∀ j, j < s.n → s.be j < 40) (40 + T * d).toNat ?_ ?_
    ⟨S0, _, _, _, none, none, none, none, none, none, rfl, I0, lb0, R, Nat.le_refl _, Nat.zero_le _, fun j hj => absurd hj (Nat.not_lt_zero _)⟩
  · rintro i σ h6 hi ⟨s, lv, ow, ca, p18, p19, p20, p21, p22, p23, rfl, I, lb, R, n1, n2, be⟩
    refine is_ok.mpr ?_
    refine b6_is C I lb R n1 n2 be (fun s' lv' ow' ca' h7 r19 r20 r21 r22 r23 I' lb' R' n1' n2' be' => ⟨s', lv', ow', ca', _, r19, r20, r21, r22, r23, rfl, I', lb', R', n1', n2', be'⟩) fun σ' h7 F => ?_
    obtain ⟨ok, u⟩ := F.gc
    rw [turn_rt, x_goRt, is_ok]
    exact ⟨ok, .bl true, frz_bl, k _ u⟩
  · rintro σ h6 ⟨s, lv, ow, ca, p18, p19, p20, p21, p22, p23, rfl, I, lb, R, n1, n2, be⟩
    have y := young C.z I lb
    have hli : s.li = [] := by
      cases q : s.li with
      | nil => rfl
      | cons a r =>
        obtain ⟨h1, h2⟩ := (I.lii a).mp (by rw [q]; exact List.mem_cons_self)
        have h3 := age C.z I y h1 h2
        have h4 := be a h1
        have h5 : ((((40 + T * d).toNat : Nat) : Int) - s.be a) < T * d := h3
        omega
    obtain ⟨ok, u⟩ := R.fr.gc
    have hv : lsAt h6 (H.length + 1 + 1) = some (nd s.li) := R.v
    rw [hli] at hv
    have eo : oEq (.loc c.li) (.lst []) h6 = some (.ok (.bl true), h6) := oEq_loc hv (fun y hy => by cases hy)
    simp -implicitDefEqProofs
    rw [eo]
    exact is_ok.mpr ⟨ok, .bl true, frz_bl, k _ u⟩
end K55

set_option maxRecDepth 100000
set_option maxHeartbeats 1000000
set_option linter.all false
namespace K55
open PySem L2 DL
theorem law_true (ns : List Int) (_ : ns.length ≤ 63) : ∃ h', f_law [.scr ns] [] = some (.ok (.bl true), h') := by
  have go : Is (f_law [.scr ns] []) fun d _ => d = .bl true := by
    unfold f_law
    refine fin_is ?_
    unfold m_law
    rw [x_sSeq, is_bnd, x_sFor]
    simp -implicitDefEqProofs [rok_of (show (0 : Int) ≤ 2 by decide) (by decide)]
    refine forR_is (fun i σ h' => ∃ (o1 o2 o3 o4 o5 o6 : Option D), σ = [some (.scr ns), o1, o2, o3, o4, o5, o6]) 2 ?_ ?_ ⟨none, none, none, none, none, none, rfl⟩
    · rintro i σ h hi ⟨o1, o2, o3, o4, o5, o6, rfl⟩
      simp -implicitDefEqProofs
      refine box_is (by omega) (by omega) fun c0 c1 p0 p1 => ?_
      have hb : Box (h ++ [.lst [.int c0, .int c1, .int 0]]) h.length := ⟨c0, c1, 0, lsAt_new, p0, p1, Int.le_refl _⟩
      refine web_is hb fun pl zs h1 hz u1 => ?_
      simp -implicitDefEqProofs [oEq_tup (prs_flat zs), line]
      split
      · refine ways_is (zs := [(0, 1)]) u1.box (by decide) (by decide) fun ws dd h2 w1 w2 w3 d1 d2 u2 => ?_
        simp -implicitDefEqProofs
        refine played_is (zs := [(0, 1)]) u2.box (by decide) (by decide) w1 w2 w3 d1 d2 fun h3 u3 => ?_
        simp -implicitDefEqProofs
      · rename_i hne
        refine ways_is u1.box hz (List.length_pos_iff.mpr hne) fun ws dd h2 w1 w2 w3 d1 d2 u2 => ?_
        simp -implicitDefEqProofs
        refine played_is u2.box (List.length_pos_iff.mpr hne) hz w1 w2 w3 d1 d2 fun h3 u3 => ?_
        simp -implicitDefEqProofs
    · rintro σ h ⟨o1, o2, o3, o4, o5, o6, rfl⟩
      simp -implicitDefEqProofs
  obtain ⟨d, h', e, rfl⟩ := go
  exact ⟨h', e⟩
end K55

open PySem PySem.W PyProof.Rows in
set_option maxRecDepth 100000 in
set_option maxHeartbeats 0 in
theorem PySem.Challenge.cw_evergreedy_k55_whole_slow_feeders_in_any_holds : PySem.Challenge.rw_evergreedy_k55_whole_slow_feeders_in_any.Holds := by
  w_on; o_law; k_head; (case hw => w_witness2)
  k_fill
  refine DL.den_walk (l := PySem.Challenge.rw_evergreedy_k55_whole_slow_feeders_in_any) (k := 12) (ca := fun _ _ => 0) (f := K55.f_law) rfl rfl ⟨rfl, by decide, by decide⟩ (fun w h Y => PySem.W.kIn_of Y) ?F K55.law_true
  case F =>
    intro w mg fa h KX G hmg
    refine K55.at_law ?_
    refine' K55.all_mk KX G hmg ?a0 ?l0 ?c0 ?k0 ?a1 ?l1 ?c1 ?k1 ?a2 ?l2 ?c2 ?k2 ?a3 ?l3 ?c3 ?k3 ?a4 ?l4 ?c4 ?k4 ?a5 ?l5 ?c5 ?k5 ?a6 ?l6 ?c6 ?k6 ?a7 ?l7 ?c7 ?k7 ?a8 ?l8 ?c8 ?k8 ?a9 ?l9 ?t9 ?c9 ?k9 ?a10 ?l10 ?c10 ?k10 ?a11 ?l11 ?c11 ?k11 ?a12 ?l12 ?c12 ?k12 ?a13 ?l13 ?c13 ?k13 ?a14 ?l14 ?c14 ?k14 ?a15 ?l15 ?c15 ?k15 ?a16 ?l16 ?c16 ?k16 ?a17 ?l17 ?c17 ?k17 ?a18 ?l18 ?c18 ?k18 ?a19 ?l19 ?c19 ?k19 ?a20 ?l20 ?c20 ?k20 ?a21 ?l21 ?c21 ?k21 ?z_abs ?z_all ?z_any ?z_bool ?z_int ?z_isinstance ?z_len ?z_max ?z_min ?z_range ?z_tuple ?y_MOST_BELTS_OF_WAY ?y_MOST_BOTTOM
    (case a0 => k_is)
    (case l0 => k_is)
    (case c0 => k_is)
    (case k0 => k_is)
    (case a1 => k_is)
    (case l1 => k_is)
    (case c1 => k_is)
    (case k1 => k_is)
    (case a2 => k_is)
    (case l2 => k_is)
    (case c2 => k_is)
    (case k2 => k_is)
    (case a3 => k_is)
    (case l3 => k_is)
    (case c3 => k_is)
    (case k3 => k_is)
    (case a4 => k_is)
    (case l4 => k_is)
    (case c4 => k_is)
    (case k4 => k_is)
    (case a5 => k_is)
    (case l5 => k_is)
    (case c5 => k_is)
    (case k5 => k_is)
    (case a6 => k_is)
    (case l6 => k_is)
    (case c6 => k_is)
    (case k6 => k_is)
    (case a7 => k_is)
    (case l7 => k_is)
    (case c7 => k_is)
    (case k7 => k_is)
    (case a8 => k_is)
    (case l8 => k_is)
    (case c8 => k_is)
    (case k8 => k_is)
    (case a9 => k_is)
    (case l9 => k_is)
    (case t9 => k_is)
    (case c9 => k_is)
    (case k9 => k_is)
    (case a10 => k_is)
    (case l10 => k_is)
    (case c10 => k_is)
    (case k10 => k_is)
    (case a11 => k_is)
    (case l11 => k_is)
    (case c11 => k_is)
    (case k11 => k_is)
    (case a12 => k_is)
    (case l12 => k_is)
    (case c12 => k_is)
    (case k12 => k_is)
    (case a13 => k_is)
    (case l13 => k_is)
    (case c13 => k_is)
    (case k13 => k_is)
    (case a14 => k_is)
    (case l14 => k_is)
    (case c14 => k_is)
    (case k14 => k_is)
    (case a15 => k_is)
    (case l15 => k_is)
    (case c15 => k_is)
    (case k15 => k_is)
    (case a16 => k_is)
    (case l16 => k_is)
    (case c16 => k_is)
    (case k16 => k_is)
    (case a17 => k_is)
    (case l17 => k_is)
    (case c17 => k_is)
    (case k17 => k_is)
    (case a18 => k_is)
    (case l18 => k_is)
    (case c18 => k_is)
    (case k18 => k_is)
    (case a19 => k_is)
    (case l19 => k_is)
    (case c19 => k_is)
    (case k19 => k_is)
    (case a20 => k_is)
    (case l20 => k_is)
    (case c20 => k_is)
    (case k20 => k_is)
    (case a21 => k_is)
    (case l21 => k_is)
    (case c21 => k_is)
    (case k21 => k_is)
    (case z_abs => k_is)
    (case z_all => k_is)
    (case z_any => k_is)
    (case z_bool => k_is)
    (case z_int => k_is)
    (case z_isinstance => k_is)
    (case z_len => k_is)
    (case z_max => k_is)
    (case z_min => k_is)
    (case z_range => k_is)
    (case z_tuple => k_is)
    (case y_MOST_BELTS_OF_WAY => k_is)
    (case y_MOST_BOTTOM => k_is)

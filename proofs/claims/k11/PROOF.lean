import PyProof.Rows.All
import Wide.All
import OpenK.AllK
import Wide.FinOn
import HandS.ForMost
import HandS.ForExc
import HandS.TupAny
import HandS.TupMul
import HandS.Wide
import HandS.ExcCtx
import HandS.Style
import HandS.Flow
import HandS.Zip
import HandS.CallSlots
import HandS.MethStar
import HandS.IsInst
import KE.SortData
import HandS.WordsDict
import HandS.SortInts
import HandS.Conv
import HandS.EndBits
import KE.DataEq
import PySem.Challenge.RW_plainpath_k11_judged
set_option Elab.async false
set_option linter.all false
set_option maxRecDepth 100000
set_option maxHeartbeats 4000000
set_option autoImplicit false
/-! DL1: data without a heap, a store of the things that change, and how both lie in the hand layer's abstract heap. -/
namespace DL
open PySem L2

/-- data: lists and tuples by value; what changes by its place in the store; a def by a number -/
inductive D where
  | non | bl (b : Bool) | int (i : Int) | str (s : Str) | tup (xs : List D) | lst (xs : List D) | loc (l : Nat) | fn (i : Nat) | scr (ns : List Int) | kt (ss : List Str)

/-- what changes -/
inductive Ob where
  | lst (xs : List D)
  | dk (z : Bool) (kvs : List (Key × D))
  | dt (z : Bool) (kvs : List (List Key × D))
  | ins (c : Nat) (fs : List D)

abbrev Sto := List Ob
abbrev En := List (Option D)

/-- the ghosts: the written part, where classes and defs lie -/
structure Gh where
  K : PySem.W.Frag
  cA : Nat → Addr
  fA : Nat → Addr
  fld : Nat → List Str
  M : List Addr
/-- one more list that is being made: nothing that is told stands there -/
abbrev Gh.push (g : Gh) (p : Addr) : Gh := { g with M := p :: g.M }
abbrev Gh.wm (g : Gh) (M : List Addr) : Gh := { g with M := M }

/-- a text that can stand in data: not too long, of code points -/
structure SOk (s : Str) : Prop where
  len : s.length ≤ sizeLine
  cps : ∀ c ∈ s.cps.toList, c < 0x110000

/-- a tuple of the written part -/
def KTup (K : PySem.W.Frag) (a : Addr) (xs : List V) : Prop :=
  ∃ (o : Obj) (its : Array Value) (n : Nat), K.lookup a = some o ∧ o.cls = .type "tuple" ∧ o.data = .seq its n ∧ its.size ≤ sizeLine ∧ Vals xs its.toList

/-- a list of the written part -/
def KLst (K : PySem.W.Frag) (a : Addr) (xs : List V) : Prop :=
  ∃ (o : Obj) (its : Array Value) (n : Nat), K.lookup a = some o ∧ o.cls = .type "list" ∧ o.dict = none ∧ o.data = .seq its n ∧ its.size ≤ sizeLine ∧ Vals xs its.toList
mutual
def Rep (g : Gh) (A : List Addr) (H : Hp) : D → V → Prop
  | .non, v => v = .non
  | .bl b, v => v = .bl b
  | .int i, v => v = .int i
  | .str s, v => v = .str s ∧ SOk s
  | .tup ds, v => ∃ a vs, v = .ref a ∧ H a = some (.tup vs) ∧ a ∉ A ∧ Reps g A H ds vs
  | .kt ss, v => ∃ a, v = .ref a ∧ KTup g.K a (ss.map V.str)
  | .lst ds, v => ∃ a vs, v = .ref a ∧ H a = some (.lst vs) ∧ (a ∉ A ∧ a ∉ g.M) ∧ Reps g A H ds vs
  | .loc l, v => ∃ a, v = .ref a ∧ A[l]? = some a
  | .fn i, v => v = .ref (g.fA i)
  | .scr ns, v => ∃ a, v = .ref a ∧ ((Rd H a (.lst (ns.map V.int)) ∧ a ∉ A ∧ a ∉ g.M) ∨ KLst g.K a (ns.map V.int))
def Reps (g : Gh) (A : List Addr) (H : Hp) : List D → List V → Prop
  | [], vs => vs = []
  | d :: ds, vs => ∃ v r, vs = v :: r ∧ Rep g A H d v ∧ Reps g A H ds r
end

/-- from one abstract heap to a later one: the store's places stay and grow, all else that was there is as it was -/
structure Ext (A : List Addr) (H : Hp) (A' : List Addr) (H' : Hp) : Prop where
  pre : ∃ B, A' = A ++ B
  keep : ∀ b o, b ∉ A → H b = some o → b ∉ A' ∧ H' b = some o
theorem Ext.refl (A : List Addr) (H : Hp) : Ext A H A H := ⟨⟨[], by simp⟩, fun _ _ h e => ⟨h, e⟩⟩
theorem Ext.trans {A A1 A2 : List Addr} {H H1 H2 : Hp} (a : Ext A H A1 H1) (b : Ext A1 H1 A2 H2) : Ext A H A2 H2 :=
  ⟨by obtain ⟨B, e⟩ := a.pre; obtain ⟨B', e'⟩ := b.pre; exact ⟨B ++ B', by rw [e', e, List.append_assoc]⟩, fun c o h e => let ⟨h1, e1⟩ := a.keep c o h e; b.keep c o h1 e1⟩
theorem Ext.at {A A' : List Addr} {H H' : Hp} (x : Ext A H A' H') {l : Nat} {a : Addr} (e : A[l]? = some a) : A'[l]? = some a := by
  obtain ⟨B, q⟩ := x.pre
  rw [q, List.getElem?_append_left (List.getElem?_eq_some_iff.mp e).1]
  exact e
theorem Ext.rd {A A' : List Addr} {H H' : Hp} (x : Ext A H A' H') {a : Addr} {u : HO} (r : Rd H a u) (n : a ∉ A) : Rd H' a u ∧ a ∉ A' := by
  rcases r with r | ⟨o, r⟩
  · exact ⟨.inl (x.keep a _ n r).2, (x.keep a _ n r).1⟩
  · exact ⟨.inr ⟨o, (x.keep a _ n r).2⟩, (x.keep a _ n r).1⟩

mutual
theorem Rep.ext {g : Gh} {A A' : List Addr} {H H' : Hp} (x : Ext A H A' H') : ∀ {d : D} {v : V}, Rep g A H d v → Rep g A' H' d v
  | .non, _, h => h
  | .bl _, _, h => h
  | .int _, _, h => h
  | .str _, _, h => h
  | .tup ds, v, h => by
    unfold Rep at h ⊢
    obtain ⟨a, vs, e, q, n, r⟩ := h
    exact ⟨a, vs, e, (x.keep a _ n q).2, (x.keep a _ n q).1, Reps.ext x r⟩
  | .kt ss, v, h => by
    unfold Rep at h ⊢
    exact h
  | .lst ds, v, h => by
    unfold Rep at h ⊢
    obtain ⟨a, vs, e, q, n, r⟩ := h
    exact ⟨a, vs, e, (x.keep a _ n.1 q).2, ⟨(x.keep a _ n.1 q).1, n.2⟩, Reps.ext x r⟩
  | .loc l, v, h => by
    unfold Rep at h ⊢
    obtain ⟨a, e, q⟩ := h
    exact ⟨a, e, x.at q⟩
  | .fn _, _, h => h
  | .scr ns, v, h => by
    unfold Rep at h ⊢
    obtain ⟨a, e, q⟩ := h
    refine ⟨a, e, ?_⟩
    rcases q with ⟨q, n, n2⟩ | q
    · exact .inl ⟨(x.rd q n).1, (x.rd q n).2, n2⟩
    · exact .inr q
theorem Reps.ext {g : Gh} {A A' : List Addr} {H H' : Hp} (x : Ext A H A' H') : ∀ {ds : List D} {vs : List V}, Reps g A H ds vs → Reps g A' H' ds vs
  | [], vs, h => h
  | d :: ds, vs, h => by
    unfold Reps at h ⊢
    obtain ⟨v, r, e, p, q⟩ := h
    exact ⟨v, r, e, Rep.ext x p, Reps.ext x q⟩
end

section
variable {g : Gh} {A A' : List Addr} {H H' : Hp}
theorem Reps.nil : Reps g A H [] [] := by unfold Reps; rfl
theorem Reps.cons {d : D} {v : V} {ds : List D} {vs : List V} (p : Rep g A H d v) (q : Reps g A H ds vs) : Reps g A H (d :: ds) (v :: vs) := by
  unfold Reps; exact ⟨v, vs, rfl, p, q⟩
theorem Reps.nil_inv {vs : List V} (h : Reps g A H [] vs) : vs = [] := by unfold Reps at h; exact h
theorem Reps.cons_inv {d : D} {ds : List D} {vs : List V} (h : Reps g A H (d :: ds) vs) : ∃ v r, vs = v :: r ∧ Rep g A H d v ∧ Reps g A H ds r := by unfold Reps at h; exact h
theorem Reps.len : ∀ {ds : List D} {vs : List V}, Reps g A H ds vs → ds.length = vs.length
  | [], vs, h => by rw [h.nil_inv]; rfl
  | d :: ds, vs, h => by
    obtain ⟨v, r, rfl, _, q⟩ := h.cons_inv
    rw [List.length_cons, List.length_cons, Reps.len q]
theorem Reps.get : ∀ {ds : List D} {vs : List V} {i : Nat} {d : D}, Reps g A H ds vs → ds[i]? = some d → ∃ v, vs[i]? = some v ∧ Rep g A H d v
  | [], _, _, _, _, e => by simp at e
  | d :: ds, vs, 0, _, h, e => by
    obtain ⟨v, r, rfl, p, _⟩ := h.cons_inv
    simp at e; subst e; exact ⟨v, rfl, p⟩
  | d :: ds, vs, i + 1, x, h, e => by
    obtain ⟨v, r, rfl, _, q⟩ := h.cons_inv
    exact Reps.get (i := i) q (by simpa using e)
theorem Reps.get' : ∀ {ds : List D} {vs : List V} {i : Nat} {v : V}, Reps g A H ds vs → vs[i]? = some v → ∃ d, ds[i]? = some d ∧ Rep g A H d v
  | [], vs, i, v, h, e => by rw [h.nil_inv] at e; simp at e
  | d :: ds, vs, 0, v, h, e => by
    obtain ⟨v', r, rfl, p, _⟩ := h.cons_inv
    simp at e; subst e; exact ⟨d, rfl, p⟩
  | d :: ds, vs, i + 1, v, h, e => by
    obtain ⟨v', r, rfl, _, q⟩ := h.cons_inv
    exact Reps.get' (i := i) q (by simpa using e)
theorem Reps.append : ∀ {ds es : List D} {vs ws : List V}, Reps g A H ds vs → Reps g A H es ws → Reps g A H (ds ++ es) (vs ++ ws)
  | [], es, vs, ws, h, q => by rw [h.nil_inv]; exact q
  | d :: ds, es, vs, ws, h, q => by
    obtain ⟨v, r, rfl, p, s⟩ := h.cons_inv
    exact .cons p (Reps.append s q)
theorem Reps.take : ∀ {ds : List D} {vs : List V} (n : Nat), Reps g A H ds vs → Reps g A H (ds.take n) (vs.take n)
  | [], vs, n, h => by rw [h.nil_inv]; simp; exact .nil
  | d :: ds, vs, 0, h => by simp; exact .nil
  | d :: ds, vs, n + 1, h => by
    obtain ⟨v, r, rfl, p, s⟩ := h.cons_inv
    exact .cons p (Reps.take n s)
theorem Reps.drop : ∀ {ds : List D} {vs : List V} (n : Nat), Reps g A H ds vs → Reps g A H (ds.drop n) (vs.drop n)
  | [], vs, n, h => by rw [h.nil_inv]; simp; exact .nil
  | d :: ds, vs, 0, h => h
  | d :: ds, vs, n + 1, h => by
    obtain ⟨v, r, rfl, p, s⟩ := h.cons_inv
    exact Reps.drop n s
theorem Reps.ints : ∀ {ns : List Int} {vs : List V}, Reps g A H (ns.map D.int) vs → vs = ns.map V.int
  | [], vs, h => h.nil_inv
  | n :: ns, vs, h => by
    obtain ⟨v, r, rfl, p, s⟩ := h.cons_inv
    unfold Rep at p
    rw [p, Reps.ints s]; rfl
theorem Reps.of_ints : ∀ (ns : List Int), Reps g A H (ns.map D.int) (ns.map V.int)
  | [] => .nil
  | n :: ns => .cons (by unfold Rep; rfl) (Reps.of_ints ns)
end

def KOk : Key → Prop
  | .inl _ => True
  | .inr s => SOk s
/-- a thing of the store -/
def ObR (g : Gh) (A : List Addr) (H : Hp) (a : Addr) : Ob → Prop
  | .lst ds => ∃ vs, H a = some (.lst vs) ∧ Reps g A H ds vs
  | .dk z kvs => ∃ kv', (if z = true then ∃ o, H a = some (.frz o (.dK kv')) else H a = some (.dK kv')) ∧ Paired (fun (p : Key × D) (q : Key × V) => p.1 = q.1 ∧ Rep g A H p.2 q.2) kvs kv' ∧ ∀ p ∈ kvs, KOk p.1
  | .dt z kvs => ∃ kv', (if z = true then ∃ o, H a = some (.frz o (.dT kv')) else H a = some (.dT kv')) ∧ Paired (fun (p : List Key × D) (q : List Key × V) => p.1 = q.1 ∧ Rep g A H p.2 q.2) kvs kv' ∧ ∀ p ∈ kvs, ∀ k ∈ p.1, KOk k
  | .ins c fs => ∃ dx vs, H a = some (.ins (g.cA c) dx ((g.fld c).zip vs)) ∧ vs.length ≤ (g.fld c).length ∧ Reps g A H fs vs

structure StOk (g : Gh) (A : List Addr) (st : Sto) (H : Hp) : Prop where
  len : A.length = st.length
  nd : A.Nodup
  obj : ∀ (l : Nat) (a : Addr) (o : Ob), A[l]? = some a → st[l]? = some o → ObR g A H a o
  res : ∀ m ∈ g.M, m ∉ A ∧ ∃ u, H m = some u

theorem prd_mono {α β : Type} {F G : α → β → Prop} : ∀ {l₁ : List α} {l₂ : List β}, Paired F l₁ l₂ → (∀ a b, F a b → G a b) → Paired G l₁ l₂
  | _, _, .nil, _ => .nil
  | _, _, .cons r t, f => .cons (f _ _ r) (prd_mono t f)

section
variable {g : Gh} {A A' : List Addr} {H H' : Hp} {st : Sto}
theorem ObR.ext (x : Ext A H A' H') {a : Addr} (k : H' a = H a) : ∀ {o : Ob}, ObR g A H a o → ObR g A' H' a o
  | .lst ds, ⟨vs, e, r⟩ => ⟨vs, k.trans e, r.ext x⟩
  | .dk true kvs, ⟨kv', e, r, ko⟩ => ⟨kv', by simpa [k] using e, prd_mono r fun _ _ h => ⟨h.1, h.2.ext x⟩, ko⟩
  | .dk false kvs, ⟨kv', e, r, ko⟩ => ⟨kv', by simpa [k] using e, prd_mono r fun _ _ h => ⟨h.1, h.2.ext x⟩, ko⟩
  | .dt true kvs, ⟨kv', e, r, ko⟩ => ⟨kv', by simpa [k] using e, prd_mono r fun _ _ h => ⟨h.1, h.2.ext x⟩, ko⟩
  | .dt false kvs, ⟨kv', e, r, ko⟩ => ⟨kv', by simpa [k] using e, prd_mono r fun _ _ h => ⟨h.1, h.2.ext x⟩, ko⟩
  | .ins c fs, ⟨dx, vs, e, hl, r⟩ => ⟨dx, vs, k.trans e, hl, r.ext x⟩
theorem ObR.there {a : Addr} : ∀ {o : Ob}, ObR g A H a o → ∃ u, H a = some u
  | .lst ds, ⟨vs, e, r⟩ => ⟨_, e⟩
  | .dk true kvs, ⟨kv', e, r⟩ => by obtain ⟨o, e⟩ := (by simpa using e : ∃ o, H a = some (.frz o (.dK kv'))); exact ⟨_, e⟩
  | .dk false kvs, ⟨kv', e, r⟩ => ⟨_, by simpa using e⟩
  | .dt true kvs, ⟨kv', e, r⟩ => by obtain ⟨o, e⟩ := (by simpa using e : ∃ o, H a = some (.frz o (.dT kv'))); exact ⟨_, e⟩
  | .dt false kvs, ⟨kv', e, r⟩ => ⟨_, by simpa using e⟩
  | .ins c fs, ⟨dx, vs, e, _, r⟩ => ⟨_, e⟩
theorem StOk.there (s : StOk g A st H) {a : Addr} (h : a ∈ A) : ∃ u, H a = some u := by
  obtain ⟨l, hl, e⟩ := List.getElem_of_mem h
  have e1 : A[l]? = some a := List.getElem?_eq_some_iff.mpr ⟨hl, e⟩
  have hl2 : l < st.length := by rw [← s.len]; exact hl
  exact (s.obj l a st[l] e1 (List.getElem?_eq_getElem hl2)).there
theorem StOk.new_res (s : StOk g A st H) {p : Addr} (hp : H p = none) : p ∉ g.M := fun m => by
  obtain ⟨_, u, e⟩ := s.res p m
  rw [hp] at e; cases e
theorem StOk.new_notin (s : StOk g A st H) {p : Addr} (hp : H p = none) : p ∉ A := fun m => by
  obtain ⟨u, e⟩ := s.there m
  rw [hp] at e; cases e
/-- something beside the store is laid -/
theorem ext_val (s : StOk g A st H) {p : Addr} {o : HO} (hp : H p = none) : Ext A H A (upd H p o) :=
  ⟨⟨[], by simp⟩, fun b u n e => ⟨n, by rw [upd_ne (ne_of_none e hp)]; exact e⟩⟩
theorem StOk.keep (s : StOk g A st H) (x : Ext A H A' H') (hA : A' = A) (k : ∀ a ∈ A, H' a = H a) : StOk g A st H' := by
  subst hA
  exact ⟨s.len, s.nd, fun l a o e1 e2 => (s.obj l a o e1 e2).ext x (k a (List.mem_of_getElem? e1)), fun m hm => let ⟨n, u, e⟩ := s.res m hm; ⟨n, u, (x.keep m u n e).2⟩⟩
theorem StOk.val (s : StOk g A st H) {p : Addr} {o : HO} (hp : H p = none) : StOk g A st (upd H p o) :=
  s.keep (ext_val s hp) rfl fun a ha => upd_ne fun z => s.new_notin hp (z ▸ ha)
/-- a new thing of the store -/
theorem ext_new (s : StOk g A st H) {p : Addr} {o : HO} (hp : H p = none) : Ext A H (A ++ [p]) (upd H p o) :=
  ⟨⟨[p], rfl⟩, fun b u n e => ⟨by simp only [List.mem_append, List.mem_singleton, not_or]; exact ⟨n, ne_of_none e hp⟩, by rw [upd_ne (ne_of_none e hp)]; exact e⟩⟩
theorem nodup_snoc {α : Type} {l : List α} {a : α} (h : l.Nodup) (n : a ∉ l) : (l ++ [a]).Nodup := by
  rw [List.nodup_append]
  exact ⟨h, List.nodup_cons.mpr ⟨by simp, List.nodup_nil⟩, fun x hx y hy e => by
    have : y = a := by simpa using hy
    subst this; subst e; exact n hx⟩
theorem StOk.new (s : StOk g A st H) {p : Addr} {o : HO} {ob : Ob} (hp : H p = none) (r : ObR g (A ++ [p]) (upd H p o) p ob) : StOk g (A ++ [p]) (st ++ [ob]) (upd H p o) := by
  have np := s.new_notin hp
  refine ⟨by simp [s.len], nodup_snoc s.nd np, fun l a u e1 e2 => ?_, fun m hm => let ⟨n, u, e⟩ := s.res m hm; ⟨((ext_new (o := o) s hp).keep m u n e).1, u, ((ext_new (o := o) s hp).keep m u n e).2⟩⟩
  by_cases hl : l < A.length
  · rw [List.getElem?_append_left hl] at e1
    rw [List.getElem?_append_left (by rw [← s.len]; exact hl)] at e2
    exact (s.obj l a u e1 e2).ext (ext_new s hp) (upd_ne fun z => np (z ▸ List.mem_of_getElem? e1))
  · have hl' : l = A.length := by
      have := (List.getElem?_eq_some_iff.mp e1).1
      simp at this; omega
    subst hl'
    simp at e1
    rw [s.len] at e2
    simp at e2
    subst e1; subst e2; exact r
/-- a thing of the store is changed -/
theorem ext_set {l : Nat} {a : Addr} {o : HO} (e : A[l]? = some a) : Ext A H A (upd H a o) :=
  ⟨⟨[], by simp⟩, fun b u n q => ⟨n, by rw [upd_ne (fun z => n (by rw [z]; exact List.mem_of_getElem? e))]; exact q⟩⟩
theorem nd_at {A : List Addr} (nd : A.Nodup) {i j : Nat} {a : Addr} (e1 : A[i]? = some a) (e2 : A[j]? = some a) : i = j := by
  obtain ⟨h1, q1⟩ := List.getElem?_eq_some_iff.mp e1
  obtain ⟨h2, q2⟩ := List.getElem?_eq_some_iff.mp e2
  exact (List.getElem_inj nd).mp (q1.trans q2.symm)
theorem StOk.set (s : StOk g A st H) {l : Nat} {a : Addr} {o : HO} {ob : Ob} (e : A[l]? = some a) (r : ObR g A (upd H a o) a ob) : StOk g A (st.set l ob) (upd H a o) := by
  refine ⟨by simp [s.len], s.nd, fun j b u e1 e2 => ?_, fun m hm => let ⟨n, u, q⟩ := s.res m hm; ⟨n, u, ((ext_set (o := o) e).keep m u n q).2⟩⟩
  by_cases hj : l = j
  · subst hj
    rw [e] at e1; cases e1
    rw [List.getElem?_set_self (by rw [← s.len]; exact (List.getElem?_eq_some_iff.mp e).1)] at e2
    cases e2; exact r
  · rw [List.getElem?_set_ne hj] at e2
    refine (s.obj j b u e1 e2).ext (ext_set e) (upd_ne fun z => ?_)
    subst z
    exact hj (nd_at s.nd e e1)
end

/-! ### a list that is being made -/
mutual
theorem Rep.res {g : Gh} {A : List Addr} {H : Hp} {p : Addr} {o : HO} (hp : H p = none) : ∀ {d : D} {v : V}, Rep g A H d v → Rep (g.push p) A (upd H p o) d v
  | .non, _, h => h
  | .bl _, _, h => h
  | .int _, _, h => h
  | .str _, _, h => h
  | .tup ds, v, h => by
    unfold Rep at h ⊢
    obtain ⟨a, vs, e, q, n, r⟩ := h
    exact ⟨a, vs, e, by rw [upd_ne (ne_of_none q hp)]; exact q, n, Reps.res hp r⟩
  | .kt ss, v, h => by unfold Rep at h ⊢; exact h
  | .lst ds, v, h => by
    unfold Rep at h ⊢
    obtain ⟨a, vs, e, q, n, r⟩ := h
    exact ⟨a, vs, e, by rw [upd_ne (ne_of_none q hp)]; exact q, ⟨n.1, fun m => (List.mem_cons.mp m).elim (ne_of_none q hp) n.2⟩, Reps.res hp r⟩
  | .loc l, v, h => by unfold Rep at h ⊢; exact h
  | .fn _, _, h => h
  | .scr ns, v, h => by
    unfold Rep at h ⊢
    obtain ⟨a, e, q⟩ := h
    refine ⟨a, e, ?_⟩
    rcases q with ⟨q, n, n2⟩ | q
    · have ha : a ≠ p := by
        rcases q with q | ⟨_, q⟩
        · exact ne_of_none q hp
        · exact ne_of_none q hp
      refine .inl ⟨?_, n, fun m => (List.mem_cons.mp m).elim ha n2⟩
      rcases q with q | ⟨z, q⟩
      · exact .inl (by rw [upd_ne ha]; exact q)
      · exact .inr ⟨z, by rw [upd_ne ha]; exact q⟩
    · exact .inr q
theorem Reps.res {g : Gh} {A : List Addr} {H : Hp} {p : Addr} {o : HO} (hp : H p = none) : ∀ {ds : List D} {vs : List V}, Reps g A H ds vs → Reps (g.push p) A (upd H p o) ds vs
  | [], vs, h => h
  | d :: ds, vs, h => by
    unfold Reps at h ⊢
    obtain ⟨v, r, e, p', q⟩ := h
    exact ⟨v, r, e, Rep.res hp p', Reps.res hp q⟩
end
mutual
/-- other places kept free of data, none of which stood yet -/
theorem Rep.wm {g : Gh} {A : List Addr} {H : Hp} {M : List Addr} (hM : ∀ m ∈ M, m ∈ g.M ∨ H m = none) : ∀ {d : D} {v : V}, Rep g A H d v → Rep (g.wm M) A H d v
  | .non, _, h => h
  | .bl _, _, h => h
  | .int _, _, h => h
  | .str _, _, h => h
  | .tup ds, v, h => by
    unfold Rep at h ⊢
    obtain ⟨a, vs, e, q, n, r⟩ := h
    exact ⟨a, vs, e, q, n, Reps.wm hM r⟩
  | .kt ss, v, h => by unfold Rep at h ⊢; exact h
  | .lst ds, v, h => by
    unfold Rep at h ⊢
    obtain ⟨a, vs, e, q, n, r⟩ := h
    exact ⟨a, vs, e, q, ⟨n.1, fun m => (hM a m).elim n.2 fun z => by rw [z] at q; cases q⟩, Reps.wm hM r⟩
  | .loc l, v, h => by unfold Rep at h ⊢; exact h
  | .fn _, _, h => h
  | .scr ns, v, h => by
    unfold Rep at h ⊢
    obtain ⟨a, e, q⟩ := h
    refine ⟨a, e, ?_⟩
    rcases q with ⟨q, n, n2⟩ | q
    · refine .inl ⟨q, n, fun m => (hM a m).elim n2 fun z => ?_⟩
      rcases q with q | ⟨_, q⟩
      · rw [z] at q; cases q
      · rw [z] at q; cases q
    · exact .inr q
theorem Reps.wm {g : Gh} {A : List Addr} {H : Hp} {M : List Addr} (hM : ∀ m ∈ M, m ∈ g.M ∨ H m = none) : ∀ {ds : List D} {vs : List V}, Reps g A H ds vs → Reps (g.wm M) A H ds vs
  | [], vs, h => h
  | d :: ds, vs, h => by
    unfold Reps at h ⊢
    obtain ⟨v, r, e, p', q⟩ := h
    exact ⟨v, r, e, Rep.wm hM p', Reps.wm hM q⟩
end
mutual
theorem Rep.unres {g : Gh} {A : List Addr} {H : Hp} {p : Addr} : ∀ {d : D} {v : V}, Rep (g.push p) A H d v → Rep g A H d v
  | .non, _, h => h
  | .bl _, _, h => h
  | .int _, _, h => h
  | .str _, _, h => h
  | .tup ds, v, h => by
    unfold Rep at h ⊢
    obtain ⟨a, vs, e, q, n, r⟩ := h
    exact ⟨a, vs, e, q, n, Reps.unres r⟩
  | .kt ss, v, h => by unfold Rep at h ⊢; exact h
  | .lst ds, v, h => by
    unfold Rep at h ⊢
    obtain ⟨a, vs, e, q, n, r⟩ := h
    exact ⟨a, vs, e, q, ⟨n.1, fun m => n.2 (List.mem_cons_of_mem _ m)⟩, Reps.unres r⟩
  | .loc l, v, h => by unfold Rep at h ⊢; exact h
  | .fn _, _, h => h
  | .scr ns, v, h => by
    unfold Rep at h ⊢
    obtain ⟨a, e, q⟩ := h
    refine ⟨a, e, ?_⟩
    rcases q with ⟨q, n, n2⟩ | q
    · exact .inl ⟨q, n, fun m => n2 (List.mem_cons_of_mem _ m)⟩
    · exact .inr q
theorem Reps.unres {g : Gh} {A : List Addr} {H : Hp} {p : Addr} : ∀ {ds : List D} {vs : List V}, Reps (g.push p) A H ds vs → Reps g A H ds vs
  | [], vs, h => h
  | d :: ds, vs, h => by
    unfold Reps at h ⊢
    obtain ⟨v, r, e, p', q⟩ := h
    exact ⟨v, r, e, Rep.unres p', Reps.unres q⟩
end
mutual
theorem Rep.more {g : Gh} {A : List Addr} {H : Hp} {p : Addr} {xs ys : List V} (hp : H p = some (.lst xs)) (hm : p ∈ g.M) : ∀ {d : D} {v : V}, Rep g A H d v → Rep g A (upd H p (.lst ys)) d v
  | .non, _, h => h
  | .bl _, _, h => h
  | .int _, _, h => h
  | .str _, _, h => h
  | .tup ds, v, h => by
    unfold Rep at h ⊢
    obtain ⟨a, vs, e, q, n, r⟩ := h
    exact ⟨a, vs, e, by rw [upd_ne (ne_of q hp (by intro z; cases z))]; exact q, n, Reps.more hp hm r⟩
  | .kt ss, v, h => by unfold Rep at h ⊢; exact h
  | .lst ds, v, h => by
    unfold Rep at h ⊢
    obtain ⟨a, vs, e, q, n, r⟩ := h
    have ha : a ≠ p := fun z => n.2 (by rw [z]; exact hm)
    exact ⟨a, vs, e, by rw [upd_ne ha]; exact q, n, Reps.more hp hm r⟩
  | .loc l, v, h => by unfold Rep at h ⊢; exact h
  | .fn _, _, h => h
  | .scr ns, v, h => by
    unfold Rep at h ⊢
    obtain ⟨a, e, q⟩ := h
    refine ⟨a, e, ?_⟩
    rcases q with ⟨q, n, n2⟩ | q
    · have ha : a ≠ p := fun z => n2 (by rw [z]; exact hm)
      refine .inl ⟨?_, n, n2⟩
      rcases q with q | ⟨z, q⟩
      · exact .inl (by rw [upd_ne ha]; exact q)
      · exact .inr ⟨z, by rw [upd_ne ha]; exact q⟩
    · exact .inr q
theorem Reps.more {g : Gh} {A : List Addr} {H : Hp} {p : Addr} {xs ys : List V} (hp : H p = some (.lst xs)) (hm : p ∈ g.M) : ∀ {ds : List D} {vs : List V}, Reps g A H ds vs → Reps g A (upd H p (.lst ys)) ds vs
  | [], vs, h => h
  | d :: ds, vs, h => by
    unfold Reps at h ⊢
    obtain ⟨v, r, e, p', q⟩ := h
    exact ⟨v, r, e, Rep.more hp hm p', Reps.more hp hm q⟩
end
theorem ObR.map {g g' : Gh} {A A' : List Addr} {H H' : Hp} {a : Addr} (hc : g'.cA = g.cA) (hf : g'.fld = g.fld) (k : H' a = H a) (f : ∀ d v, Rep g A H d v → Rep g' A' H' d v) (fs : ∀ d v, Reps g A H d v → Reps g' A' H' d v) : ∀ {o : Ob}, ObR g A H a o → ObR g' A' H' a o
  | .lst ds, ⟨vs, e, r⟩ => ⟨vs, k.trans e, fs _ _ r⟩
  | .dk true kvs, ⟨kv', e, r, ko⟩ => ⟨kv', by simpa [k] using e, prd_mono r fun _ _ h => ⟨h.1, f _ _ h.2⟩, ko⟩
  | .dk false kvs, ⟨kv', e, r, ko⟩ => ⟨kv', by simpa [k] using e, prd_mono r fun _ _ h => ⟨h.1, f _ _ h.2⟩, ko⟩
  | .dt true kvs, ⟨kv', e, r, ko⟩ => ⟨kv', by simpa [k] using e, prd_mono r fun _ _ h => ⟨h.1, f _ _ h.2⟩, ko⟩
  | .dt false kvs, ⟨kv', e, r, ko⟩ => ⟨kv', by simpa [k] using e, prd_mono r fun _ _ h => ⟨h.1, f _ _ h.2⟩, ko⟩
  | .ins c fs', ⟨dx, fs2, e, hl, r⟩ => ⟨dx, fs2, by rw [hc, hf]; exact k.trans e, by rw [hf]; exact hl, fs _ _ r⟩
section
variable {g : Gh} {A : List Addr} {H : Hp} {st : Sto} {p : Addr}
theorem StOk.push (s : StOk g A st H) {o : HO} (hp : H p = none) : StOk (g.push p) A st (upd H p o) := by
  have np := s.new_notin hp
  refine ⟨s.len, s.nd, fun l a u e1 e2 => ObR.map (g := g) (g' := g.push p) rfl rfl (upd_ne fun z => np (by rw [← z]; exact List.mem_of_getElem? e1)) (fun _ _ h => h.res hp) (fun _ _ h => h.res hp) (s.obj l a u e1 e2), fun m hm => ?_⟩
  rcases List.mem_cons.mp hm with e | hm
  · subst e; exact ⟨np, o, upd_same⟩
  · obtain ⟨n, u, q⟩ := s.res m hm
    exact ⟨n, u, by rw [upd_ne (ne_of_none q hp)]; exact q⟩
theorem StOk.pop (s : StOk (g.push p) A st H) : StOk g A st H :=
  ⟨s.len, s.nd, fun l a u e1 e2 => ObR.map (g := g.push p) (g' := g) rfl rfl rfl (fun _ _ h => h.unres) (fun _ _ h => h.unres) (s.obj l a u e1 e2), fun m hm => s.res m (List.mem_cons_of_mem _ hm)⟩
theorem StOk.more (s : StOk g A st H) {xs ys : List V} (hp : H p = some (.lst xs)) (hm : p ∈ g.M) : StOk g A st (upd H p (.lst ys)) := by
  have np := (s.res p hm).1
  refine ⟨s.len, s.nd, fun l a u e1 e2 => ObR.map (g := g) (g' := g) rfl rfl (upd_ne fun z => np (by rw [← z]; exact List.mem_of_getElem? e1)) (fun _ _ h => h.more hp hm) (fun _ _ h => h.more hp hm) (s.obj l a u e1 e2), fun m hm' => ?_⟩
  obtain ⟨n, u, q⟩ := s.res m hm'
  by_cases e : m = p
  · subst e; exact ⟨n, _, upd_same⟩
  · exact ⟨n, u, by rw [upd_ne e]; exact q⟩
end

/-! ### results -/
/-- a proof that is no rfl in simp's eyes: the kernel then need not unfold -/
theorem nrfl {α : Sort _} {a b : α} (h : a = b) : a = b := h
inductive Rs (α : Type) where
  | ok (a : α) (st : Sto) | exc (c : Nat) (st : Sto) | bad
def Rs.bind {α β : Type} (r : Rs α) (k : α → Sto → Rs β) : Rs β := match r with
  | .ok a st => k a st
  | .exc c st => .exc c st
  | .bad => .bad
@[simp] theorem Rs.bind_ok {α β : Type} (a : α) (st : Sto) (k : α → Sto → Rs β) : (Rs.ok a st).bind k = k a st := nrfl rfl
@[simp] theorem Rs.bind_exc {α β : Type} (c : Nat) (st : Sto) (k : α → Sto → Rs β) : (Rs.exc c st : Rs α).bind k = .exc c st := nrfl rfl
@[simp] theorem Rs.bind_bad {α β : Type} (k : α → Sto → Rs β) : (Rs.bad : Rs α).bind k = .bad := nrfl rfl
abbrev DE := En → Sto → Rs D
abbrev DT := En → Sto → Rs Bool
abbrev DA := En → Sto → Rs (List D)
inductive SR where
  | nx (e : En) (st : Sto) | rt (d : D) (st : Sto) | bk (e : En) (st : Sto) | ct (e : En) (st : Sto) | exc (c : Nat) (e : En) (st : Sto) | bad
abbrev DS := En → Sto → SR

/-- the frame's names -/
structure EnOk (g : Gh) (A : List Addr) (env : En) (σ : L2.St) (H : Hp) : Prop where
  len : env.length = σ.length
  slot : ∀ (i : Nat) (d : D), env[i]? = some (some d) → ∃ v, σ[i]? = some (some v) ∧ Rep g A H d v
structure Mt (g : Gh) (A : List Addr) (env : En) (st : Sto) (σ : L2.St) (H : Hp) : Prop where
  env : EnOk g A env σ H
  sto : StOk g A st H
theorem EnOk.ext {g : Gh} {A A' : List Addr} {env : En} {σ : L2.St} {H H' : Hp} (x : Ext A H A' H') (e : EnOk g A env σ H) : EnOk g A' env σ H' :=
  ⟨e.len, fun i d h => let ⟨v, a, b⟩ := e.slot i d h; ⟨v, a, b.ext x⟩⟩
theorem EnOk.set {g : Gh} {A : List Addr} {env : En} {σ : L2.St} {H : Hp} (e : EnOk g A env σ H) {d : D} {v : V} (i : Nat) (r : Rep g A H d v) : EnOk g A (env.set i (some d)) (σ.set i (some v)) H := by
  refine ⟨by simp [e.len], fun j x h => ?_⟩
  by_cases hj : i = j
  · subst hj
    have hi : i < env.length := by
      have := (List.getElem?_eq_some_iff.mp h).1
      simpa using this
    rw [List.getElem?_set_self hi] at h
    cases h
    exact ⟨v, List.getElem?_set_self (by rw [← e.len]; exact hi), r⟩
  · rw [List.getElem?_set_ne hj] at h
    obtain ⟨w, a, b⟩ := e.slot j x h
    exact ⟨w, by rw [List.getElem?_set_ne hj]; exact a, b⟩

/-- what is wanted of a result: rel says how the value lies -/
def RP {α β : Type} (g : Gh) (W : WX) (rel : List Addr → Hp → α → β → Prop) (A : List Addr) (σ : L2.St) (H : Hp) (r : Rs α) (Q : β → Hp → Prop) : Prop := match r with
  | .ok d st => ∀ A' v H', Ext A H A' H' → StOk g A' st H' → rel A' H' d v → Q v H'
  | .exc c st => ∀ A' H' dx, Ext A H A' H' → StOk g A' st H' → W (.ref (g.cA c)) dx σ H'
  | .bad => False
abbrev relB : List Addr → Hp → Bool → Bool → Prop := fun _ _ a b => a = b
def tR {α β : Type} (g : Gh) (W : WX) (rel : List Addr → Hp → α → β → Prop) (f : En → Sto → Rs α) : L2.St → Hp → (β → Hp → Prop) → Prop := fun σ H Q =>
  ∃ A env st, Mt g A env st σ H ∧ RP g W rel A σ H (f env st) Q
abbrev tD (g : Gh) (W : WX) (f : DE) : TE := tR g W (Rep g) f
abbrev tT (g : Gh) (W : WX) (f : DT) : TT := tR g W relB f
abbrev tL (g : Gh) (W : WX) (f : DA) : TA := tR g W (Reps g) f
section
variable {α β γ δ : Type} {g : Gh} {W : WX} {rel : List Addr → Hp → α → β → Prop} {rel' : List Addr → Hp → γ → δ → Prop} {A A' : List Addr} {σ : L2.St} {H H' : Hp} {env : En} {st : Sto}
theorem RP.ext {r : Rs α} {Q : β → Hp → Prop} (x : Ext A H A' H') (h : RP g W rel A σ H r Q) : RP g W rel A' σ H' r Q := by
  cases r with
  | ok d st => exact fun A2 v H2 x2 s q => h A2 v H2 (x.trans x2) s q
  | exc c st => exact fun A2 H2 dx x2 s => h A2 H2 dx (x.trans x2) s
  | bad => exact h
theorem RP.mono {r : Rs α} {Q Q' : β → Hp → Prop} (h : RP g W rel A σ H r Q) (k : ∀ v H, Q v H → Q' v H) : RP g W rel A σ H r Q' := by
  cases r with
  | ok d st => exact fun A2 v H2 x2 s q => k _ _ (h A2 v H2 x2 s q)
  | exc c st => exact fun A2 H2 dx x2 s => h A2 H2 dx x2 s
  | bad => exact h
theorem tR.mono {f : En → Sto → Rs α} {Q Q' : β → Hp → Prop} (h : tR g W rel f σ H Q) (k : ∀ v H, Q v H → Q' v H) : tR g W rel f σ H Q' := by
  obtain ⟨A, env, st, M, r⟩ := h
  exact ⟨A, env, st, M, r.mono k⟩
/-- a first part's reading, what remains carried -/
theorem tR.bind {f : En → Sto → Rs α} {k : α → Sto → Rs γ} {Q : δ → Hp → Prop} (M : Mt g A env st σ H) (h : RP g W rel' A σ H ((f env st).bind k) Q) :
    tR g W rel f σ H fun v H1 => ∃ A1 d st1, Ext A H A1 H1 ∧ StOk g A1 st1 H1 ∧ rel A1 H1 d v ∧ Mt g A1 env st1 σ H1 ∧ RP g W rel' A1 σ H1 (k d st1) Q := by
  refine ⟨A, env, st, M, ?_⟩
  cases e : f env st with
  | ok d st1 =>
    rw [e] at h
    exact fun A1 v H1 x s r => ⟨A1, d, st1, x, s, r, ⟨M.env.ext x, s⟩, RP.ext x h⟩
  | exc c st1 =>
    rw [e] at h
    exact h
  | bad =>
    rw [e] at h
    exact h
end
/-- what is wanted behind a statement -/
def SPd (g : Gh) (W : WX) (D : Ends) (A : List Addr) (H : Hp) (r : SR) : Prop := match r with
  | .nx e st => ∀ A' σ' H', Ext A H A' H' → Mt g A' e st σ' H' → D.nx σ' H'
  | .rt d st => ∀ A' v H', Ext A H A' H' → StOk g A' st H' → Rep g A' H' d v → D.rt v H'
  | .bk e st => ∀ A' σ' H', Ext A H A' H' → Mt g A' e st σ' H' → D.bk σ' H'
  | .ct e st => ∀ A' σ' H', Ext A H A' H' → Mt g A' e st σ' H' → D.ct σ' H'
  | .exc c e st => ∀ A' σ' H' dx, Ext A H A' H' → Mt g A' e st σ' H' → W (.ref (g.cA c)) dx σ' H'
  | .bad => False
def tS (g : Gh) (W : WX) (f : DS) : TS := fun D σ H => ∃ A env st, Mt g A env st σ H ∧ SPd g W D A H (f env st)
theorem SPd.ext {g : Gh} {W : WX} {D : Ends} {A A' : List Addr} {H H' : Hp} {r : SR} (x : Ext A H A' H') (h : SPd g W D A H r) : SPd g W D A' H' r := by
  cases r with
  | nx e st => exact fun A2 v H2 x2 s => h A2 v H2 (x.trans x2) s
  | rt d st => exact fun A2 v H2 x2 s q => h A2 v H2 (x.trans x2) s q
  | bk e st => exact fun A2 v H2 x2 s => h A2 v H2 (x.trans x2) s
  | ct e st => exact fun A2 v H2 x2 s => h A2 v H2 (x.trans x2) s
  | exc c e st => exact fun A2 v H2 dx x2 s => h A2 v H2 dx (x.trans x2) s
  | bad => exact h

/-- weaker readings -/
theorem pe_imp {X : Cx} {e : Expr} {t t' : TE} (h : PE X e t) (k : ∀ σ H Q, t' σ H Q → t σ H Q) : PE X e t' := ⟨fun pins s σ H Q I q => h.run pins s σ H Q I (k σ H Q q)⟩
theorem pt_imp {X : Cx} {e : Expr} {t t' : TT} (h : PT X e t) (k : ∀ σ H Q, t' σ H Q → t σ H Q) : PT X e t' := ⟨fun pins s σ H Q I q => h.run pins s σ H Q I (k σ H Q q)⟩
theorem pa_imp {X : Cx} {e : List Expr} {t t' : TA} (h : PA X e t) (k : ∀ σ H Q, t' σ H Q → t σ H Q) : PA X e t' := ⟨fun pos pins s σ H Q I q => h.run pos pins s σ H Q I (k σ H Q q)⟩
theorem pw_imp {X : Cx} {e : Expr} {t t' : TT} (h : PW X e t) (k : ∀ σ H Q, t' σ H Q → t σ H Q) : PW X e t' := ⟨fun wh pins s σ H Q I q => h.run wh pins s σ H Q I (k σ H Q q)⟩
theorem ps_imp {X : Cx} {e : Stmt} {t t' : TS} (h : PS X e t) (k : ∀ D σ H, t' D σ H → t D σ H) : PS X e t' := ⟨fun pins s σ H D I q => h.run pins s σ H D I (k D σ H q)⟩
theorem pss_imp {X : Cx} {e : List Stmt} {t t' : TS} (h : PSs X e t) (k : ∀ D σ H, t' D σ H → t D σ H) : PSs X e t' := ⟨fun pins s σ H D I q => h.run pins s σ H D I (k D σ H q)⟩
end DL

/-! DL2: expressions over data. -/
namespace DL
open PySem L2

theorem rep_non {g : Gh} {A : List Addr} {H : Hp} : Rep g A H .non .non := by unfold Rep; rfl
theorem rep_bl {g : Gh} {A : List Addr} {H : Hp} (b : Bool) : Rep g A H (.bl b) (.bl b) := by unfold Rep; rfl
theorem rep_int {g : Gh} {A : List Addr} {H : Hp} (i : Int) : Rep g A H (.int i) (.int i) := by unfold Rep; rfl
theorem rep_str {g : Gh} {A : List Addr} {H : Hp} {s : Str} (h : SOk s) : Rep g A H (.str s) (.str s) := by unfold Rep; exact ⟨rfl, h⟩
theorem rep_bl_inv {g : Gh} {A : List Addr} {H : Hp} {b : Bool} {v : V} (r : Rep g A H (.bl b) v) : v = .bl b := by unfold Rep at r; exact r
theorem rep_int_inv {g : Gh} {A : List Addr} {H : Hp} {b : Int} {v : V} (r : Rep g A H (.int b) v) : v = .int b := by unfold Rep at r; exact r
theorem rep_non_inv {g : Gh} {A : List Addr} {H : Hp} {v : V} (r : Rep g A H .non v) : v = .non := by unfold Rep at r; exact r
theorem rep_str_inv {g : Gh} {A : List Addr} {H : Hp} {s : Str} {v : V} (r : Rep g A H (.str s) v) : v = .str s ∧ SOk s := by unfold Rep at r; exact r
theorem rep_tup_inv {g : Gh} {A : List Addr} {H : Hp} {ds : List D} {v : V} (r : Rep g A H (.tup ds) v) : ∃ a vs, v = .ref a ∧ H a = some (.tup vs) ∧ Reps g A H ds vs := by
  unfold Rep at r
  obtain ⟨a, vs, e, q, _, r⟩ := r
  exact ⟨a, vs, e, q, r⟩
theorem rep_kt_inv {g : Gh} {A : List Addr} {H : Hp} {ss : List Str} {v : V} (r : Rep g A H (.kt ss) v) : ∃ a, v = .ref a ∧ SqT g.K H a (ss.map V.str) := by
  unfold Rep at r
  obtain ⟨a, e, q⟩ := r
  exact ⟨a, e, .inr q⟩
theorem rep_lst_inv {g : Gh} {A : List Addr} {H : Hp} {ds : List D} {v : V} (r : Rep g A H (.lst ds) v) : ∃ a vs, v = .ref a ∧ H a = some (.lst vs) ∧ (a ∉ A ∧ a ∉ g.M) ∧ Reps g A H ds vs := by
  unfold Rep at r; exact r
theorem rep_scr_inv {g : Gh} {A : List Addr} {H : Hp} {ns : List Int} {v : V} (r : Rep g A H (.scr ns) v) : ∃ a, v = .ref a ∧ SqL g.K H a (ns.map V.int) := by
  unfold Rep at r
  obtain ⟨a, e, q⟩ := r
  refine ⟨a, e, ?_⟩
  rcases q with ⟨q, _⟩ | q
  · exact .inl q
  · exact .inr q
theorem rep_loc_inv {g : Gh} {A : List Addr} {H : Hp} {l : Nat} {v : V} (r : Rep g A H (.loc l) v) : ∃ a, v = .ref a ∧ A[l]? = some a := by
  unfold Rep at r; exact r
theorem rep_tup_new {g : Gh} {A : List Addr} {st : Sto} {H : Hp} {ds : List D} {vs : List V} {p : Addr} (s : StOk g A st H) (r : Reps g A H ds vs) (hp : H p = none) : Rep g A (upd H p (.tup vs)) (.tup ds) (.ref p) := by
  unfold Rep
  exact ⟨p, vs, rfl, upd_same, s.new_notin hp, r.ext (ext_val s hp)⟩
theorem rep_lst_new {g : Gh} {A : List Addr} {st : Sto} {H : Hp} {ds : List D} {vs : List V} {p : Addr} (s : StOk g A st H) (r : Reps g A H ds vs) (hp : H p = none) : Rep g A (upd H p (.lst vs)) (.lst ds) (.ref p) := by
  unfold Rep
  exact ⟨p, vs, rfl, upd_same, ⟨s.new_notin hp, s.new_res hp⟩, r.ext (ext_val s hp)⟩

/-! ### names, constants -/
def dV (i : Nat) : DE := fun env st => match env[i]? with | some (some d) => .ok d st | _ => .bad
def dC (d : D) : DE := fun _ st => .ok d st
section
variable {X : Cx} {g : Gh} {W : WX}
theorem de_var {x : Str} {pos : Pos} (i : Nat) (hN : X.N[i]? = some x) (hv : Vis X.env.scope x) (hd : (x == ("__debug__" : Str)) = false) (hcd : (x == ("__classdict__" : Str)) = false) : PE X (.Name x pos) (tD g W (dV i)) :=
  pe_imp (pe_var hN hv hd hcd) fun σ H Q h => by
    obtain ⟨A, env, st, M, r⟩ := h
    unfold dV at r
    split at r
    · rename_i d e
      obtain ⟨v, e1, rr⟩ := M.env.slot i d e
      exact ⟨v, e1, r A v H (.refl _ _) M.sto rr⟩
    · exact r.elim
/-- a constant, given its hand rule -/
theorem de_const {e : Expr} {d : D} {v : V} (h : PE X e (tC v)) (r : ∀ A H, Rep g A H d v) : PE X e (tD g W (dC d)) :=
  pe_imp h fun σ H Q q => by
    obtain ⟨A, env, st, M, q⟩ := q
    exact q A v H (.refl _ _) M.sto (r A H)
theorem de_int {i : Int} {j : Nat} {pos : Pos} : PE X (.Constant (.int i) j pos) (tD g W (dC (.int i))) := de_const pe_int fun _ _ => rep_int i
theorem de_bl {b : Bool} {j : Nat} {pos : Pos} : PE X (.Constant (.bool b) j pos) (tD g W (dC (.bl b))) := de_const pe_bl fun _ _ => rep_bl b
theorem de_non {j : Nat} {pos : Pos} : PE X (.Constant .none j pos) (tD g W (dC .non)) := de_const pe_non fun _ _ => rep_non
def sOkB (s : Str) : Bool := decide (s.length ≤ 16777216) && s.cps.toList.all fun c => decide (c < 0x110000)
theorem sOk_of {s : Str} (h : sOkB s = true) : SOk s := by
  unfold sOkB at h
  rw [Bool.and_eq_true] at h
  refine ⟨by rw [sizeLine_eq]; exact of_decide_eq_true h.1, fun c hc => ?_⟩
  have := List.all_eq_true.mp h.2 c hc
  exact of_decide_eq_true this
theorem de_str {s : Str} {j : Nat} {pos : Pos} (h : sOkB s = true) : PE X (.Constant (.str s) j pos) (tD g W (dC (.str s))) := de_const pe_str fun _ _ => rep_str (sOk_of h)

/-! ### lists of expressions -/
def runL : List DE → En → Sto → Rs (List D)
  | [], _, st => .ok [] st
  | f :: fs, env, st => (f env st).bind fun d st => (runL fs env st).bind fun ds st => .ok (d :: ds) st
theorem da_nil : PA X [] (tL g W (runL [])) := pa_imp pa_nil fun σ H Q h => by
  obtain ⟨A, env, st, M, q⟩ := h
  exact q A [] H (.refl _ _) M.sto .nil
theorem da_cons {e : Expr} {es : List Expr} {f : DE} {fs : List DE} (ha : PE X e (tD g W f)) (hr : PA X es (tL g W (runL fs))) (hs : starEach (e :: es) X.env = (false, eval e X.env) :: starEach es X.env := by rfl) : PA X (e :: es) (tL g W (runL (f :: fs))) :=
  pa_imp (pa_cons ha hr hs) fun σ H Q h => by
    obtain ⟨A, env, st, M, q⟩ := h
    refine (tR.bind (rel := Rep g) M q).mono fun v H1 ⟨A1, d, st1, x, s, r, M1, q1⟩ => ?_
    refine (tR.bind (rel := Reps g) M1 q1).mono fun vs H2 ⟨A2, ds, st2, x2, s2, r2, M2, q2⟩ => ?_
    exact q2 A2 (v :: vs) H2 (.refl _ _) s2 (.cons (r.ext x2) r2)
theorem runL_len : ∀ {fs : List DE} {env : En} {st st' : Sto} {ds : List D}, runL fs env st = .ok ds st' → ds.length = fs.length
  | [], env, st, st', ds, h => by cases h; rfl
  | f :: fs, env, st, st', ds, h => by
    unfold runL at h
    cases e : f env st with
    | ok d st1 =>
      rw [e] at h
      simp only [Rs.bind_ok] at h
      cases e2 : runL fs env st1 with
      | ok ds2 st2 =>
        rw [e2] at h
        cases h
        rw [List.length_cons, List.length_cons, runL_len e2]
      | exc c st => rw [e2] at h; cases h
      | bad => rw [e2] at h; cases h
    | exc c st => rw [e] at h; cases h
    | bad => rw [e] at h; cases h
/-- a tuple, a list by value -/
def dTup (fs : List DE) : DE := fun env st => (runL fs env st).bind fun ds st => .ok (.tup ds) st
def dLst (fs : List DE) : DE := fun env st => (runL fs env st).bind fun ds st => .ok (.lst ds) st
theorem tR.bindE {α β γ δ : Type} {g : Gh} {W : WX} {rel : List Addr → Hp → α → β → Prop} {rel' : List Addr → Hp → γ → δ → Prop} {A : List Addr} {σ : L2.St} {H : Hp} {env : En} {st : Sto} {f : En → Sto → Rs α} {k : α → Sto → Rs γ} {Q : δ → Hp → Prop} (M : Mt g A env st σ H) (h : RP g W rel' A σ H ((f env st).bind k) Q) :
    tR g W rel f σ H fun v H1 => ∃ A1 d st1, f env st = .ok d st1 ∧ Ext A H A1 H1 ∧ StOk g A1 st1 H1 ∧ rel A1 H1 d v ∧ Mt g A1 env st1 σ H1 ∧ RP g W rel' A1 σ H1 (k d st1) Q := by
  refine ⟨A, env, st, M, ?_⟩
  cases e : f env st with
  | ok d st1 =>
    rw [e] at h
    exact fun A1 v H1 x s r => ⟨A1, d, st1, rfl, x, s, r, ⟨M.env.ext x, s⟩, RP.ext x h⟩
  | exc c st1 => rw [e] at h; exact h
  | bad => rw [e] at h; exact h
theorem de_tup {es : List Expr} {fs : List DE} {k : Nat} {pos : Pos} (h : PA X es (tL g W (runL fs))) (hn : fs.length ≤ 1000 := by decide) : PE X (.Tuple es k pos) (tD g W (dTup fs)) :=
  pe_imp (pe_tup h) fun σ H Q q => by
    obtain ⟨A, env, st, M, q⟩ := q
    refine (tR.bindE (rel := Reps g) M q).mono fun vs H1 ⟨A1, ds, st1, e, x, s, r, M1, q1⟩ => ?_
    refine ⟨by rw [← r.len, runL_len e, sizeLine_eq]; omega, fun p hp => ?_⟩
    exact q1 A1 _ _ (ext_val s hp) (s.val hp) (rep_tup_new s r hp)
theorem de_lst {es : List Expr} {fs : List DE} {pos : Pos} (h : PA X es (tL g W (runL fs))) (hn : fs.length ≤ 1000 := by decide) : PE X (.List es pos) (tD g W (dLst fs)) :=
  pe_imp (pe_lst h) fun σ H Q q => by
    obtain ⟨A, env, st, M, q⟩ := q
    refine (tR.bindE (rel := Reps g) M q).mono fun vs H1 ⟨A1, ds, st1, e, x, s, r, M1, q1⟩ => ?_
    refine ⟨by rw [← r.len, runL_len e, sizeLine_eq]; omega, fun p hp => ?_⟩
    exact q1 A1 _ _ (ext_val s hp) (s.val hp) (rep_lst_new s r hp)
/-- a list of the store -/
def dLstM (fs : List DE) : DE := fun env st => (runL fs env st).bind fun ds st => .ok (.loc st.length) (st ++ [.lst ds])
theorem de_lstM {es : List Expr} {fs : List DE} {pos : Pos} (h : PA X es (tL g W (runL fs))) (hn : fs.length ≤ 1000 := by decide) : PE X (.List es pos) (tD g W (dLstM fs)) :=
  pe_imp (pe_lst h) fun σ H Q q => by
    obtain ⟨A, env, st, M, q⟩ := q
    refine (tR.bindE (rel := Reps g) M q).mono fun vs H1 ⟨A1, ds, st1, e, x, s, r, M1, q1⟩ => ?_
    refine ⟨by rw [← r.len, runL_len e, sizeLine_eq]; omega, fun p hp => ?_⟩
    refine q1 _ (.ref p) _ (ext_new s hp) (s.new (ob := .lst ds) hp ⟨vs, upd_same, r.ext (ext_new s hp)⟩) ?_
    unfold Rep
    exact ⟨p, rfl, by rw [← s.len]; simp⟩

/-! ### two-place operations by values -/
def dB (h : D → D → Sto → Rs D) (f k : DE) : DE := fun env st => (f env st).bind fun x st => (k env st).bind fun y st => h x y st
/-- an operation on data is what the hand rule r tells of it -/
def OpD (g : Gh) (r : R2) (h : D → D → Sto → Rs D) : Prop := ∀ (W : WX) (A : List Addr) (st : Sto) (σ : L2.St) (H : Hp) (x y : D) (v u : V) (Q : VK), StOk g A st H → Rep g A H x v → Rep g A H y u → RP g W (Rep g) A σ H (h x y st) Q → r v u H Q
theorem bin_imp {r : R2} {h : D → D → Sto → Rs D} (o : OpD g r h) {f k : DE} {σ : L2.St} {H : Hp} {Q : VK} (q : tD g W (dB h f k) σ H Q) : tOp r (tD g W f) (tD g W k) σ H Q := by
  obtain ⟨A, env, st, M, q⟩ := q
  refine (tR.bind (rel := Rep g) M q).mono fun v H1 ⟨A1, d, st1, x, s, rr, M1, q1⟩ => ?_
  refine (tR.bind (rel := Rep g) M1 q1).mono fun u H2 ⟨A2, d2, st2, x2, s2, r2, M2, q2⟩ => ?_
  exact o W A2 st2 σ H2 d d2 v u Q s2 (rr.ext x2) r2 q2
theorem de_bin {op : Operator} {a b : Expr} {pos : Pos} {r : R2} {h : D → D → Sto → Rs D} {f k : DE} (ho : OpR X (binaryOp op) r) (o : OpD g r h) (ha : PE X a (tD g W f)) (hb : PE X b (tD g W k)) : PE X (.BinOp a op b pos) (tD g W (dB h f k)) :=
  pe_imp (pe_op ho ha hb) fun σ H Q q => bin_imp o q
/-- two rules for one operation -/
theorem OpD.or {r r' : R2} {h h' : D → D → Sto → Rs D} (hh : D → D → Sto → Rs D) (o : OpD g r h) (o' : OpD g r' h') (c : ∀ x y, (∀ st, hh x y st = h x y st) ∨ (∀ st, hh x y st = h' x y st)) : OpD g (fun x y H Q => r x y H Q ∨ r' x y H Q) hh := by
  intro W A st σ H x y v u Q s r1 r2 q
  rcases c x y with e | e
  · rw [e] at q; exact .inl (o W A st σ H x y v u Q s r1 r2 q)
  · rw [e] at q; exact .inr (o' W A st σ H x y v u Q s r1 r2 q)

/-- one-place -/
def dU (h : D → Sto → Rs D) (f : DE) : DE := fun env st => (f env st).bind h

/-! ### arithmetic -/
def addI : D → D → Sto → Rs D
  | .int i, .int j, st => .ok (.int (i + j)) st
  | _, _, _ => .bad
theorem addI_ok : OpD g (rI0 fun i j => .int (i + j)) addI := by
  intro W A st σ H x y v u Q s r1 r2 q
  unfold addI at q
  split at q
  · exact ⟨_, _, rep_int_inv r1, rep_int_inv r2, q A _ H (.refl _ _) s (rep_int _)⟩
  · exact q.elim
def subI : D → D → Sto → Rs D
  | .int i, .int j, st => .ok (.int (i - j)) st
  | _, _, _ => .bad
theorem subI_ok : OpD g (rI0 fun i j => .int (i - j)) subI := by
  intro W A st σ H x y v u Q s r1 r2 q
  unfold subI at q
  split at q
  · exact ⟨_, _, rep_int_inv r1, rep_int_inv r2, q A _ H (.refl _ _) s (rep_int _)⟩
  · exact q.elim
/-- products of together less than a hundred million bits -/
def CMulX (i j : Int) : Prop := i.natAbs.log2 + j.natAbs.log2 < 100000000
theorem intBits_le (x : Int) : Builtin.Int.intBits x ≤ x.natAbs.log2 + 1 := by
  unfold Builtin.Int.intBits
  split <;> omega
theorem CMulX.ok {i j : Int} (h : CMulX i j) : IntMulOk i j := by
  unfold IntMulOk
  intro z
  rw [Bool.and_eq_true] at z
  have z2 := z.2
  unfold Builtin.Int.intTooBig at z2
  have z3 := of_decide_eq_true z2
  rw [show bitsLine = 134217728 by decide] at z3
  have a := intBits_le i
  have b := intBits_le j
  have c : i.natAbs.log2 + j.natAbs.log2 < 100000000 := h
  omega
open PySem.Spec PyProof.Rows in
theorem op_mulX : OpR X (binaryOp .Mult) (rI CMulX fun i j => .int (i * j)) := opI fun _ _ _ _ _ _ _ hc q => mul_int q hc.ok
def mulI : D → D → Sto → Rs D
  | .int i, .int j, st => if i.natAbs.log2 + j.natAbs.log2 < 100000000 then .ok (.int (i * j)) st else .bad
  | _, _, _ => .bad
theorem mulI_ok : OpD g (rI CMulX fun i j => .int (i * j)) mulI := by
  intro W A st σ H x y v u Q s r1 r2 q
  unfold mulI at q
  split at q
  · split at q
    · rename_i hc
      exact ⟨_, _, rep_int_inv r1, rep_int_inv r2, hc, q A _ H (.refl _ _) s (rep_int _)⟩
    · exact q.elim
  · exact q.elim
def divI : D → D → Sto → Rs D
  | .int i, .int j, st => if 0 < j ∧ j.natAbs.log2 < 9000 then .ok (.int (i / j)) st else .bad
  | _, _, _ => .bad
theorem divI_ok : OpD g (rI CDivW fun i j => .int (i / j)) divI := by
  intro W A st σ H x y v u Q s r1 r2 q
  unfold divI at q
  split at q
  · split at q
    · rename_i hc
      exact ⟨_, _, rep_int_inv r1, rep_int_inv r2, hc, q A _ H (.refl _ _) s (rep_int _)⟩
    · exact q.elim
  · exact q.elim
def modI : D → D → Sto → Rs D
  | .int i, .int j, st => if 0 < j then .ok (.int (i % j)) st else .bad
  | _, _, _ => .bad
theorem modI_ok : OpD g (rI (fun _ j => 0 < j) fun i j => .int (i % j)) modI := by
  intro W A st σ H x y v u Q s r1 r2 q
  unfold modI at q
  split at q
  · split at q
    · rename_i hc
      exact ⟨_, _, rep_int_inv r1, rep_int_inv r2, hc, q A _ H (.refl _ _) s (rep_int _)⟩
    · exact q.elim
  · exact q.elim
def powI : D → D → Sto → Rs D
  | .int i, .int j, st => if 0 ≤ j ∧ j ≤ 1000000 ∧ i.natAbs < 2 ^ 64 then .ok (.int (i ^ j.toNat)) st else .bad
  | _, _, _ => .bad
theorem powI_ok : OpD g (rI CPow fun i j => .int (i ^ j.toNat)) powI := by
  intro W A st σ H x y v u Q s r1 r2 q
  unfold powI at q
  split at q
  · split at q
    · rename_i hc
      exact ⟨_, _, rep_int_inv r1, rep_int_inv r2, hc, q A _ H (.refl _ _) s (rep_int _)⟩
    · exact q.elim
  · exact q.elim
def shlI : D → D → Sto → Rs D
  | .int i, .int j, st => if 0 ≤ j ∧ j ≤ 1000000 ∧ i.natAbs < 2 ^ 64 then .ok (.int (i * 2 ^ j.toNat)) st else .bad
  | _, _, _ => .bad
theorem shlI_ok : OpD g (rI CPow fun i j => .int (i * 2 ^ j.toNat)) shlI := by
  intro W A st σ H x y v u Q s r1 r2 q
  unfold shlI at q
  split at q
  · split at q
    · rename_i hc
      exact ⟨_, _, rep_int_inv r1, rep_int_inv r2, hc, q A _ H (.refl _ _) s (rep_int _)⟩
    · exact q.elim
  · exact q.elim
/-- texts -/
def addS : D → D → Sto → Rs D
  | .str a, .str b, st => if a.length + b.length ≤ 16777216 then .ok (.str (a ++ b)) st else .bad
  | _, _, _ => .bad
theorem str_app_cps (a b : Str) : (a ++ b).cps = a.cps ++ b.cps := rfl
theorem str_app_len (a b : Str) : (a ++ b).length = a.length + b.length := by
  show (a ++ b).cps.size = a.cps.size + b.cps.size
  rw [str_app_cps, Array.size_append]
theorem SOk.app {a b : Str} (ha : SOk a) (hb : SOk b) (h : a.length + b.length ≤ 16777216) : SOk (a ++ b) := by
  refine ⟨by rw [str_app_len, sizeLine_eq]; exact h, fun c hc => ?_⟩
  rw [str_app_cps, Array.toList_append, List.mem_append] at hc
  rcases hc with hc | hc
  · exact ha.cps c hc
  · exact hb.cps c hc
theorem addS_ok : OpD g (fun x y H Q => ∃ i j, x = .str i ∧ y = .str j ∧ i.length + j.length ≤ sizeLine ∧ Q (.str (i ++ j)) H) addS := by
  intro W A st σ H x y v u Q s r1 r2 q
  unfold addS at q
  split at q
  · split at q
    · rename_i hc
      exact ⟨_, _, (rep_str_inv r1).1, (rep_str_inv r2).1, by rw [sizeLine_eq]; exact hc, q A _ H (.refl _ _) s (rep_str ((rep_str_inv r1).2.app (rep_str_inv r2).2 hc))⟩
    · exact q.elim
  · exact q.elim
/-- tuples -/
def addT : D → D → Sto → Rs D
  | .tup a, .tup b, st => if a.length + b.length ≤ 16777216 then .ok (.tup (a ++ b)) st else .bad
  | _, _, _ => .bad
theorem addT_ok : OpD g (rCatA g.K) addT := by
  intro W A st σ H x y v u Q s r1 r2 q
  unfold addT at q
  split at q
  · split at q
    · rename_i ds es hc
      have r1' := r1
      have r2' := r2
      obtain ⟨a, vs, rfl, h1, q1⟩ := rep_tup_inv r1
      obtain ⟨b, ws, rfl, h2, q2⟩ := rep_tup_inv r2
      refine ⟨a, b, vs, ws, rfl, rfl, SqT.of h1, SqT.of h2, by rw [← q1.len, ← q2.len, sizeLine_eq]; exact hc, fun e => ?_, fun e e2 => ?_, fun _ _ p hp => ?_⟩
      · subst e
        have : ds = [] := List.eq_nil_of_length_eq_zero (by rw [q1.len]; rfl)
        subst this
        exact q A _ H (.refl _ _) s r2'
      · subst e2
        have : es = [] := List.eq_nil_of_length_eq_zero (by rw [q2.len]; rfl)
        subst this
        rw [List.append_nil] at q
        exact q A _ H (.refl _ _) s r1'
      · exact q A _ _ (ext_val s hp) (s.val hp) (rep_tup_new s (q1.append q2) hp)
    · exact q.elim
  · exact q.elim
/-- lists -/
def addL : D → D → Sto → Rs D
  | .lst a, .lst b, st => if a.length + b.length ≤ 16777216 then .ok (.lst (a ++ b)) st else .bad
  | _, _, _ => .bad
theorem addL_ok : OpD g rCat addL := by
  intro W A st σ H x y v u Q s r1 r2 q
  unfold addL at q
  split at q
  · split at q
    · rename_i ds es hc
      obtain ⟨a, vs, rfl, h1, _, q1⟩ := rep_lst_inv r1
      obtain ⟨b, ws, rfl, h2, _, q2⟩ := rep_lst_inv r2
      refine ⟨a, b, vs, ws, rfl, rfl, h1, h2, by rw [← q1.len, ← q2.len, sizeLine_eq]; exact hc, fun p hp => ?_⟩
      exact q A _ _ (ext_val s hp) (s.val hp) (rep_lst_new s (q1.append q2) hp)
    · exact q.elim
  · exact q.elim
def addD : D → D → Sto → Rs D
  | .int i, .int j, st => .ok (.int (i + j)) st
  | .str a, .str b, st => addS (.str a) (.str b) st
  | .tup a, .tup b, st => addT (.tup a) (.tup b) st
  | .lst a, .lst b, st => addL (.lst a) (.lst b) st
  | _, _, _ => .bad
def rAddD (K : PySem.W.Frag) : R2 := fun x y H Q => (rI0 fun i j => .int (i + j)) x y H Q ∨ ((fun x y H Q => ∃ i j, x = .str i ∧ y = .str j ∧ i.length + j.length ≤ sizeLine ∧ Q (.str (i ++ j)) H) x y H Q ∨ (rCatA K x y H Q ∨ rCat x y H Q))
theorem op_addD : OpR X (binaryOp .Add) (rAddD X.K) := op_add.or (op_add_str.or (op_catA.or op_cat))
theorem addD_ok : OpD g (rAddD g.K) addD := by
  intro W A st σ H x y v u Q s r1 r2 q
  unfold addD at q
  split at q
  · exact .inl (addI_ok W A st σ H _ _ v u Q s r1 r2 q)
  · exact .inr (.inl (addS_ok W A st σ H _ _ v u Q s r1 r2 q))
  · exact .inr (.inr (.inl (addT_ok W A st σ H _ _ v u Q s r1 r2 q)))
  · exact .inr (.inr (.inr (addL_ok W A st σ H _ _ v u Q s r1 r2 q)))
  · exact q.elim
theorem de_add {a b : Expr} {pos : Pos} {f k : DE} (hK : g.K = X.K) (ha : PE X a (tD g W f)) (hb : PE X b (tD g W k)) : PE X (.BinOp a .Add b pos) (tD g W (dB addD f k)) := de_bin (hK ▸ op_addD) addD_ok ha hb
theorem de_sub {a b : Expr} {pos : Pos} {f k : DE} (ha : PE X a (tD g W f)) (hb : PE X b (tD g W k)) : PE X (.BinOp a .Sub b pos) (tD g W (dB subI f k)) := de_bin op_sub subI_ok ha hb
theorem de_div {a b : Expr} {pos : Pos} {f k : DE} (ha : PE X a (tD g W f)) (hb : PE X b (tD g W k)) : PE X (.BinOp a .FloorDiv b pos) (tD g W (dB divI f k)) := de_bin op_fdivW divI_ok ha hb
theorem de_mod {a b : Expr} {pos : Pos} {f k : DE} (ha : PE X a (tD g W f)) (hb : PE X b (tD g W k)) : PE X (.BinOp a .Mod b pos) (tD g W (dB modI f k)) := de_bin op_mod modI_ok ha hb
theorem de_pow {a b : Expr} {pos : Pos} {f k : DE} (ha : PE X a (tD g W f)) (hb : PE X b (tD g W k)) : PE X (.BinOp a .Pow b pos) (tD g W (dB powI f k)) := de_bin op_pow powI_ok ha hb
theorem de_shl {a b : Expr} {pos : Pos} {f k : DE} (ha : PE X a (tD g W f)) (hb : PE X b (tD g W k)) : PE X (.BinOp a .LShift b pos) (tD g W (dB shlI f k)) := de_bin op_shl shlI_ok ha hb
end
end DL

/-! DL3: products of texts, lists, tuples. -/
namespace DL
open PySem L2

/-! ### t * 1 is t -/
theorem tuple_mul1 (l : Addr) (items : Array Value) (n : Nat) (dd : Option Addr) (sl : Array (Option Value)) (u : Tok) :
    Meets (Builtin.«tuple.__mul__» ⟨[.ref l, .int 1 u], []⟩) (fun _ R s => s.heap.get? l = some { cls := .type "tuple", dict := dd, data := .seq items n, slots := sl } ∧ R (.ok (.ret (Value.ref l))) s) :=
  .of_wp fun prog w A R s h => by
    obtain ⟨hp, g, d, tk, os⟩ := s
    obtain ⟨hl, h⟩ := h
    have f1 := AutoSeq1.idx_int
    have c0 : (decide ((1 : Int) < -(2 ^ 63)) || decide ((1 : Int) ≥ 2 ^ 63)) = false := by decide
    have c1 : (items.isEmpty || (1 : Int) == 1) = true := by simp
    wp_walk using wpAny_loadPart' hl
    repeat (first
      | (refine wpAny_ite_false (decide_eq_false (by rw [c0]; exact Bool.false_ne_true)) ?_; wp_walk using wpAny_loadPart' hl)
      | (refine wpAny_ite_true (decide_eq_true (by rw [c1])) ?_; wp_walk using wpAny_loadPart' hl)
      | (refine wpAny_ite_true c1 ?_; wp_walk using wpAny_loadPart' hl))
    exact ⟨_, rfl, h⟩
def rRepT1 (K : PySem.W.Frag) : R2 := fun x y H Q => ∃ l xs, x = .ref l ∧ y = .int 1 ∧ SqT K H l xs ∧ Q (.ref l) H
section
variable {X : Cx}
theorem op_repT1 : OpR X (binaryOp .Mult) (rRepT1 X.K) := by
  intro pins s σ H x y v u Q I rx ry h
  obtain ⟨l, xs, rfl, rfl, hT, q⟩ := h
  cases rx
  obtain ⟨t, rfl⟩ := ry
  obtain ⟨its, r, ⟨⟨cls, dd, data, sl⟩, ho, hc, n, hd⟩, hs⟩ := I.tuple hT
  simp only at hc hd
  subst hc hd
  exact wpAny_binaryOp_repeat_ref (T := "tuple") (U := "int") (by decide) ⟨_, ho, rfl⟩ (fun s' => typeIs_int s' 1 t) L2.noFill_tuple_mul F.fills_int_mul F.slot_int_rmul L2.repeat_tuple F.slot_int_index.lookup
    (call_meets F.slot_int_rmul (typeIs_int s 1 t) F.entry_int_rmul (F.args_int_rmul_2 _ _) (L2.int_rmul_tuple 1 t l its.toArray n dd sl)
      ⟨ho, rfl, ⟨_, ho, rfl⟩, call_meets F.slot_tuple_mul ⟨_, ho, rfl⟩ F.entry_tuple_mul (F.args_tuple_mul_2 _ _) (tuple_mul1 l its.toArray n dd sl t) ⟨ho, .ref l, H, I, rfl, q⟩⟩)

/-! ### text * int -/
def strRep (s : Str) (k : Int) : Str := ⟨(List.replicate k.toNat s.cps.toList).flatten.toArray⟩
def rRepS : R2 := fun x y H Q => ∃ z k, x = .str z ∧ y = .int k ∧ -1000 ≤ k ∧ k ≤ 1000 ∧ z.length ≤ 1000 ∧ Q (.str (strRep z k)) H
theorem flat_len {α : Type} (l : List α) : ∀ k : Nat, (List.replicate k l).flatten.length = k * l.length
  | 0 => by simp
  | k + 1 => by rw [List.replicate_succ, List.flatten_cons, List.length_append, flat_len l k, Nat.succ_mul]; omega
theorem strRep_len (s : Str) (k : Int) : (strRep s k).length = k.toNat * s.length := by
  show (List.replicate k.toNat s.cps.toList).flatten.toArray.size = _
  rw [List.size_toArray, flat_len]
  simp [Str.length]
theorem foldl_flat (c : Array Nat) : ∀ (k : Nat) (acc : Array Nat), (List.replicate k c).foldl (· ++ ·) acc = acc ++ (List.replicate k c.toList).flatten.toArray
  | 0, acc => by simp
  | k + 1, acc => by
    rw [List.replicate_succ, List.foldl_cons, foldl_flat c k, List.replicate_succ, List.flatten_cons]
    apply Array.toList_inj.mp
    simp
theorem op_repS : OpR X (binaryOp .Mult) rRepS := by
  intro pins s σ H x y v u Q I rx ry h
  obtain ⟨z, k, rfl, rfl, h1, h2, hz, q⟩ := h
  obtain ⟨t, rfl⟩ := rx
  obtain ⟨t', rfl⟩ := ry
  have hlen : z.length * k.toNat ≤ 1000 * 1000 := Nat.mul_le_mul hz (by omega)
  have fin : ∀ (x : Str) (tk : Nat), x = strRep z k → ∀ t, EP X pins σ Q (.str x t) { s with toks := tk } := fun x tk e t => ⟨.str (strRep z k), H, I.tok _, ⟨t, by rw [e]⟩, q⟩
  refine PySem.P.mul_str (by rw [decide_eq_false (by omega), decide_eq_false (by omega)]; rfl) (fun a b => ?_) (fun a b => ?_) ?_
  · have : (z.length : Int) * k ≤ 1000000 := by
      have e : (k.toNat : Int) = k := Int.toNat_of_nonneg (by omega)
      rw [← e, ← Int.natCast_mul]; omega
    intro hgt
    have h3 : (2 ^ 63 - 1) / k < (z.length : Int) := hgt
    have hk : 0 < k := by omega
    have h4 := Int.lt_mul_of_ediv_lt hk h3
    omega
  · unfold Builtin.Str.tooLong
    exact decide_eq_false (by rw [sizeLine_eq]; omega)
  · by_cases c1 : k < 1
    · rw [if_pos c1]
      have e0 : strRep z k = Str.empty := by
        unfold strRep
        rw [show k.toNat = 0 by omega]
        rfl
      exact ⟨by decide, fin Str.empty _ e0.symm _⟩
    · rw [if_neg c1]
      by_cases c2 : (k == 1 || z.length == 0) = true
      · rw [if_pos c2]
        rw [Bool.or_eq_true, beq_iff_eq, beq_iff_eq] at c2
        have e0 : strRep z k = z := by
          unfold strRep
          rcases c2 with c | c
          · rw [c]; simp
          · have : z.cps = #[] := Array.eq_empty_of_size_eq_zero c
            obtain ⟨cp⟩ := z
            subst this
            simp
        have := fin z s.toks e0.symm t
        exact this
      · rw [if_neg c2]
        have e0 : (⟨(List.replicate k.toNat z.cps).foldl (· ++ ·) #[]⟩ : Str) = strRep z k := by
          rw [foldl_flat]
          unfold strRep
          simp
        refine ⟨?_, fin _ _ e0 _⟩
        rw [e0, strRep_len, sizeLine_eq, Nat.mul_comm]
        omega
end

/-! ### * -/
section
variable {X : Cx} {g : Gh} {W : WX}
theorem Reps.rep {A : List Addr} {H : Hp} {ds : List D} {vs : List V} (h : Reps g A H ds vs) : ∀ k : Nat, Reps g A H (List.replicate k ds).flatten (List.replicate k vs).flatten
  | 0 => .nil
  | k + 1 => by
    rw [List.replicate_succ, List.flatten_cons, List.replicate_succ, List.flatten_cons]
    exact h.append (Reps.rep h k)
theorem SOk.rep {s : Str} (h : SOk s) {k : Int} (h2 : k ≤ 1000) (hz : s.length ≤ 1000) : SOk (strRep s k) := by
  refine ⟨?_, fun c hc => ?_⟩
  · rw [strRep_len, sizeLine_eq]
    have : k.toNat * s.length ≤ 1000 * 1000 := Nat.mul_le_mul (by omega) hz
    omega
  · have hc' : c ∈ (List.replicate k.toNat s.cps.toList).flatten := by simpa [strRep] using hc
    obtain ⟨l, hl, hcl⟩ := List.mem_flatten.mp hc'
    rw [List.eq_of_mem_replicate hl] at hcl
    exact h.cps c hcl
def mulD : D → D → Sto → Rs D
  | .int i, .int j, st => if i.natAbs.log2 + j.natAbs.log2 < 100000000 then .ok (.int (i * j)) st else .bad
  | .lst xs, .int k, st => if -1000 ≤ k ∧ k ≤ 1000 ∧ xs.length ≤ 1000 then .ok (.lst (List.replicate k.toNat xs).flatten) st else .bad
  | .tup xs, .int k, st => if 1 ≤ k ∧ k ≤ 1000 ∧ xs.isEmpty = false ∧ xs.length ≤ 1000 then .ok (.tup (List.replicate k.toNat xs).flatten) st else .bad
  | .str s, .int k, st => if -1000 ≤ k ∧ k ≤ 1000 ∧ s.length ≤ 1000 then .ok (.str (strRep s k)) st else .bad
  | _, _, _ => .bad
def rMulD (K : PySem.W.Frag) : R2 := fun x y H Q => (rI CMulX fun i j => .int (i * j)) x y H Q ∨ (rRep x y H Q ∨ (rRepT K x y H Q ∨ (rRepT1 K x y H Q ∨ rRepS x y H Q)))
theorem op_mulD : OpR X (binaryOp .Mult) (rMulD X.K) := op_mulX.or (op_rep.or (op_repT.or (op_repT1.or op_repS)))
theorem mulD_ok : OpD g (rMulD g.K) mulD := by
  intro W A st σ H x y v u Q s r1 r2 q
  unfold mulD at q
  split at q
  · exact .inl (mulI_ok W A st σ H _ _ v u Q s r1 r2 q)
  · split at q
    · rename_i ds k hc
      obtain ⟨a, vs, rfl, h1, _, q1⟩ := rep_lst_inv r1
      obtain ⟨c1, c2, c3⟩ := hc
      refine .inr (.inl ⟨a, k, vs, rfl, rep_int_inv r2, h1, by omega, by omega, ?_, fun p hp => ?_⟩)
      · rw [← q1.len, sizeLine_eq]
        have : ds.length * k.toNat ≤ 1000 * 1000 := Nat.mul_le_mul c3 (by omega)
        omega
      · exact q A _ _ (ext_val s hp) (s.val hp) (rep_lst_new s (q1.rep _) hp)
    · exact q.elim
  · split at q
    · rename_i ds k hc
      obtain ⟨c1, c2, c3, c4⟩ := hc
      have r1' := r1
      obtain ⟨a, vs, rfl, h1, q1⟩ := rep_tup_inv r1
      have hne : vs ≠ [] := fun e => by
        subst e
        have : ds = [] := List.eq_nil_of_length_eq_zero (by rw [q1.len]; rfl)
        subst this
        simp at c3
      by_cases hk : k = 1
      · subst hk
        have e : (List.replicate (1 : Int).toNat ds).flatten = ds := by simp
        rw [e] at q
        exact .inr (.inr (.inr (.inl ⟨a, vs, rfl, rep_int_inv r2, SqT.of h1, q A _ H (.refl _ _) s r1'⟩)))
      · refine .inr (.inr (.inl ⟨a, k, vs, rfl, rep_int_inv r2, SqT.of h1, hne, by omega, c2, by rw [← q1.len]; exact c4, fun p hp => ?_⟩))
        exact q A _ _ (ext_val s hp) (s.val hp) (rep_tup_new s (q1.rep _) hp)
    · exact q.elim
  · split at q
    · rename_i z k hc
      obtain ⟨c1, c2, c3⟩ := hc
      obtain ⟨e1, ok1⟩ := rep_str_inv r1
      exact .inr (.inr (.inr (.inr ⟨z, k, e1, rep_int_inv r2, c1, c2, c3, q A _ H (.refl _ _) s (rep_str (ok1.rep c2 c3))⟩)))
    · exact q.elim
  · exact q.elim
theorem de_mul {a b : Expr} {pos : Pos} {f k : DE} (hK : g.K = X.K) (ha : PE X a (tD g W f)) (hb : PE X b (tD g W k)) : PE X (.BinOp a .Mult b pos) (tD g W (dB mulD f k)) := de_bin (hK ▸ op_mulD) mulD_ok ha hb
end
end DL

/-! DL4: comparisons, tests, places, slices. -/
namespace DL
open PySem L2

/-! ### data as the model's data, for == -/
mutual
def toP : D → PyData
  | .non => .none
  | .bl b => .bool b
  | .int i => .int i
  | .str s => .str s
  | .tup ds => .tuple (toPs ds)
  | .lst ds => .list (toPs ds)
  | .loc _ => .none
  | .fn _ => .none
  | .scr ns => .list (ns.map PyData.int)
  | .kt ss => .tuple (ss.map PyData.str)
def toPs : List D → List PyData
  | [] => []
  | d :: ds => toP d :: toPs ds
end
/-- no place, no def in it; at most so deep -/
def good : Nat → D → Bool
  | _, .non => true
  | _, .bl _ => true
  | _, .int _ => true
  | _, .str _ => true
  | n, .scr _ => decide (0 < n)
  | _, .loc _ => false
  | _, .fn _ => false
  | _, .kt _ => false
  | 0, .tup _ => false
  | 0, .lst _ => false
  | n + 1, .tup ds => ds.all (good n)
  | n + 1, .lst ds => ds.all (good n)
theorem toPs_map (ds : List D) : toPs ds = ds.map toP := by
  induction ds with
  | nil => simp only [toPs]; rfl
  | cons d ds ih => simp only [toPs, ih]; rfl
theorem shaped_of {p : PyData} {n : Nat} (h1 : p.canLay0 = true) (h2 : p.depth ≤ n) (h3 : n ≤ 64) : SeqAt.shaped p = true := by
  unfold SeqAt.shaped
  rw [h1, Bool.true_and]
  exact decide_eq_true (by omega)
theorem strOk_of {s : Str} (h : SOk s) : PyData.strOk s = true := by
  unfold PyData.strOk
  rw [← Array.all_toList]
  exact List.all_eq_true.mpr fun c hc => decide_eq_true (h.cps c hc)
theorem ints_lay (ns : List Int) : PyData.canLayAll0 (ns.map PyData.int) = true ∧ PyData.depthAll (ns.map PyData.int) = 0 := by
  induction ns with
  | nil => exact ⟨by simp [PyData.canLayAll0], by simp [PyData.depthAll]⟩
  | cons n ns ih => exact ⟨by simp [PyData.canLayAll0, PyData.canLay0, ih.1], by simp [PyData.depthAll, PyData.depth, ih.2]⟩
theorem ints_dp {K : PySem.W.Frag} {H : Hp} (ns : List Int) : DpAll K H (ns.map V.int) (ns.map PyData.int) := by
  induction ns with
  | nil => exact .nil
  | cons n ns ih => exact .cons (.int n) ih
/-- what == needs of data -/
structure Lays (K : PySem.W.Frag) (H : Hp) (n : Nat) (v : V) (p : PyData) : Prop where
  dp : Dp K H v p
  lay : p.canLay0 = true
  deep : p.depth ≤ n
structure LaysAll (K : PySem.W.Frag) (H : Hp) (n : Nat) (v : List V) (p : List PyData) : Prop where
  dp : DpAll K H v p
  lay : PyData.canLayAll0 p = true
  deep : PyData.depthAll p ≤ n
section
variable {g : Gh} {A : List Addr} {H : Hp}
theorem lays_all {n : Nat} (ih : ∀ (d : D) (v : V), good n d = true → Rep g A H d v → Lays g.K H n v (toP d)) : ∀ (ds : List D) (vs : List V), ds.all (good n) = true → Reps g A H ds vs → LaysAll g.K H n vs (toPs ds)
  | [], vs, _, r => by
    rw [r.nil_inv]
    simp only [toPs]
    exact ⟨.nil, by simp [PyData.canLayAll0], by simp [PyData.depthAll]⟩
  | d :: ds, vs, h, r => by
    obtain ⟨v, ws, rfl, r1, r2⟩ := r.cons_inv
    rw [List.all_cons, Bool.and_eq_true] at h
    have a := ih d v h.1 r1
    have b := lays_all ih ds ws h.2 r2
    simp only [toPs]
    exact ⟨.cons a.dp b.dp, by simp [PyData.canLayAll0, a.lay, b.lay], by simp only [PyData.depthAll]; exact Nat.max_le.mpr ⟨a.deep, b.deep⟩⟩
theorem lays_of : ∀ (n : Nat) (d : D) (v : V), good n d = true → Rep g A H d v → Lays g.K H n v (toP d) := by
  have flat : ∀ (n : Nat) (d : D) (v : V), (∀ ds, d ≠ .tup ds) → (∀ ds, d ≠ .lst ds) → (n = 0 → ∀ ns, d ≠ .scr ns) → good n d = true → Rep g A H d v → Lays g.K H n v (toP d) := fun n d v h1 h2 h3 hg r => by
    cases d with
    | non => rw [rep_non_inv r]; simp only [toP]; exact ⟨.non, by simp [PyData.canLay0], by simp [PyData.depth]⟩
    | bl b => rw [rep_bl_inv r]; simp only [toP]; exact ⟨.bl b, by simp [PyData.canLay0], by simp [PyData.depth]⟩
    | int i => rw [rep_int_inv r]; simp only [toP]; exact ⟨.int i, by simp [PyData.canLay0], by simp [PyData.depth]⟩
    | str s =>
      obtain ⟨e, k⟩ := rep_str_inv r
      rw [e]; simp only [toP]
      exact ⟨.str s, by simp only [PyData.canLay0]; exact strOk_of k, by simp [PyData.depth]⟩
    | tup ds => exact absurd rfl (h1 ds)
    | lst ds => exact absurd rfl (h2 ds)
    | loc l => cases n <;> cases hg
    | fn l => cases n <;> cases hg
    | kt l => cases n <;> cases hg
    | scr ns =>
      obtain ⟨a, rfl, q⟩ := rep_scr_inv r
      simp only [toP]
      have hn : n ≠ 0 := fun e => absurd rfl (h3 e ns)
      refine ⟨.lst q (ints_dp ns), by simp only [PyData.canLay0]; exact (ints_lay ns).1, ?_⟩
      simp only [PyData.depth, (ints_lay ns).2]
      omega
  intro n
  induction n with
  | zero =>
    intro d v hg r
    cases d with
    | tup ds => cases hg
    | lst ds => cases hg
    | scr ns => cases hg
    | non => exact flat 0 _ v (fun _ z => nomatch z) (fun _ z => nomatch z) (fun _ _ z => nomatch z) hg r
    | bl b => exact flat 0 _ v (fun _ z => nomatch z) (fun _ z => nomatch z) (fun _ _ z => nomatch z) hg r
    | int b => exact flat 0 _ v (fun _ z => nomatch z) (fun _ z => nomatch z) (fun _ _ z => nomatch z) hg r
    | str b => exact flat 0 _ v (fun _ z => nomatch z) (fun _ z => nomatch z) (fun _ _ z => nomatch z) hg r
    | loc b => exact flat 0 _ v (fun _ z => nomatch z) (fun _ z => nomatch z) (fun _ _ z => nomatch z) hg r
    | fn b => exact flat 0 _ v (fun _ z => nomatch z) (fun _ z => nomatch z) (fun _ _ z => nomatch z) hg r
    | kt b => exact flat 0 _ v (fun _ z => nomatch z) (fun _ z => nomatch z) (fun _ _ z => nomatch z) hg r
  | succ n ih =>
    intro d v hg r
    cases d with
    | tup ds =>
      obtain ⟨a, vs, rfl, h, rr⟩ := rep_tup_inv r
      have b := lays_all ih ds vs hg rr
      simp only [toP]
      exact ⟨.tup (SqT.of h) b.dp, by simp only [PyData.canLay0]; exact b.lay, by simp only [PyData.depth]; have := b.deep; omega⟩
    | lst ds =>
      obtain ⟨a, vs, rfl, h, _, rr⟩ := rep_lst_inv r
      have b := lays_all ih ds vs hg rr
      simp only [toP]
      exact ⟨.lst (SqL.of h) b.dp, by simp only [PyData.canLay0]; exact b.lay, by simp only [PyData.depth]; have := b.deep; omega⟩
    | scr ns => exact flat (n + 1) _ v (fun _ z => nomatch z) (fun _ z => nomatch z) (fun z => absurd z (Nat.succ_ne_zero n)) hg r
    | non => exact flat _ _ v (fun _ z => nomatch z) (fun _ z => nomatch z) (fun _ _ z => nomatch z) hg r
    | bl b => exact flat _ _ v (fun _ z => nomatch z) (fun _ z => nomatch z) (fun _ _ z => nomatch z) hg r
    | int b => exact flat _ _ v (fun _ z => nomatch z) (fun _ z => nomatch z) (fun _ _ z => nomatch z) hg r
    | str b => exact flat _ _ v (fun _ z => nomatch z) (fun _ z => nomatch z) (fun _ _ z => nomatch z) hg r
    | loc b => exact flat _ _ v (fun _ z => nomatch z) (fun _ z => nomatch z) (fun _ _ z => nomatch z) hg r
    | fn b => exact flat _ _ v (fun _ z => nomatch z) (fun _ z => nomatch z) (fun _ _ z => nomatch z) hg r
    | kt b => exact flat _ _ v (fun _ z => nomatch z) (fun _ z => nomatch z) (fun _ _ z => nomatch z) hg r
end
end DL

/-! DL5: comparisons by values, tests, places, slices. -/
namespace DL
open PySem L2

/-- a list of the store by its value -/
def der (st : Sto) : D → D
  | .loc l => match st[l]? with
    | some (.lst ds) => .lst ds
    | _ => .loc l
  | d => d
section
variable {X : Cx} {g : Gh} {W : WX}
theorem lays_der {A : List Addr} {st : Sto} {H : Hp} {n : Nat} {d : D} {v : V} (s : StOk g A st H) (hg : good n (der st d) = true) (r : Rep g A H d v) : Lays g.K H n v (toP (der st d)) := by
  cases d with
  | loc l =>
    cases e : st[l]? with
    | none =>
      have e2 : der st (.loc l) = .loc l := by simp only [der, e]
      rw [e2] at hg
      cases n <;> cases hg
    | some o =>
      cases o with
      | lst ds =>
        have e2 : der st (.loc l) = .lst ds := by simp only [der, e]
        rw [e2] at hg ⊢
        obtain ⟨a, rfl, ea⟩ := rep_loc_inv r
        obtain ⟨vs, ha, rr⟩ := s.obj l a _ ea e
        cases n with
        | zero => cases hg
        | succ n =>
          have b := lays_all (lays_of n) ds vs hg rr
          simp only [toP]
          exact ⟨.lst (SqL.of ha) b.dp, by simp only [PyData.canLay0]; exact b.lay, by simp only [PyData.depth]; have := b.deep; omega⟩
      | _ =>
        have e2 : der st (.loc l) = .loc l := by simp only [der, e]
        rw [e2] at hg
        cases n <;> cases hg
  | _ => exact lays_of n _ v hg r
def eqD (x y : D) (st : Sto) : Rs D :=
  if good 40 (der st x) = true ∧ good 40 (der st y) = true then .ok (.bl (PyData.eqv (toP (der st x)) (toP (der st y)))) st else .bad
def neD (x y : D) (st : Sto) : Rs D :=
  if good 40 (der st x) = true ∧ good 40 (der st y) = true then .ok (.bl (!PyData.eqv (toP (der st x)) (toP (der st y)))) st else .bad
theorem eqD_ok : OpD g (rEqD g.K) eqD := by
  intro W A st σ H x y v u Q s r1 r2 q
  unfold eqD at q
  split at q
  · rename_i hc
    have a := lays_der s hc.1 r1
    have b := lays_der s hc.2 r2
    exact ⟨_, _, a.dp, b.dp, shaped_of a.lay a.deep (by omega), shaped_of b.lay b.deep (by omega), q A _ H (.refl _ _) s (rep_bl _)⟩
  · exact q.elim
theorem neD_ok : OpD g (rNeD g.K) neD := by
  intro W A st σ H x y v u Q s r1 r2 q
  unfold neD at q
  split at q
  · rename_i hc
    have a := lays_der s hc.1 r1
    have b := lays_der s hc.2 r2
    exact ⟨_, _, a.dp, b.dp, shaped_of a.lay a.deep (by omega), shaped_of b.lay b.deep (by omega), q A _ H (.refl _ _) s (rep_bl _)⟩
  · exact q.elim
/-! ### order -/
def ints? : List D → Option (List Int)
  | [] => some []
  | .int i :: ds => (ints? ds).map (i :: ·)
  | _ :: _ => none
theorem ints?_rep {A : List Addr} {H : Hp} : ∀ {ds : List D} {ns : List Int} {vs : List V}, ints? ds = some ns → Reps g A H ds vs → vs = ns.map V.int
  | [], ns, vs, h, r => by cases h; exact r.nil_inv
  | d :: ds, ns, vs, h, r => by
    cases d with
    | int i =>
      unfold ints? at h
      obtain ⟨ms, e1, e2⟩ := Option.map_eq_some_iff.mp h
      obtain ⟨v, ws, rfl, r1, r2⟩ := r.cons_inv
      rw [rep_int_inv r1, ints?_rep e1 r2, ← e2]; rfl
    | _ => cases h
theorem ints?_map (ns : List Int) : ints? (ns.map D.int) = some ns := by
  induction ns with
  | nil => rfl
  | cons n ns ih => show (ints? (ns.map D.int)).map _ = _; rw [ih]; rfl
def ltD : D → D → Sto → Rs D
  | .int i, .int j, st => .ok (.bl (decide (i < j))) st
  | .tup a, .tup b, st => match ints? a, ints? b with
    | some ns, some ms => .ok (.bl (HT.lexLt ns ms)) st
    | _, _ => .bad
  | _, _, _ => .bad
def rLtD (K : PySem.W.Frag) : R2 := fun x y H Q => (rI0 fun i j => .bl (decide (i < j))) x y H Q ∨ rLtT K x y H Q
theorem op_ltD (hu : X.A.units < cLine) : OpR X (compareOp .Lt) (rLtD X.K) := op_lt.or (op_ltT hu)
theorem ltD_ok : OpD g (rLtD g.K) ltD := by
  intro W A st σ H x y v u Q s r1 r2 q
  unfold ltD at q
  split at q
  · exact .inl ⟨_, _, rep_int_inv r1, rep_int_inv r2, q A _ H (.refl _ _) s (rep_bl _)⟩
  · split at q
    · rename_i a b ns ms e1 e2
      obtain ⟨p, vs, rfl, h1, q1⟩ := rep_tup_inv r1
      obtain ⟨p2, ws, rfl, h2, q2⟩ := rep_tup_inv r2
      rw [ints?_rep e1 q1] at h1
      rw [ints?_rep e2 q2] at h2
      exact .inr ⟨p, p2, ns, ms, rfl, rfl, SqT.of h1, SqT.of h2, q A _ H (.refl _ _) s (rep_bl _)⟩
    · exact q.elim
  · exact q.elim
def leD : D → D → Sto → Rs D
  | .int i, .int j, st => .ok (.bl (decide (i ≤ j))) st
  | _, _, _ => .bad
theorem leD_ok : OpD g (rI0 fun i j => .bl (decide (i ≤ j))) leD := by
  intro W A st σ H x y v u Q s r1 r2 q
  unfold leD at q
  split at q
  · exact ⟨_, _, rep_int_inv r1, rep_int_inv r2, q A _ H (.refl _ _) s (rep_bl _)⟩
  · exact q.elim
def gtD : D → D → Sto → Rs D
  | .int i, .int j, st => .ok (.bl (decide (j < i))) st
  | _, _, _ => .bad
theorem gtD_ok : OpD g (rI0 fun i j => .bl (decide (j < i))) gtD := by
  intro W A st σ H x y v u Q s r1 r2 q
  unfold gtD at q
  split at q
  · exact ⟨_, _, rep_int_inv r1, rep_int_inv r2, q A _ H (.refl _ _) s (rep_bl _)⟩
  · exact q.elim
def geD : D → D → Sto → Rs D
  | .int i, .int j, st => .ok (.bl (decide (j ≤ i))) st
  | _, _, _ => .bad
theorem geD_ok : OpD g (rI0 fun i j => .bl (decide (j ≤ i))) geD := by
  intro W A st σ H x y v u Q s r1 r2 q
  unfold geD at q
  split at q
  · exact ⟨_, _, rep_int_inv r1, rep_int_inv r2, q A _ H (.refl _ _) s (rep_bl _)⟩
  · exact q.elim
/-! ### is -/
def isD : D → D → Sto → Rs D
  | .bl a, .bl b, st => .ok (.bl (decide (a = b))) st
  | .bl _, .non, st => .ok (.bl false) st
  | .non, .non, st => .ok (.bl true) st
  | .int _, .non, st => .ok (.bl false) st
  | .str _, .non, st => .ok (.bl false) st
  | .tup _, .non, st => .ok (.bl false) st
  | .lst _, .non, st => .ok (.bl false) st
  | .loc _, .non, st => .ok (.bl false) st
  | _, _, _ => .bad
def notB : D → Sto → Rs D
  | .bl b, st => .ok (.bl (!b)) st
  | _, _ => .bad
def isnD (x y : D) (st : Sto) : Rs D := (isD x y st).bind notB
def rIsD : R2 := fun x y H Q => rIsB x y H Q ∨ (y = .non ∧ Q (.bl (decide (x = .non))) H)
def rIsnD : R2 := fun x y H Q => rNotB x y H Q ∨ (y = .non ∧ Q (.bl (!decide (x = .non))) H)
theorem op_isD : OpR X (compareOp .Is) rIsD := op_isBl.or op_isN
theorem op_isnD : OpR X (compareOp .IsNot) rIsnD := op_notBl.or op_notN
theorem isD_cases {A : List Addr} {H : Hp} {x y : D} {v u : V} {st st' : Sto} {c : D} (r1 : Rep g A H x v) (r2 : Rep g A H y u) (h : isD x y st = .ok c st') :
    ∃ b, c = .bl b ∧ st' = st ∧ ((∃ p q, v = .bl p ∧ u = .bl q ∧ b = decide (p = q)) ∨ (u = .non ∧ b = decide (v = .non))) := by
  unfold isD at h
  split at h
  all_goals first | (cases h; done) | skip
  · cases h; exact ⟨_, rfl, rfl, .inl ⟨_, _, rep_bl_inv r1, rep_bl_inv r2, rfl⟩⟩
  · cases h; exact ⟨_, rfl, rfl, .inr ⟨rep_non_inv r2, by rw [rep_bl_inv r1]; rfl⟩⟩
  · cases h; exact ⟨_, rfl, rfl, .inr ⟨rep_non_inv r2, by rw [rep_non_inv r1]; rfl⟩⟩
  · cases h; exact ⟨_, rfl, rfl, .inr ⟨rep_non_inv r2, by rw [rep_int_inv r1]; rfl⟩⟩
  · cases h; exact ⟨_, rfl, rfl, .inr ⟨rep_non_inv r2, by rw [(rep_str_inv r1).1]; rfl⟩⟩
  · cases h; obtain ⟨a, _, e, _⟩ := rep_tup_inv r1; exact ⟨_, rfl, rfl, .inr ⟨rep_non_inv r2, by rw [e]; rfl⟩⟩
  · cases h; obtain ⟨a, _, e, _⟩ := rep_lst_inv r1; exact ⟨_, rfl, rfl, .inr ⟨rep_non_inv r2, by rw [e]; rfl⟩⟩
  · cases h; obtain ⟨a, e, _⟩ := rep_loc_inv r1; exact ⟨_, rfl, rfl, .inr ⟨rep_non_inv r2, by rw [e]; rfl⟩⟩
theorem isD_only {x y : D} {st : Sto} : isD x y st = .bad ∨ ∃ c, isD x y st = .ok c st := by
  unfold isD
  split <;> first | exact .inl rfl | exact .inr ⟨_, rfl⟩
theorem isD_ok : OpD g rIsD isD := by
  intro W A st σ H x y v u Q s r1 r2 q
  rcases isD_only (x := x) (y := y) (st := st) with e | ⟨c, e⟩
  · rw [e] at q; exact q.elim
  · rw [e] at q
    obtain ⟨b, rfl, _, hh⟩ := isD_cases r1 r2 e
    have q' := q A _ H (.refl _ _) s (rep_bl b)
    rcases hh with ⟨p, p', e1, e2, rfl⟩ | ⟨e1, rfl⟩
    · exact .inl ⟨p, p', e1, e2, q'⟩
    · exact .inr ⟨e1, q'⟩
theorem isnD_ok : OpD g rIsnD isnD := by
  intro W A st σ H x y v u Q s r1 r2 q
  unfold isnD at q
  rcases isD_only (x := x) (y := y) (st := st) with e | ⟨c, e⟩
  · rw [e] at q; exact q.elim
  · rw [e] at q
    obtain ⟨b, rfl, _, hh⟩ := isD_cases r1 r2 e
    have q' := q A _ H (.refl _ _) s (rep_bl (!b))
    rcases hh with ⟨p, p', e1, e2, rfl⟩ | ⟨e1, rfl⟩
    · exact .inl ⟨p, p', e1, e2, q'⟩
    · exact .inr ⟨e1, q'⟩
/-! ### in -/
def keyOf : D → Option Key
  | .int i => some (.inl i)
  | .str s => some (.inr s)
  | _ => none
def keysOf : List D → Option (List Key)
  | [] => some []
  | d :: ds => (keyOf d).bind fun k => (keysOf ds).map (k :: ·)
/-- the first with a key -/
def look {κ : Type} [DecidableEq κ] : List (κ × D) → κ → Option D
  | [], _ => none
  | (j, d) :: r, k => if j = k then some d else look r k
theorem keyOf_rep {A : List Addr} {H : Hp} {d : D} {k : Key} {v : V} (h : keyOf d = some k) (r : Rep g A H d v) : v = kV k := by
  cases d <;> cases h
  · exact rep_int_inv r
  · exact (rep_str_inv r).1
theorem keysOf_rep {A : List Addr} {H : Hp} : ∀ {ds : List D} {ks : List Key} {vs : List V}, keysOf ds = some ks → Reps g A H ds vs → vs = ks.map kV
  | [], ks, vs, h, r => by cases h; exact r.nil_inv
  | d :: ds, ks, vs, h, r => by
    unfold keysOf at h
    obtain ⟨k, e1, e2⟩ := Option.bind_eq_some_iff.mp h
    obtain ⟨ls, e3, e4⟩ := Option.map_eq_some_iff.mp e2
    obtain ⟨v, ws, rfl, r1, r2⟩ := r.cons_inv
    rw [keyOf_rep e1 r1, keysOf_rep e3 r2, ← e4]; rfl
theorem look_rep {A : List Addr} {H : Hp} {κ : Type} [DecidableEq κ] (k : κ) : ∀ {kvs : List (κ × D)} {kv' : List (κ × V)}, Paired (fun (p : κ × D) (q : κ × V) => p.1 = q.1 ∧ Rep g A H p.2 q.2) kvs kv' →
    match look kvs k with
    | some d => ∃ v, valV kv' k = some v ∧ Rep g A H d v
    | none => valV kv' k = none
  | [], _, .nil => rfl
  | (j, d) :: r, (j', v) :: r', .cons h t => by
    obtain ⟨e, rr⟩ := h
    have e' : j = j' := e
    subst e'
    unfold look
    by_cases hk : j = k
    · rw [if_pos hk, valV_pos hk]
      exact ⟨v, rfl, rr⟩
    · rw [if_neg hk, valV_neg hk]
      exact look_rep k t
def flatD : D → Bool
  | .non => true
  | .bl _ => true
  | .int _ => true
  | .str _ => true
  | _ => false
def eqFlat : D → D → Bool
  | .non, .non => true
  | .bl a, .bl b => a == b
  | .bl a, .int b => (if a then 1 else 0) == b
  | .int a, .bl b => a == (if b then 1 else 0)
  | .int a, .int b => a == b
  | .str a, .str b => a == b
  | _, _ => false
theorem flat_rep {A : List Addr} {H : Hp} {d : D} {v : V} (h : flatD d = true) (r : Rep g A H d v) : flatV v = true := by
  cases d <;> first | cases h | skip
  · rw [rep_non_inv r]; rfl
  · rw [rep_bl_inv r]; rfl
  · rw [rep_int_inv r]; rfl
  · rw [(rep_str_inv r).1]; rfl
theorem eqFlat_rep {A : List Addr} {H : Hp} {d e : D} {v u : V} (hd : flatD d = true) (he : flatD e = true) (r : Rep g A H d v) (q : Rep g A H e u) : eqV v u = eqFlat d e := by
  cases d <;> first | cases hd | skip
  all_goals cases e <;> first | cases he | skip
  all_goals
    first | rw [rep_non_inv r] | rw [rep_bl_inv r] | rw [rep_int_inv r] | rw [(rep_str_inv r).1]
    first | rw [rep_non_inv q] | rw [rep_bl_inv q] | rw [rep_int_inv q] | rw [(rep_str_inv q).1]
    rfl
theorem any_rep {A : List Addr} {H : Hp} {e : D} {u : V} (he : flatD e = true) (q : Rep g A H e u) : ∀ {ds : List D} {vs : List V}, ds.all flatD = true → Reps g A H ds vs → vs.all flatV = true ∧ inV u vs = ds.any fun d => eqFlat d e
  | [], vs, _, r => by rw [r.nil_inv]; exact ⟨rfl, rfl⟩
  | d :: ds, vs, h, r => by
    obtain ⟨v, ws, rfl, r1, r2⟩ := r.cons_inv
    rw [List.all_cons, Bool.and_eq_true] at h
    obtain ⟨a, b⟩ := any_rep he q h.2 r2
    refine ⟨by rw [List.all_cons, flat_rep h.1 r1, a]; rfl, ?_⟩
    show (eqV v u || inV u ws) = _
    rw [List.any_cons, eqFlat_rep h.1 he r1 q, b]
def strIn (i j : Str) : Bool := !(Builtin.Str.occurrences j i 0 j.length 1).isEmpty
/-- x in y -/
def inB (x y : D) (st : Sto) : Option Bool := match y with
  | .lst ds => if flatD x = true ∧ ds.all flatD = true then some (ds.any fun d => eqFlat d x) else none
  | .tup ds => if flatD x = true ∧ ds.all flatD = true then some (ds.any fun d => eqFlat d x) else none
  | .kt ss => match x with
    | .str s => some (ss.any fun z => z == s)
    | _ => none
  | .str j => match x with
    | .str i => some (strIn i j)
    | _ => none
  | .loc l => match st[l]? with
    | some (.lst ds) => if flatD x = true ∧ ds.all flatD = true then some (ds.any fun d => eqFlat d x) else none
    | some (.dk _ kvs) => (keyOf x).map fun k => (look kvs k).isSome
    | some (.dt _ kvs) => match x with
      | .tup ds => (keysOf ds).map fun k => (look kvs k).isSome
      | _ => none
    | _ => none
  | _ => none
def inD (x y : D) (st : Sto) : Rs D := match inB x y st with
  | some b => .ok (.bl b) st
  | none => .bad
def notInD (x y : D) (st : Sto) : Rs D := match inB x y st with
  | some b => .ok (.bl (!b)) st
  | none => .bad
def rDIn (neg : Bool) : R2 := fun y x H Q => ∃ a o, x = .ref a ∧ DGet H a y o ∧ Q (.bl (if neg = true then !o.isSome else o.isSome)) H
theorem op_dIn (hu : X.A.units + 1 < cLine) : OpR X (compareOp .In) (rDIn false) := by
  intro pins s σ H x y v u Q I rx ry h
  obtain ⟨a, o, rfl, gg, q⟩ := h
  obtain rfl : u = Value.ref a := ry
  exact d_in hu I gg rx fun s3 I3 => ⟨.bl o.isSome, H, I3, rfl, q⟩
theorem op_dNotIn (hu : X.A.units + 1 < cLine) : OpR X (compareOp .NotIn) (rDIn true) := by
  intro pins s σ H x y v u Q I rx ry h
  obtain ⟨a, o, rfl, gg, q⟩ := h
  obtain rfl : u = Value.ref a := ry
  exact d_notIn hu I gg rx fun s3 I3 => ⟨.bl (!o.isSome), H, I3, rfl, q⟩
def rInS (neg : Bool) : R2 := fun x y H Q => ∃ i j, x = .str i ∧ y = .str j ∧ Q (.bl (if neg = true then !strIn i j else strIn i j)) H
theorem op_inS : OpR X (compareOp .In) (rInS false) := op_in_str
theorem op_notInS : OpR X (compareOp .NotIn) (rInS true) := op_notIn_str
def rInD (K : PySem.W.Frag) (neg : Bool) : R2 := fun x y H Q => rIn K neg x y H Q ∨ (rInS neg x y H Q ∨ rDIn neg x y H Q)
theorem op_inD (hu : X.A.units + 1 < cLine) : OpR X (compareOp .In) (rInD X.K false) := op_in_seq.or (op_inS.or (op_dIn hu))
theorem op_notInD (hu : X.A.units + 1 < cLine) : OpR X (compareOp .NotIn) (rInD X.K true) := op_notIn_seq.or (op_notInS.or (op_dNotIn hu))
theorem dget_rep {A : List Addr} {st : Sto} {H : Hp} {z : Bool} {kvs : List (Key × D)} {l : Nat} {a : Addr} {k : Key} (s : StOk g A st H) (ea : A[l]? = some a) (e : st[l]? = some (.dk z kvs)) :
    match look kvs k with
    | some d => ∃ v, DGet H a (kV k) (some v) ∧ Rep g A H d v
    | none => DGet H a (kV k) none := by
  obtain ⟨kv', h, p, _⟩ := s.obj l a _ ea e
  have rd : Rd H a (.dK kv') := by
    cases z with
    | true => exact .inr (by simpa using h)
    | false => exact .inl (by simpa using h)
  have q := look_rep k p
  cases hl : look kvs k with
  | some d =>
    rw [hl] at q
    obtain ⟨v, e1, r⟩ := q
    exact ⟨v, .inl ⟨kv', k, rd, rfl, e1.symm⟩, r⟩
  | none =>
    rw [hl] at q
    exact .inl ⟨kv', k, rd, rfl, q.symm⟩
theorem dtget_rep {A : List Addr} {st : Sto} {H : Hp} {z : Bool} {kvs : List (List Key × D)} {l : Nat} {a b : Addr} {k : List Key} (s : StOk g A st H) (ea : A[l]? = some a) (e : st[l]? = some (.dt z kvs)) (hb : H b = some (.tup (k.map kV))) :
    match look kvs k with
    | some d => ∃ v, DGet H a (.ref b) (some v) ∧ Rep g A H d v
    | none => DGet H a (.ref b) none := by
  obtain ⟨kv', h, p, _⟩ := s.obj l a _ ea e
  have rd : Rd H a (.dT kv') := by
    cases z with
    | true => exact .inr (by simpa using h)
    | false => exact .inl (by simpa using h)
  have q := look_rep k p
  cases hl : look kvs k with
  | some d =>
    rw [hl] at q
    obtain ⟨v, e1, r⟩ := q
    exact ⟨v, .inr ⟨kv', k, b, rd, rfl, hb, e1.symm⟩, r⟩
  | none =>
    rw [hl] at q
    exact .inr ⟨kv', k, b, rd, rfl, hb, q.symm⟩
theorem inB_rep {A : List Addr} {st : Sto} {H : Hp} {x y : D} {v u : V} {b : Bool} (neg : Bool) {Q : VK} (s : StOk g A st H) (r1 : Rep g A H x v) (r2 : Rep g A H y u) (h : inB x y st = some b) (q : Q (.bl (if neg = true then !b else b)) H) : rInD g.K neg v u H Q := by
  unfold inB at h
  split at h
  · split at h
    · rename_i ds hc
      cases h
      obtain ⟨p, vs, rfl, h1, _, q1⟩ := rep_lst_inv r2
      obtain ⟨a1, a2⟩ := any_rep hc.1 r1 hc.2 q1
      exact .inl ⟨p, vs, rfl, .inl (SqL.of h1), flat_rep hc.1 r1, a1, by rw [a2]; exact q⟩
    · cases h
  · split at h
    · rename_i ds hc
      cases h
      obtain ⟨p, vs, rfl, h1, q1⟩ := rep_tup_inv r2
      obtain ⟨a1, a2⟩ := any_rep hc.1 r1 hc.2 q1
      exact .inl ⟨p, vs, rfl, .inr (SqT.of h1), flat_rep hc.1 r1, a1, by rw [a2]; exact q⟩
    · cases h
  · split at h
    · rename_i ss _ s'
      cases h
      obtain ⟨p, rfl, h1⟩ := rep_kt_inv r2
      obtain ⟨e1, _⟩ := rep_str_inv r1
      subst e1
      refine .inl ⟨p, _, rfl, .inr h1, rfl, ?_, ?_⟩
      · rw [List.all_map]; exact List.all_eq_true.mpr fun _ _ => rfl
      · have e : inV (.str s') (ss.map V.str) = ss.any fun z => z == s' := by
          unfold inV; rw [List.any_map]; rfl
        rw [e]; exact q
    · cases h
  · split at h
    · rename_i j _ i
      cases h
      exact .inr (.inl ⟨i, j, (rep_str_inv r1).1, (rep_str_inv r2).1, q⟩)
    · cases h
  · rename_i l
    obtain ⟨a, rfl, ea⟩ := rep_loc_inv r2
    split at h
    · rename_i ds e
      split at h
      · rename_i hc
        cases h
        obtain ⟨vs, h1, q1⟩ := s.obj l a _ ea e
        obtain ⟨a1, a2⟩ := any_rep hc.1 r1 hc.2 q1
        exact .inl ⟨a, vs, rfl, .inl (SqL.of h1), flat_rep hc.1 r1, a1, by rw [a2]; exact q⟩
      · cases h
    · rename_i z kvs e
      obtain ⟨k, e1, e2⟩ := Option.map_eq_some_iff.mp h
      have ek := keyOf_rep e1 r1
      subst ek
      have gg := dget_rep (k := k) s ea e
      cases hl : look kvs k with
      | some d =>
        rw [hl] at gg e2
        obtain ⟨w, g1, _⟩ := gg
        have e3 : b = true := e2.symm
        subst e3
        exact .inr (.inr ⟨a, some w, rfl, g1, q⟩)
      | none =>
        rw [hl] at gg e2
        have e3 : b = false := e2.symm
        subst e3
        exact .inr (.inr ⟨a, none, rfl, gg, q⟩)
    · rename_i z kvs e
      split at h
      · rename_i ds
        obtain ⟨k, e1, e2⟩ := Option.map_eq_some_iff.mp h
        obtain ⟨p, vs, rfl, h1, q1⟩ := rep_tup_inv r1
        rw [keysOf_rep e1 q1] at h1
        have gg := dtget_rep (k := k) s ea e h1
        cases hl : look kvs k with
        | some d =>
          rw [hl] at gg e2
          obtain ⟨w, g1, _⟩ := gg
          have e3 : b = true := e2.symm
          subst e3
          exact .inr (.inr ⟨a, some w, rfl, g1, q⟩)
        | none =>
          rw [hl] at gg e2
          have e3 : b = false := e2.symm
          subst e3
          exact .inr (.inr ⟨a, none, rfl, gg, q⟩)
      · cases h
    · cases h
  · cases h
theorem inD_ok : OpD g (rInD g.K false) inD := by
  intro W A st σ H x y v u Q s r1 r2 q
  unfold inD at q
  split at q
  · rename_i b e
    exact inB_rep false s r1 r2 e (q A _ H (.refl _ _) s (rep_bl _))
  · exact q.elim
theorem notInD_ok : OpD g (rInD g.K true) notInD := by
  intro W A st σ H x y v u Q s r1 r2 q
  unfold notInD at q
  split at q
  · rename_i b e
    exact inB_rep true s r1 r2 e (q A _ H (.refl _ _) s (rep_bl _))
  · exact q.elim

/-! ### comparisons as values, as tests -/
variable {a b : Expr} {pos : Pos} {f k : DE}
theorem de_cmp {op : CmpOp} {r : R2} {h : D → D → Sto → Rs D} (ho : OpR X (compareOp op) r) (o : OpD g r h) (ha : PE X a (tD g W f)) (hb : PE X b (tD g W k)) (hm : behindInMarks op b = false) : PE X (.Compare a [op] [b] pos) (tD g W (dB h f k)) :=
  pe_imp (pe_cmpR ho ha hb hm) fun σ H Q q => bin_imp o q
def asB : D → Sto → Rs Bool
  | .bl b, st => .ok b st
  | _, _ => .bad
/-- a value as a test -/
def dTest (f : DE) : DT := fun env st => (f env st).bind asB
theorem test_imp {t : TE} {σ : L2.St} {H : Hp} {Q : Bool → Hp → Prop} (k : ∀ Q, tD g W f σ H Q → t σ H Q) (q : tT g W (dTest f) σ H Q) : t σ H fun x H' => ∃ c, x = .bl c ∧ Q c H' := by
  obtain ⟨A, env, st, M, q⟩ := q
  refine k _ ((tR.bind (rel := Rep g) M q).mono fun v H1 ⟨A1, d, st1, x, s, r, M1, q1⟩ => ?_)
  unfold asB at q1
  split at q1
  · exact ⟨_, rep_bl_inv r, q1 A1 _ H1 (.refl _ _) s rfl⟩
  · exact q1.elim
theorem dt_cmp {op : CmpOp} {r : R2} {h : D → D → Sto → Rs D} (ho : OpR X (compareOp op) r) (o : OpD g r h) (ha : PE X a (tD g W f)) (hb : PE X b (tD g W k)) (hm : behindInMarks op b = false) : PT X (.Compare a [op] [b] pos) (tT g W (dTest (dB h f k))) :=
  pt_imp (pt_cmpR ho ha hb hm) fun σ H Q q => test_imp (fun Q q => bin_imp o q) q
theorem dt_val (ha : PE X a (tD g W f)) (he : ∀ whole, isTrue a X.env whole = (do let v ← whole; standAt a.pos; holding [v] (truthy v))) : PT X a (tT g W (dTest f)) :=
  pt_imp (pt_val ha he) fun σ H Q q => test_imp (fun Q q => q) q
/-- a < b < c -/
def dChain (h h' : D → D → Sto → Rs D) (f k m : DE) : DE := fun env st => (f env st).bind fun x st => (k env st).bind fun y st => (h x y st).bind fun z st => match z with
  | .bl true => (m env st).bind fun w st => h' y w st
  | .bl false => .ok (.bl false) st
  | _ => .bad
theorem chain_imp {r r' : R2} {h h' : D → D → Sto → Rs D} (o : OpD g r h) (o' : OpD g r' h') {m : DE} {σ : L2.St} {H : Hp} {Q : VK} (q : tD g W (dChain h h' f k m) σ H Q) : tChain r r' (tD g W f) (tD g W k) (tD g W m) σ H Q := by
  obtain ⟨A, env, st, M, q⟩ := q
  refine (tR.bind (rel := Rep g) M q).mono fun v H1 ⟨A1, d, st1, x, s, rr, M1, q1⟩ => ?_
  refine (tR.bind (rel := Rep g) M1 q1).mono fun u H2 ⟨A2, d2, st2, x2, s2, r2, M2, q2⟩ => ?_
  refine o W A2 st2 σ H2 d d2 v u _ s2 (rr.ext x2) r2 ?_
  cases e : h d d2 st2 with
  | ok c st3 =>
    rw [e, Rs.bind_ok] at q2
    refine fun A3 z H3 x3 s3 r3 => ?_
    have q3 := RP.ext x3 q2
    split at q3
    · refine ⟨true, rep_bl_inv r3, ?_⟩
      rw [if_pos rfl]
      refine (tR.bind (rel := Rep g) ⟨M2.env.ext x3, s3⟩ q3).mono fun w H4 ⟨A4, d4, st4, x4, s4, r4, M4, q4⟩ => ?_
      exact o' W A4 st4 σ H4 d2 d4 u w Q s4 (r2.ext (x3.trans x4)) r4 q4
    · refine ⟨false, rep_bl_inv r3, ?_⟩
      rw [if_neg Bool.false_ne_true]
      exact q3 A3 _ H3 (.refl _ _) s3 (rep_bl _)
    · exact q3.elim
  | exc c st3 => rw [e] at q2; exact q2
  | bad => rw [e] at q2; exact q2
theorem de_chain {c : Expr} {op op' : CmpOp} {r r' : R2} {h h' : D → D → Sto → Rs D} {m : DE} (ho : OpR X (compareOp op) r) (o : OpD g r h) (ho' : OpR X (compareOp op') r') (o' : OpD g r' h') (ha : PE X a (tD g W f)) (hb : PE X b (tD g W k)) (hc : PE X c (tD g W m)) (hm : lastMarks [op, op'] [b, c] = false) :
    PE X (.Compare a [op, op'] [b, c] pos) (tD g W (dChain h h' f k m)) := pe_imp (pe_chain ho ho' ha hb hc hm) fun σ H Q q => chain_imp o o' q
theorem dt_chain {c : Expr} {op op' : CmpOp} {r r' : R2} {h h' : D → D → Sto → Rs D} {m : DE} (ho : OpR X (compareOp op) r) (o : OpD g r h) (ho' : OpR X (compareOp op') r') (o' : OpD g r' h') (ha : PE X a (tD g W f)) (hb : PE X b (tD g W k)) (hc : PE X c (tD g W m)) (hm : lastMarks [op, op'] [b, c] = false) :
    PT X (.Compare a [op, op'] [b, c] pos) (tT g W (dTest (dChain h h' f k m))) := pt_imp (pt_chain ho ho' ha hb hc hm) fun σ H Q q => test_imp (fun Q q => chain_imp o o' q) q

/-! ### and, or, not -/
def dAnd (t u : DT) : DT := fun env st => (t env st).bind fun c st => if c = true then u env st else .ok false st
def dOr (t u : DT) : DT := fun env st => (t env st).bind fun c st => if c = true then .ok true st else u env st
def dNot (t : DT) : DT := fun env st => (t env st).bind fun c st => .ok (!c) st
variable {t u : DT} {rest : List Expr}
theorem dw_and1 (ha : PT X a (tT g W t)) : PW X (.BoolOp .And [a] pos) (tT g W t) := pw_and1 ha
theorem dw_or1 (ha : PT X a (tT g W t)) : PW X (.BoolOp .Or [a] pos) (tT g W t) := pw_or1 ha
theorem dw_and (ha : PT X a (tT g W t)) (hb : PW X (.BoolOp .And (b :: rest) pos) (tT g W u)) : PW X (.BoolOp .And (a :: b :: rest) pos) (tT g W (dAnd t u)) :=
  pw_imp (pw_and ha hb) fun σ H Q q => by
    obtain ⟨A, env, st, M, q⟩ := q
    refine (tR.bind (rel := relB) M q).mono fun v H1 ⟨A1, d, st1, x, s, r, M1, q1⟩ => ?_
    have r' : d = v := r
    subst r'
    cases d with
    | true => rw [if_pos rfl] at q1 ⊢; exact ⟨A1, env, st1, M1, q1⟩
    | false => rw [if_neg Bool.false_ne_true] at q1 ⊢; exact q1 A1 _ H1 (.refl _ _) s rfl
theorem dw_or (ha : PT X a (tT g W t)) (hb : PW X (.BoolOp .Or (b :: rest) pos) (tT g W u)) : PW X (.BoolOp .Or (a :: b :: rest) pos) (tT g W (dOr t u)) :=
  pw_imp (pw_or ha hb) fun σ H Q q => by
    obtain ⟨A, env, st, M, q⟩ := q
    refine (tR.bind (rel := relB) M q).mono fun v H1 ⟨A1, d, st1, x, s, r, M1, q1⟩ => ?_
    have r' : d = v := r
    subst r'
    cases d with
    | true => rw [if_pos rfl] at q1 ⊢; exact q1 A1 _ H1 (.refl _ _) s rfl
    | false => rw [if_neg Bool.false_ne_true] at q1 ⊢; exact ⟨A1, env, st1, M1, q1⟩
theorem dt_not (ha : PT X a (tT g W t)) : PT X (.UnaryOp .Not a pos) (tT g W (dNot t)) :=
  pt_imp (pt_not ha) fun σ H Q q => by
    obtain ⟨A, env, st, M, q⟩ := q
    refine (tR.bind (rel := relB) M q).mono fun v H1 ⟨A1, d, st1, x, s, r, M1, q1⟩ => ?_
    have r' : d = v := r
    subst r'
    exact q1 A1 _ H1 (.refl _ _) s rfl
def dAndV (f k : DE) : DE := fun env st => (f env st).bind fun c st => match c with
  | .bl true => k env st
  | .bl false => .ok (.bl false) st
  | _ => .bad
def dOrV (f k : DE) : DE := fun env st => (f env st).bind fun c st => match c with
  | .bl true => .ok (.bl true) st
  | .bl false => k env st
  | _ => .bad
theorem de_one {op : BoolOp} (h : PE X a (tD g W f)) : PE X (.BoolOp op [a] pos) (tD g W f) := pe_one h
theorem de_and (ha : PE X a (tD g W f)) (hb : PE X (.BoolOp .And (b :: rest) pos) (tD g W k)) : PE X (.BoolOp .And (a :: b :: rest) pos) (tD g W (dAndV f k)) :=
  pe_imp (pe_and ha hb) fun σ H Q q => by
    obtain ⟨A, env, st, M, q⟩ := q
    refine (tR.bind (rel := Rep g) M q).mono fun v H1 ⟨A1, d, st1, x, s, r, M1, q1⟩ => ?_
    split at q1
    · refine ⟨true, rep_bl_inv r, ?_⟩
      rw [if_pos rfl]; exact ⟨A1, env, st1, M1, q1⟩
    · refine ⟨false, rep_bl_inv r, ?_⟩
      rw [if_neg Bool.false_ne_true]; exact q1 A1 _ H1 (.refl _ _) s (rep_bl _)
    · exact q1.elim
theorem de_or (ha : PE X a (tD g W f)) (hb : PE X (.BoolOp .Or (b :: rest) pos) (tD g W k)) : PE X (.BoolOp .Or (a :: b :: rest) pos) (tD g W (dOrV f k)) :=
  pe_imp (pe_or ha hb) fun σ H Q q => by
    obtain ⟨A, env, st, M, q⟩ := q
    refine (tR.bind (rel := Rep g) M q).mono fun v H1 ⟨A1, d, st1, x, s, r, M1, q1⟩ => ?_
    split at q1
    · refine ⟨true, rep_bl_inv r, ?_⟩
      rw [if_pos rfl]; exact q1 A1 _ H1 (.refl _ _) s (rep_bl _)
    · refine ⟨false, rep_bl_inv r, ?_⟩
      rw [if_neg Bool.false_ne_true]; exact ⟨A1, env, st1, M1, q1⟩
    · exact q1.elim
def dNotV (f : DE) : DE := fun env st => (f env st).bind notB
theorem de_not (ha : PE X a (tD g W f)) : PE X (.UnaryOp .Not a pos) (tD g W (dNotV f)) :=
  pe_imp (pe_not ha) fun σ H Q q => by
    obtain ⟨A, env, st, M, q⟩ := q
    refine (tR.bind (rel := Rep g) M q).mono fun v H1 ⟨A1, d, st1, x, s, r, M1, q1⟩ => ?_
    unfold notB at q1
    split at q1
    · exact ⟨_, rep_bl_inv r, q1 A1 _ H1 (.refl _ _) s (rep_bl _)⟩
    · exact q1.elim
def dIf (t : DT) (f k : DE) : DE := fun env st => (t env st).bind fun c st => if c = true then f env st else k env st
theorem de_if {c : Expr} (hc : PT X c (tT g W t)) (ha : PE X a (tD g W f)) (hb : PE X b (tD g W k)) : PE X (.IfExp c a b pos) (tD g W (dIf t f k)) :=
  pe_imp (pe_ifExp hc ha hb) fun σ H Q q => by
    obtain ⟨A, env, st, M, q⟩ := q
    refine (tR.bind (rel := relB) M q).mono fun v H1 ⟨A1, d, st1, x, s, r, M1, q1⟩ => ?_
    have r' : d = v := r
    subst r'
    cases d with
    | true => rw [if_pos rfl] at q1 ⊢; exact ⟨A1, env, st1, M1, q1⟩
    | false => rw [if_neg Bool.false_ne_true] at q1 ⊢; exact ⟨A1, env, st1, M1, q1⟩
end
end DL

/-! DL6: statements, loops, comprehensions. -/
namespace DL
open PySem L2

def Rs.thn {α : Type} (r : Rs α) (env : En) (k : α → Sto → SR) : SR := match r with
  | .ok a st => k a st
  | .exc c st => .exc c env st
  | .bad => .bad
@[simp] theorem Rs.thn_ok {α : Type} (a : α) (st : Sto) (env : En) (k : α → Sto → SR) : (Rs.ok a st).thn env k = k a st := nrfl rfl
@[simp] theorem Rs.thn_exc {α : Type} (c : Nat) (st : Sto) (env : En) (k : α → Sto → SR) : (Rs.exc c st : Rs α).thn env k = .exc c env st := nrfl rfl
@[simp] theorem Rs.thn_bad {α : Type} (env : En) (k : α → Sto → SR) : (Rs.bad : Rs α).thn env k = .bad := nrfl rfl

section
variable {X : Cx} {g : Gh} {W : WX}
theorem tS.bind {α β : Type} {rel : List Addr → Hp → α → β → Prop} {D : Ends} {A : List Addr} {σ : L2.St} {H : Hp} {env : En} {st : Sto} {f : En → Sto → Rs α} {k : α → Sto → SR} (M : Mt g A env st σ H) (h : SPd g W D A H ((f env st).thn env k)) :
    tR g W rel f σ H fun v H1 => ∃ A1 d st1, f env st = .ok d st1 ∧ Ext A H A1 H1 ∧ StOk g A1 st1 H1 ∧ rel A1 H1 d v ∧ Mt g A1 env st1 σ H1 ∧ SPd g W D A1 H1 (k d st1) := by
  refine ⟨A, env, st, M, ?_⟩
  cases e : f env st with
  | ok d st1 =>
    rw [e] at h
    exact fun A1 v H1 x s r => ⟨A1, d, st1, rfl, x, s, r, ⟨M.env.ext x, s⟩, SPd.ext x h⟩
  | exc c st1 =>
    rw [e] at h
    exact fun A1 H1 dx x s => h A1 σ H1 dx x ⟨M.env.ext x, s⟩
  | bad => rw [e] at h; exact h

def dNext : DS := fun env st => .nx env st
def dSeq (f k : DS) : DS := fun env st => match f env st with
  | .nx e st => k e st
  | .rt d st => .rt d st
  | .bk e st => .bk e st
  | .ct e st => .ct e st
  | .exc c e st => .exc c e st
  | .bad => .bad
theorem dss_nil : PSs X [] (tS g W dNext) := pss_imp pss_nil fun D σ H q => by
  obtain ⟨A, env, st, M, q⟩ := q
  exact q A σ H (.refl _ _) M
theorem dss_cons {s : Stmt} {r : List Stmt} {f k : DS} (h1 : PS X s (tS g W f)) (h2 : PSs X r (tS g W k)) : PSs X (s :: r) (tS g W (dSeq f k)) :=
  pss_imp (pss_cons h1 h2) fun D σ H q => by
    obtain ⟨A, env, st, M, q⟩ := q
    refine ⟨A, env, st, M, ?_⟩
    unfold dSeq at q
    cases e : f env st with
    | nx e' st' =>
      rw [e] at q
      exact fun A' σ' H' x M' => ⟨A', e', st', M', SPd.ext x q⟩
    | rt d st' => rw [e] at q; exact q
    | bk e' st' => rw [e] at q; exact q
    | ct e' st' => rw [e] at q; exact q
    | exc c e' st' => rw [e] at q; exact q
    | bad => rw [e] at q; exact q
theorem dss_one {s : Stmt} {f : DS} (h1 : PS X s (tS g W f)) : PSs X [s] (tS g W f) := pss_one h1
theorem ds_pass {pos : Pos} : PS X (.Pass pos) (tS g W dNext) := ps_imp ps_pass fun D σ H q => by
  obtain ⟨A, env, st, M, q⟩ := q
  exact q A σ H (.refl _ _) M
def dBreak : DS := fun env st => .bk env st
def dCont : DS := fun env st => .ct env st
theorem ds_break {pos : Pos} : PS X (.Break pos) (tS g W dBreak) := ps_imp ps_break fun D σ H q => by
  obtain ⟨A, env, st, M, q⟩ := q
  exact q A σ H (.refl _ _) M
theorem ds_cont {pos : Pos} : PS X (.Continue pos) (tS g W dCont) := ps_imp ps_continue fun D σ H q => by
  obtain ⟨A, env, st, M, q⟩ := q
  exact q A σ H (.refl _ _) M
def dExpr (f : DE) : DS := fun env st => (f env st).thn env fun _ st => .nx env st
theorem ds_expr {e : Expr} {pos : Pos} {f : DE} (he : PE X e (tD g W f)) (hs : swapsWith e none pos.line X.env = pure false) : PS X (.Expr e pos) (tS g W (dExpr f)) :=
  ps_imp (ps_expr he hs) fun D σ H q => by
    obtain ⟨A, env, st, M, q⟩ := q
    exact (tS.bind (rel := Rep g) M q).mono fun v H1 ⟨A1, d, st1, _, x, s, r, M1, q1⟩ => q1 A1 σ H1 (.refl _ _) M1
def dRet (f : DE) : DS := fun env st => (f env st).thn env fun d st => .rt d st
theorem ds_ret {e : Expr} {pos : Pos} {f : DE} (he : PE X e (tD g W f)) : PS X (.Return (some e) pos) (tS g W (dRet f)) :=
  ps_imp (ps_ret he) fun D σ H q => by
    obtain ⟨A, env, st, M, q⟩ := q
    exact (tS.bind (rel := Rep g) M q).mono fun v H1 ⟨A1, d, st1, _, x, s, r, M1, q1⟩ => q1 A1 v H1 (.refl _ _) s r
def dRetN : DS := fun _ st => .rt .non st
theorem ds_retN {pos : Pos} : PS X (.Return none pos) (tS g W dRetN) := ps_imp ps_retN fun D σ H q => by
  obtain ⟨A, env, st, M, q⟩ := q
  exact q A .non H (.refl _ _) M.sto rep_non
def dIfS (t : DT) (f k : DS) : DS := fun env st => (t env st).thn env fun c st => if c = true then f env st else k env st
theorem ds_if {c : Expr} {a b : List Stmt} {pos : Pos} {t : DT} {f k : DS} (hc : PT X c (tT g W t)) (ha : PSs X a (tS g W f)) (hb : PSs X b (tS g W k)) : PS X (.If c a b pos) (tS g W (dIfS t f k)) :=
  ps_imp (ps_if hc ha hb) fun D σ H q => by
    obtain ⟨A, env, st, M, q⟩ := q
    refine (tS.bind (rel := relB) M q).mono fun v H1 ⟨A1, d, st1, _, x, s, r, M1, q1⟩ => ?_
    have r' : d = v := r
    subst r'
    cases d with
    | true => rw [if_pos rfl] at q1 ⊢; exact ⟨A1, env, st1, M1, q1⟩
    | false => rw [if_neg Bool.false_ne_true] at q1 ⊢; exact ⟨A1, env, st1, M1, q1⟩

/-! ### targets -/
abbrev Tg := D → En → Option En
/-- a target stores data -/
def TgOk (g : Gh) (K : PySem.W.Frag) (t : TG) (tg : Tg) : Prop := ∀ (A : List Addr) (st : Sto) (σ : L2.St) (H : Hp) (env env' : En) (d : D) (v : V) (Q : L2.St → Hp → Prop), Mt g A env st σ H → Rep g A H d v → tg d env = some env' →
  (∀ σ', Mt g A env' st σ' H → Q σ' H) → t v σ H Q
def tgN (i : Nat) : Tg := fun d env => some (env.set i (some d))
theorem tgN_ok {K : PySem.W.Frag} (i : Nat) : TgOk g K (gName i) (tgN i) := fun A st σ H env env' d v Q M r e k => by
  cases e
  exact k _ ⟨M.env.set i r, M.sto⟩
def tgNs : List Nat → List D → En → Option En
  | [], [], env => some env
  | i :: is, d :: ds, env => tgNs is ds (env.set i (some d))
  | _, _, _ => none
def tgT (is : List Nat) : Tg := fun d env => match d with
  | .tup ds => tgNs is ds env
  | _ => none
def gNames : List Nat → TGs
  | [] => gNil
  | i :: is => gCons (gName i) (gNames is)
theorem tgNs_ok {A : List Addr} {st : Sto} {H : Hp} : ∀ {is : List Nat} {ds : List D} {vs : List V} {σ : L2.St} {env env' : En} {Q : L2.St → Hp → Prop}, Mt g A env st σ H → Reps g A H ds vs → tgNs is ds env = some env' → (∀ σ', Mt g A env' st σ' H → Q σ' H) → gNames is vs σ H Q
  | [], [], vs, σ, env, env', Q, M, r, e, k => by
    cases e
    exact ⟨r.nil_inv, k σ M⟩
  | [], d :: ds, vs, σ, env, env', Q, M, r, e, k => by cases e
  | i :: is, [], vs, σ, env, env', Q, M, r, e, k => by cases e
  | i :: is, d :: ds, vs, σ, env, env', Q, M, r, e, k => by
    obtain ⟨v, ws, rfl, r1, r2⟩ := r.cons_inv
    exact ⟨v, ws, rfl, tgNs_ok ⟨M.env.set i r1, M.sto⟩ r2 e k⟩
theorem tgNs_len : ∀ {is : List Nat} {ds : List D} {env env' : En}, tgNs is ds env = some env' → ds.length = is.length
  | [], [], _, _, _ => rfl
  | [], _ :: _, _, _, e => by cases e
  | _ :: _, [], _, _, e => by cases e
  | i :: is, d :: ds, env, env', e => by
    have := tgNs_len (is := is) (ds := ds) e
    simp [this]
theorem tgT_ok {K : PySem.W.Frag} (is : List Nat) : TgOk g K (gTup K is.length (gNames is)) (tgT is) := fun A st σ H env env' d v Q M r e k => by
  unfold tgT at e
  split at e
  · rename_i ds
    obtain ⟨a, vs, rfl, h, rr⟩ := rep_tup_inv r
    exact ⟨a, vs, rfl, SqT.of h, by rw [← rr.len]; exact tgNs_len e, tgNs_ok M rr e k⟩
  · cases e

/-! ### x = e -/
def dSet (tg : Tg) (f : DE) : DS := fun env st => (f env st).thn env fun d st => match tg d env with
  | some env' => .nx env' st
  | none => .bad
theorem set_imp {t : TG} {tg : Tg} {K : PySem.W.Frag} (ht : TgOk g K t tg) {f : DE} {D : Ends} {σ : L2.St} {H : Hp} (q : tS g W (dSet tg f) D σ H) : tAsg (tD g W f) t D σ H := by
  obtain ⟨A, env, st, M, q⟩ := q
  refine (tS.bind (rel := Rep g) M q).mono fun v H1 ⟨A1, d, st1, _, x, s, r, M1, q1⟩ => ?_
  split at q1
  · rename_i env' e
    exact ht A1 st1 σ H1 env env' d v D.nx M1 r e fun σ' M' => q1 A1 σ' H1 (.refl _ _) M'
  · exact q1.elim
theorem ds_set {x : Str} {e : Expr} {pos pos' : Pos} {f : DE} (i : Nat) (hN : X.N.Nodup) (hi : X.N[i]? = some x) (hx : Loc X.env.scope x) (he : PE X e (tD g W f)) (hs : swapsWith e (some (.Name x pos')) pos.line X.env = pure false) (hf : X.fn x = true ∨ X.env.scope.names.lookup x = some .local) :
    PS X (.Assign [.Name x pos'] e pos) (tS g W (dSet (tgN i) f)) := ps_imp (ps_set hN hi hx he hs hf) fun D σ H q => set_imp (K := X.K) (tgN_ok i) q
/-- a, b = e -/
theorem ds_asg {tg e : Expr} {pos : Pos} {f : DE} {t : TG} {tgd : Tg} (ht : TgOk g X.K t tgd) (he : PE X e (tD g W f)) (hg : PG X tg t) (hs : swapsWithSole [tg] e pos.line X.env = pure false) (hw : swappedStores [tg] e X.env = pure none)
    (h1 : (assignEach [tg] X.env).map (·.2) = [assign tg X.env]) : PS X (.Assign [tg] e pos) (tS g W (dSet tgd f)) := ps_imp (ps_asg he hg hs hw h1) fun D σ H q => set_imp ht q

/-! ### what is walked -/
/-- J yields the data ds -/
def Yields (g : Gh) (J : It) (A : List Addr) (H : Hp) (ds : List D) : Prop := ∀ (i : Nat) (M A2 : List Addr) (H2 : Hp) (st : Sto), Ext A H A2 H2 → (∀ m ∈ M, m ∈ g.M ∨ H m = none) → StOk (g.wm M) A2 st H2 →
  (i < ds.length → J.go i H2 ∧ ∀ x H', J.yld i H2 x H' → ∃ d, ds[i]? = some d ∧ Ext A2 H2 A2 H' ∧ StOk (g.wm M) A2 st H' ∧ Rep (g.wm M) A2 H' d x) ∧ (ds.length ≤ i → J.stop i H2)
def tY (g : Gh) (W : WX) (src : DA) : TI := fun σ H R => ∃ A env st, Mt g A env st σ H ∧ match src env st with
  | .ok ds st1 => ∀ A1 H1 J, Ext A H A1 H1 → StOk g A1 st1 H1 → Yields g J A1 H1 ds → R J H1
  | .exc c st1 => ∀ A' H' dx, Ext A H A' H' → StOk g A' st1 H' → W (.ref (g.cA c)) dx σ H'
  | .bad => False
theorem pi_imp {tg e : Expr} {w w' : TI} (h : PI X tg e w) (k : ∀ σ H R, w' σ H R → w σ H R) : PI X tg e w' := ⟨fun pins s σ H R I q => h.run pins s σ H R I (k σ H R q)⟩
theorem tY.of {α : Type} {rel : List Addr → Hp → α → V → Prop} {src : DA} {f : En → Sto → Rs α} {h : α → Sto → Rs (List D)} (e : ∀ env st, src env st = (f env st).bind h) {σ : L2.St} {H : Hp} {R : It → Hp → Prop} {Q : V → Hp → Prop}
    (k : ∀ A d st1 v H1 , StOk g A st1 H1 → rel A H1 d v → (∀ ds st2, h d st1 = .ok ds st2 → st2 = st1) ∧ (∀ ds, h d st1 = .ok ds st1 → (∀ J, Yields g J A H1 ds → R J H1) → Q v H1) ∧ (∀ c st2, h d st1 ≠ .exc c st2))
    (q : tY g W src σ H R) : tR g W rel f σ H Q := by
  obtain ⟨A, env, st, M, q⟩ := q
  rw [e] at q
  refine ⟨A, env, st, M, ?_⟩
  cases ef : f env st with
  | ok d st1 =>
    rw [ef, Rs.bind_ok] at q
    intro A1 v H1 x s r
    obtain ⟨k1, k2, k3⟩ := k A1 d st1 v H1 s r
    cases eh : h d st1 with
    | ok ds st2 =>
      have := k1 ds st2 eh
      subst this
      rw [eh] at q
      exact k2 ds eh fun J y => q A1 H1 J x s y
    | exc c st2 => exact absurd eh (k3 c st2)
    | bad => rw [eh] at q; exact q.elim
  | exc c st1 => rw [ef] at q; exact q
  | bad => rw [ef] at q; exact q
/-- a list, a tuple by value -/
def asL : D → Sto → Rs (List D)
  | .lst ds, st => .ok ds st
  | _, _ => .bad
def asT : D → Sto → Rs (List D)
  | .tup ds, st => .ok ds st
  | _, _ => .bad
def dIterL (f : DE) : DA := fun env st => (f env st).bind asL
def dIterT (f : DE) : DA := fun env st => (f env st).bind asT
theorem yields_lst {A : List Addr} {H : Hp} {ds : List D} {vs : List V} {a : Addr} (h : H a = some (.lst vs)) (na : a ∉ A ∧ a ∉ g.M) (r : Reps g A H ds vs) : Yields g (Itl g.K a) A H ds := fun i M A2 H2 st x hM s => by
  have h2 := (x.keep a _ na.1 h).2
  have hl := r.len
  refine ⟨fun hi => ⟨⟨vs, vs[i]'(by omega), SqL.of h2, by simp⟩, fun v H' y => ?_⟩, fun hi => ⟨vs, SqL.of h2, by omega⟩⟩
  obtain ⟨e, y⟩ := y
  subst e
  obtain ⟨d, e1, e2⟩ := ((r.wm hM).ext x).get' (y vs (SqL.of h2))
  exact ⟨d, e1, .refl _ _, s, e2⟩
theorem yields_tup {A : List Addr} {H : Hp} {ds : List D} {vs : List V} {a : Addr} (h : H a = some (.tup vs)) (na : a ∉ A) (r : Reps g A H ds vs) : Yields g (Itt g.K a) A H ds := fun i M A2 H2 st x hM s => by
  have h2 := (x.keep a _ na h).2
  have hl := r.len
  refine ⟨fun hi => ⟨⟨vs, vs[i]'(by omega), SqT.of h2, by simp⟩, fun v H' y => ?_⟩, fun hi => ⟨vs, SqT.of h2, by omega⟩⟩
  obtain ⟨e, y⟩ := y
  subst e
  obtain ⟨d, e1, e2⟩ := ((r.wm hM).ext x).get' (y vs (SqT.of h2))
  exact ⟨d, e1, .refl _ _, s, e2⟩
theorem rep_tup_inv' {A : List Addr} {H : Hp} {ds : List D} {v : V} (r : Rep g A H (.tup ds) v) : ∃ a vs, v = .ref a ∧ H a = some (.tup vs) ∧ a ∉ A ∧ Reps g A H ds vs := by
  unfold Rep at r; exact r
theorem di_list {tg e : Expr} {f : DE} (hK : g.K = X.K) (he : PE X e (tD g W f)) : PI X tg e (tY g W (dIterL f)) :=
  pi_imp (pi_list he) fun σ H R q => tY.of (rel := Rep g) (fun _ _ => rfl) (fun A d st1 v H1 s r => by
    unfold asL
    cases d with
    | lst ds =>
      refine ⟨fun _ _ e => by cases e; rfl, fun ds' e k => ?_, fun _ _ e => (nomatch e)⟩
      cases e
      obtain ⟨a, vs, rfl, h, na, rr⟩ := rep_lst_inv r
      exact ⟨a, rfl, ⟨vs, SqL.of h⟩, k _ (hK ▸ yields_lst h na rr)⟩
    | _ => exact ⟨fun _ _ e => (nomatch e), fun _ e => (nomatch e), fun _ _ e => (nomatch e)⟩) q
theorem di_tup {tg e : Expr} {f : DE} (hK : g.K = X.K) (he : PE X e (tD g W f)) : PI X tg e (tY g W (dIterT f)) :=
  pi_imp (pi_tup he) fun σ H R q => tY.of (rel := Rep g) (fun _ _ => rfl) (fun A d st1 v H1 s r => by
    unfold asT
    cases d with
    | tup ds =>
      refine ⟨fun _ _ e => by cases e; rfl, fun ds' e k => ?_, fun _ _ e => (nomatch e)⟩
      cases e
      obtain ⟨a, vs, rfl, h, na, rr⟩ := rep_tup_inv' r
      exact ⟨a, rfl, ⟨vs, SqT.of h⟩, k _ (hK ▸ yields_tup h na rr)⟩
    | _ => exact ⟨fun _ _ e => (nomatch e), fun _ e => (nomatch e), fun _ _ e => (nomatch e)⟩) q
/-- the signs of a text -/
def signs (s : Str) : List D := s.cps.toList.map fun c => .str ⟨#[c]⟩
def asS : D → Sto → Rs (List D)
  | .str s, st => .ok (signs s) st
  | _, _ => .bad
def dIterS (f : DE) : DA := fun env st => (f env st).bind asS
theorem SOk.sign {s : Str} (h : SOk s) {c : Nat} (hc : c ∈ s.cps.toList) : SOk ⟨#[c]⟩ :=
  ⟨by show 1 ≤ sizeLine; rw [sizeLine_eq]; omega, fun d hd => by
    have : d = c := by simpa using hd
    rw [this]; exact h.cps c hc⟩
theorem yields_str {A : List Addr} {H : Hp} {z : Str} (ok : SOk z) : Yields g (Its z) A H (signs z) := fun i M A2 H2 st x hM s => by
  unfold signs
  refine ⟨fun hi => ?_, fun hi => ?_⟩
  · have hi' : i < z.cps.size := by simpa using hi
    refine ⟨hi', fun v H' y => ?_⟩
    obtain ⟨e, c, hc, hv⟩ := y
    subst e
    subst hv
    refine ⟨_, by simp [hc], .refl _ _, s, rep_str (ok.sign ?_)⟩
    rw [← Array.getElem?_toList] at hc
    exact List.mem_of_getElem? hc
  · show z.cps.size ≤ i
    simpa using hi
theorem di_str {tg e : Expr} {f : DE} (he : PE X e (tD g W f)) : PI X tg e (tY g W (dIterS f)) :=
  pi_imp (pi_str he) fun σ H R q => tY.of (rel := Rep g) (fun _ _ => rfl) (fun A d st1 v H1 s r => by
    unfold asS
    cases d with
    | str z =>
      refine ⟨fun _ _ e => by cases e; rfl, fun ds' e k => ?_, fun _ _ e => (nomatch e)⟩
      cases e
      obtain ⟨rfl, ok⟩ := rep_str_inv r
      exact ⟨z, rfl, k _ (yields_str ok)⟩
    | _ => exact ⟨fun _ _ e => (nomatch e), fun _ e => (nomatch e), fun _ _ e => (nomatch e)⟩) q
/-- range(n) -/
def rngD (n : Nat) : List D := (List.range n).map fun (i : Nat) => .int (i : Int)
def asR : D → Sto → Rs (List D)
  | .int j, st => if j < 2 ^ 62 ∧ -(2 ^ 62) ≤ j then .ok (rngD j.toNat) st else .bad
  | _, _ => .bad
def dIterR (f : DE) : DA := fun env st => (f env st).bind asR
theorem yields_rng {A : List Addr} {H : Hp} {n : Nat} : Yields g (Itr 0 n) A H (rngD n) := fun i M A2 H2 st x hM s => by
  unfold rngD
  refine ⟨fun hi => ?_, fun hi => ?_⟩
  · have hi' : i < n := by simpa using hi
    refine ⟨hi', fun v H' y => ?_⟩
    obtain ⟨e, hv⟩ := y
    subst e
    subst hv
    refine ⟨.int (i : Int), by simp [hi'], .refl _ _, s, ?_⟩
    rw [Int.zero_add]
    exact rep_int _
  · show n ≤ i
    simpa using hi
theorem di_range {tg e : Expr} {f : DE} {p pos : Pos} (hg : Gl X "range") (hm : X.mg "range" = none) (he : PE X e (tD g W f)) (hs : starEach [e] X.env = [(false, eval e X.env)]) : PI X tg (.Call (.Name "range" p) [e] [] pos) (tY g W (dIterR f)) :=
  pi_imp (pi_range1 hg hm (pa_cons he pa_nil (hs.trans rfl)) hs) fun σ H R q => by
    refine (tY.of (rel := Rep g) (f := f) (h := asR) (fun _ _ => rfl) (Q := fun v H1 => ∃ j : Int, [v] = [.int j] ∧ -(2 ^ 62) ≤ j ∧ j < 2 ^ 62 ∧ R (Itr 0 j.toNat) H1) (fun A d st1 v H1 s r => ?_) q)
    unfold asR
    cases d with
    | int j =>
      refine ⟨fun _ _ e => ?_, fun ds' e k => ?_, fun _ _ e => ?_⟩
      · dsimp only at e
        split at e
        · cases e; rfl
        · cases e
      · dsimp only at e
        split at e
        · rename_i hc
          cases e
          rw [rep_int_inv r]
          exact ⟨j, rfl, hc.2, hc.1, k _ yields_rng⟩
        · cases e
      · dsimp only at e
        split at e <;> cases e
    | _ => exact ⟨fun _ _ e => (nomatch e), fun _ e => (nomatch e), fun _ _ e => (nomatch e)⟩

/-! ### for -/
def loopL (tg : Tg) (b : DS) : List D → En → Sto → SR
  | [], env, st => .nx env st
  | d :: ds, env, st => match tg d env with
    | none => .bad
    | some env1 => match b env1 st with
      | .nx e s => loopL tg b ds e s
      | .ct e s => loopL tg b ds e s
      | .bk e s => .nx e s
      | .rt d s => .rt d s
      | .exc c e s => .exc c e s
      | .bad => .bad
def dFor (src : DA) (tg : Tg) (b : DS) : DS := fun env st => (src env st).thn env fun ds st => loopL tg b ds env st
theorem drop_get {α : Type} {l : List α} {i : Nat} {x : α} (h : l[i]? = some x) : l.drop i = x :: l.drop (i + 1) := by
  obtain ⟨hi, e⟩ := List.getElem?_eq_some_iff.mp h
  rw [List.drop_eq_getElem_cons hi, e]
theorem ds_for {tg iter : Expr} {body : List Stmt} {pos : Pos} {src : DA} {t : TG} {tgd : Tg} {b : DS} (hp : PassesOwn (model X.prog X.w) X.A X.env X.xe) (hc : X.calm = true) (hi : PI X tg iter (tY g W src)) (ht : TgOk g X.K t tgd) (hg : PG X tg t) (hb : PSs X body (tS g W b))
    (hs : ∀ x, foldedSetIterable iter X.env x = pure x) : PS X (.For tg iter body [] pos) (tS g W (dFor src tgd b)) :=
  ps_imp (ps_for hp hc hi hg hb hs) fun D σ H q => by
    obtain ⟨A, env, st, M, q⟩ := q
    refine ⟨A, env, st, M, ?_⟩
    unfold dFor at q
    cases e : src env st with
    | exc c st1 =>
      rw [e] at q
      exact fun A1 H1 dx x s => q A1 σ H1 dx x ⟨M.env.ext x, s⟩
    | bad => rw [e] at q; exact q
    | ok ds st1 =>
      rw [e] at q
      intro A1 H1 J x s Y
      have q1 : SPd g W D A1 H1 (loopL tgd b ds env st1) := SPd.ext x q
      refine ⟨fun i m σ' H' => m = ds.length - i ∧ i ≤ ds.length ∧ ∃ A2 env2 st2, Ext A1 H1 A2 H' ∧ Mt g A2 env2 st2 σ' H' ∧ SPd g W D A2 H' (loopL tgd b (ds.drop i) env2 st2), ⟨ds.length, by simp, Nat.zero_le _, A1, env, st1, .refl _ _, ⟨M.env.ext x, s⟩, by rw [List.drop_zero]; exact q1⟩, ?_⟩
      rintro i m σ' H' ⟨rfl, hi, A2, env2, st2, x2, M2, q2⟩
      obtain ⟨y1, y2⟩ := Y i g.M A2 H' st2 x2 (fun m hm => .inl hm) M2.sto
      by_cases hlt : i < ds.length
      · obtain ⟨go, yl⟩ := y1 hlt
        refine .inr ⟨go, fun σ'' H'' => ∃ A3 env3 st3, Ext A1 H1 A3 H'' ∧ Mt g A3 env3 st3 σ'' H'' ∧ SPd g W D A3 H'' (loopL tgd b (ds.drop (i + 1)) env3 st3), fun σ'' H'' n => ⟨ds.length - (i + 1), by omega, rfl, hlt, n⟩, fun v H'' y => ?_⟩
        obtain ⟨d, ed, x3, s3, r3⟩ := yl v H'' y
        rw [drop_get ed] at q2
        unfold loopL at q2
        split at q2
        · exact q2.elim
        · rename_i env3 et
          have M3 : Mt g A2 env2 st2 σ' H'' := ⟨M2.env.ext x3, s3⟩
          refine ht A2 st2 σ' H'' env2 env3 d v _ M3 r3 et fun σ4 M4 => ?_
          have q3 := SPd.ext x3 q2
          refine ⟨A2, env3, st2, M4, ?_⟩
          have x4 := x2.trans x3
          cases eb : b env3 st2 with
          | nx e s => rw [eb] at q3; exact fun A5 σ5 H5 x5 M5 => ⟨A5, e, s, x4.trans x5, M5, SPd.ext x5 q3⟩
          | ct e s => rw [eb] at q3; exact fun A5 σ5 H5 x5 M5 => ⟨A5, e, s, x4.trans x5, M5, SPd.ext x5 q3⟩
          | bk e s => rw [eb] at q3; exact q3
          | rt d s => rw [eb] at q3; exact q3
          | exc c e s => rw [eb] at q3; exact q3
          | bad => rw [eb] at q3; exact q3
      · refine .inl ⟨y2 (by omega), ?_⟩
        rw [List.drop_of_length_le (by omega)] at q2
        exact q2 A2 σ' H' (.refl _ _) M2

/-! ### while, by so many turns at most -/
def loopW (t : DT) (b : DS) : Nat → En → Sto → SR
  | 0, _, _ => .bad
  | n + 1, env, st => (t env st).thn env fun c st => if c = true then (match b env st with
      | .nx e s => loopW t b n e s
      | .ct e s => loopW t b n e s
      | .bk e s => .nx e s
      | .rt d s => .rt d s
      | .exc c e s => .exc c e s
      | .bad => .bad) else .nx env st
def dWhile (m : Nat) (t : DT) (b : DS) : DS := fun env st => loopW t b m env st
theorem ds_while (m : Nat) {c : Expr} {body : List Stmt} {pos : Pos} {t : DT} {b : DS} (hp : PassesOwn (model X.prog X.w) X.A X.env X.xe) (hc : PT X c (tT g W t)) (hb : PSs X body (tS g W b)) : PS X (.While c body [] pos) (tS g W (dWhile m t b)) :=
  ps_imp (ps_while hp hc hb) fun D σ H q => by
    obtain ⟨A, env, st, M, q⟩ := q
    refine ⟨fun n σ' H' => ∃ A' env' st', Mt g A' env' st' σ' H' ∧ SPd g W D A' H' (loopW t b n env' st'), ⟨m, A, env, st, M, q⟩, ?_⟩
    rintro n σ' H' ⟨A', env', st', M', q'⟩
    cases n with
    | zero => exact q'.elim
    | succ n =>
      unfold loopW at q'
      refine (tS.bind (rel := relB) M' q').mono fun v H1 ⟨A1, d, st1, _, x, s, r, M1, q1⟩ => ?_
      have r' : d = v := r
      subst r'
      cases d with
      | false => rw [if_neg Bool.false_ne_true] at q1 ⊢; exact q1 A1 σ' H1 (.refl _ _) M1
      | true =>
        rw [if_pos rfl] at q1 ⊢
        refine ⟨fun σ'' H'' => ∃ A' env' st', Mt g A' env' st' σ'' H'' ∧ SPd g W D A' H'' (loopW t b n env' st'), fun σ'' H'' z => ⟨n, by omega, z⟩, A1, env', st1, M1, ?_⟩
        cases eb : b env' st1 with
        | nx e s => rw [eb] at q1; exact fun A5 σ5 H5 x5 M5 => ⟨A5, e, s, M5, SPd.ext x5 q1⟩
        | ct e s => rw [eb] at q1; exact fun A5 σ5 H5 x5 M5 => ⟨A5, e, s, M5, SPd.ext x5 q1⟩
        | bk e s => rw [eb] at q1; exact q1
        | rt d s => rw [eb] at q1; exact q1
        | exc c e s => rw [eb] at q1; exact q1
        | bad => rw [eb] at q1; exact q1
end
end DL

/-! DL7: comprehensions, defs and their calls. -/
namespace DL
open PySem L2

/-- nothing raised -/
def noX {α : Type} (r : Rs α) : Rs α := match r with
  | .ok a st => .ok a st
  | _ => .bad
@[simp] theorem noX_ok {α : Type} (a : α) (st : Sto) : noX (.ok a st) = .ok a st := nrfl rfl
@[simp] theorem noX_exc {α : Type} (c : Nat) (st : Sto) : noX (.exc c st : Rs α) = .bad := nrfl rfl
@[simp] theorem noX_bad {α : Type} : noX (.bad : Rs α) = .bad := nrfl rfl
def wipeE (env : En) : List Nat → En
  | [] => env
  | i :: is => (wipeE env is).set i none
def compL (tg : Tg) (t : DT) (f : DE) (env : En) : List D → Sto → Rs (List D)
  | [], st => .ok [] st
  | d :: ds, st => match tg d env with
    | none => .bad
    | some env1 => (noX (t env1 st)).bind fun c st => if c = true then (noX (f env1 st)).bind fun y st => (compL tg t f env ds st).bind fun ys st => .ok (y :: ys) st else compL tg t f env ds st
def dComp (vs : List Nat) (src : DA) (tg : Tg) (t : DT) (f : DE) : DE := fun env st => (src env st).bind fun ds st => (compL tg t f (wipeE env vs) ds st).bind fun ys st => if ys.length ≤ 1000000 then .ok (.lst ys) st else .bad
def dYes : DT := fun _ st => .ok true st
abbrev W0 : WX := fun _ _ _ _ => False
theorem EnOk.gone {g : Gh} {A : List Addr} {env : En} {σ : L2.St} {H : Hp} (e : EnOk g A env σ H) (i : Nat) : EnOk g A (env.set i none) (σ.set i none) H := by
  refine ⟨by simp [e.len], fun j x h => ?_⟩
  by_cases hj : i = j
  · subst hj
    have hi : i < env.length := by
      have := (List.getElem?_eq_some_iff.mp h).1
      simpa using this
    rw [List.getElem?_set_self hi] at h
    cases h
  · rw [List.getElem?_set_ne hj] at h
    obtain ⟨w, a, b⟩ := e.slot j x h
    exact ⟨w, by rw [List.getElem?_set_ne hj]; exact a, b⟩
theorem EnOk.wipe {g : Gh} {A : List Addr} {env : En} {σ : L2.St} {H : Hp} (e : EnOk g A env σ H) : ∀ vs : List Nat, EnOk g A (wipeE env vs) (wipe σ vs) H
  | [] => e
  | i :: vs => (EnOk.wipe e vs).gone i
theorem EnOk.res {g : Gh} {A : List Addr} {env : En} {σ : L2.St} {H : Hp} {p : Addr} {o : HO} (hp : H p = none) (e : EnOk g A env σ H) : EnOk (g.push p) A env σ (upd H p o) :=
  ⟨e.len, fun i d h => let ⟨v, a, b⟩ := e.slot i d h; ⟨v, a, b.res hp⟩⟩
theorem EnOk.unres {g : Gh} {A : List Addr} {env : En} {σ : L2.St} {H : Hp} {p : Addr} (e : EnOk (g.push p) A env σ H) : EnOk g A env σ H :=
  ⟨e.len, fun i d h => let ⟨v, a, b⟩ := e.slot i d h; ⟨v, a, b.unres⟩⟩
theorem EnOk.more {g : Gh} {A : List Addr} {env : En} {σ : L2.St} {H : Hp} {p : Addr} {xs ys : List V} (hp : H p = some (.lst xs)) (hm : p ∈ g.M) (e : EnOk g A env σ H) : EnOk g A env σ (upd H p (.lst ys)) :=
  ⟨e.len, fun i d h => let ⟨v, a, b⟩ := e.slot i d h; ⟨v, a, b.more hp hm⟩⟩
/-- a target of a comprehension: it touches only the block's own names -/
def TgOwn (t : TG) (vs : List Nat) : Prop := ∀ (v : V) (σ : L2.St) (H : Hp) (Q : L2.St → Hp → Prop), t v σ H Q → t v σ H fun σ' H' => wipe σ' vs = wipe σ vs ∧ Q σ' H'
theorem wipe_set (σ : L2.St) (i : Nat) (x : Option V) : ∀ vs : List Nat, i ∈ vs → wipe (σ.set i x) vs = wipe σ vs
  | [], h => by cases h
  | j :: vs, h => by
    show (wipe (σ.set i x) vs).set j none = (wipe σ vs).set j none
    by_cases e : i ∈ vs
    · rw [wipe_set σ i x vs e]
    · have hj : i = j := by
        rcases List.mem_cons.mp h with z | z
        · exact z
        · exact absurd z e
      subst hj
      have : ∀ vs : List Nat, i ∉ vs → wipe (σ.set i x) vs = (wipe σ vs).set i x := by
        intro vs
        induction vs with
        | nil => intro _; rfl
        | cons k vs ih =>
          intro hk
          show (wipe (σ.set i x) vs).set k none = ((wipe σ vs).set k none).set i x
          rw [ih fun m => hk (List.mem_cons_of_mem _ m), List.set_comm _ _ (fun z => hk (by rw [z]; exact List.mem_cons_self))]
      rw [this vs e, List.set_set]
theorem gName_own {i : Nat} {vs : List Nat} (h : i ∈ vs) : TgOwn (gName i) vs := fun v σ H Q q => ⟨wipe_set σ i _ vs h, q⟩
theorem gNames_own {vs : List Nat} : ∀ {is : List Nat}, (∀ i ∈ is, i ∈ vs) → ∀ (ws : List V) (σ : L2.St) (H : Hp) (Q : L2.St → Hp → Prop), gNames is ws σ H Q → gNames is ws σ H fun σ' H' => wipe σ' vs = wipe σ vs ∧ Q σ' H'
  | [], _, ws, σ, H, Q, q => ⟨q.1, rfl, q.2⟩
  | i :: is, h, ws, σ, H, Q, q => by
    obtain ⟨v, r, e, q⟩ := q
    refine ⟨v, r, e, ?_⟩
    have := gNames_own (vs := vs) (is := is) (fun j hj => h j (List.mem_cons_of_mem _ hj)) r _ _ _ q
    have e2 : wipe (σ.set i (some v)) vs = wipe σ vs := wipe_set σ i _ vs (h i List.mem_cons_self)
    rw [e2] at this
    exact this
theorem gTup_own {K : PySem.W.Frag} {n : Nat} {vs is : List Nat} (h : ∀ i ∈ is, i ∈ vs) : TgOwn (gTup K n (gNames is)) vs := fun v σ H Q q => by
  obtain ⟨a, xs, e, h1, h2, q⟩ := q
  exact ⟨a, xs, e, h1, h2, gNames_own h xs σ H Q q⟩
section
variable {X : Cx} {g : Gh} {W : WX}
theorem dts_nil {Y : Cx} : PTs Y [] (tT g W0 dYes) := ⟨fun pins s σ H Q I h => by
  obtain ⟨A, env, st, M, q⟩ := h
  exact pts_nil.run pins s σ H Q I (q A true H (.refl _ _) M.sto rfl)⟩
theorem dts_one {Y : Cx} {c : Expr} {t : DT} (h : PT Y c (tT g W0 t)) : PTs Y [c] (tT g W0 t) := pts_one h
/-- what a block's part tells -/
theorem noX_inv {α : Type} {r : Rs α} {a : α} {st : Sto} (h : noX r = .ok a st) : r = .ok a st := by
  cases r with
  | ok b s => exact h
  | exc c s => cases h
  | bad => cases h
theorem compL_len {tg : Tg} {t : DT} {f : DE} {env : En} : ∀ {ds : List D} {st st' : Sto} {ys : List D}, compL tg t f env ds st = .ok ys st' → ys.length ≤ ds.length
  | [], st, st', ys, h => by cases h; exact Nat.le_refl _
  | d :: ds, st, st', ys, h => by
    unfold compL at h
    split at h
    · cases h
    · rename_i env1 _
      cases e : noX (t env1 st) with
      | exc c s => rw [e] at h; cases h
      | bad => rw [e] at h; cases h
      | ok c s =>
        rw [e, Rs.bind_ok] at h
        cases c with
        | false =>
          rw [if_neg Bool.false_ne_true] at h
          have := compL_len h
          rw [List.length_cons]; omega
        | true =>
          rw [if_pos rfl] at h
          cases e2 : noX (f env1 s) with
          | exc c s => rw [e2] at h; cases h
          | bad => rw [e2] at h; cases h
          | ok y s2 =>
            rw [e2, Rs.bind_ok] at h
            cases e3 : compL tg t f env ds s2 with
            | exc c s => rw [e3] at h; cases h
            | bad => rw [e3] at h; cases h
            | ok zs s3 =>
              rw [e3, Rs.bind_ok] at h
              cases h
              have := compL_len e3
              rw [List.length_cons, List.length_cons]; omega
theorem wipe_set' (σ : L2.St) (i : Nat) (vs : List Nat) : wipe (σ.set i none) vs = (wipe σ vs).set i none := by
  induction vs with
  | nil => rfl
  | cons k vs ih =>
    show (wipe (σ.set i none) vs).set k none = ((wipe σ vs).set k none).set i none
    rw [ih]
    by_cases e : i = k
    · subst e; rfl
    · rw [List.set_comm _ _ e]
theorem wipe_wipe (σ : L2.St) : ∀ vs : List Nat, wipe (wipe σ vs) vs = wipe σ vs
  | [] => rfl
  | i :: vs => by
    show (wipe ((wipe σ vs).set i none) vs).set i none = (wipe σ vs).set i none
    rw [wipe_set', wipe_wipe σ vs, List.set_set]
theorem noX_exc_no {α : Type} {r : Rs α} {c : Nat} {s : Sto} : noX r ≠ .exc c s := by
  cases r <;> intro h <;> cases h
theorem compL_noexc {tg : Tg} {t : DT} {f : DE} {env : En} : ∀ (ds : List D) (st : Sto) (c : Nat) (st2 : Sto), compL tg t f env ds st ≠ .exc c st2
  | [], st, c, st2, h => by cases h
  | d :: ds, st, c, st2, h => by
    unfold compL at h
    split at h
    · cases h
    · rename_i env1 _
      cases e : noX (t env1 st) with
      | exc c s => exact noX_exc_no e
      | bad => rw [e] at h; cases h
      | ok b s =>
        rw [e, Rs.bind_ok] at h
        cases b with
        | false => rw [if_neg Bool.false_ne_true] at h; exact compL_noexc _ _ _ _ h
        | true =>
          rw [if_pos rfl] at h
          cases e2 : noX (f env1 s) with
          | exc c s => exact noX_exc_no e2
          | bad => rw [e2] at h; cases h
          | ok y s2 =>
            rw [e2, Rs.bind_ok] at h
            cases e3 : compL tg t f env ds s2 with
            | exc c s => exact compL_noexc _ _ _ _ e3
            | bad => rw [e3] at h; cases h
            | ok zs s3 => rw [e3] at h; cases h
/-- one turn told -/
theorem compL_step {tg : Tg} {t : DT} {f : DE} {env : En} {d : D} {ds zs : List D} {st st2 : Sto} (h : compL tg t f env (d :: ds) st = .ok zs st2) : ∃ env1 b s, tg d env = some env1 ∧ t env1 st = .ok b s ∧
    ((b = false ∧ compL tg t f env ds s = .ok zs st2) ∨ ∃ y s2 ys, b = true ∧ f env1 s = .ok y s2 ∧ compL tg t f env ds s2 = .ok ys st2 ∧ zs = y :: ys) := by
  unfold compL at h
  split at h
  · cases h
  · rename_i env1 he
    cases e : noX (t env1 st) with
    | exc c s => exact absurd e noX_exc_no
    | bad => rw [e] at h; cases h
    | ok b s =>
      rw [e, Rs.bind_ok] at h
      refine ⟨env1, b, s, he, noX_inv e, ?_⟩
      cases b with
      | false => rw [if_neg Bool.false_ne_true] at h; exact .inl ⟨rfl, h⟩
      | true =>
        rw [if_pos rfl] at h
        cases e2 : noX (f env1 s) with
        | exc c s => exact absurd e2 noX_exc_no
        | bad => rw [e2] at h; cases h
        | ok y s2 =>
          rw [e2, Rs.bind_ok] at h
          cases e3 : compL tg t f env ds s2 with
          | exc c s => rw [e3] at h; cases h
          | bad => rw [e3] at h; cases h
          | ok zs s3 =>
            rw [e3, Rs.bind_ok] at h
            cases h
            exact .inr ⟨y, s2, zs, rfl, noX_inv e2, e3, rfl⟩
/-- the reading of the loop -/
theorem comp_run {src : DA} {t : TG} {tgd : Tg} {tt : DT} {f : DE} {vs : List Nat} {tt' : TT} {te' : TE} (ht : ∀ M, TgOk (g.wm M) X.K t tgd) (own : TgOwn t vs) (htt : ∀ M σ H Q, tT (g.wm M) W0 tt σ H Q → tt' σ H Q) (hte : ∀ M σ H Q, tD (g.wm M) W0 f σ H Q → te' σ H Q)
    {σ : L2.St} {H : Hp} {Q : VK} (q : tD g W (dComp vs src tgd tt f) σ H Q) : tLc (tY g W src) t tt' te' vs σ H Q := by
  obtain ⟨A, env, st, M, q⟩ := q
  refine ⟨A, env, st, M, ?_⟩
  unfold dComp at q
  cases e : src env st with
  | exc c st1 => rw [e] at q; exact q
  | bad => rw [e] at q; exact q
  | ok ds st1 =>
    rw [e, Rs.bind_ok] at q
    intro A1 H1 J x1 s1 Y P hP
    cases eL : compL tgd tt f (wipeE env vs) ds st1 with
    | bad => rw [eL] at q; exact q.elim
    | exc c st2 => exact absurd eL (compL_noexc _ _ _ _)
    | ok ys st2 =>
      rw [eL, Rs.bind_ok] at q
      split at q
      · rename_i hlen
        have EnW : EnOk (g.push P) A1 (wipeE env vs) (wipe σ vs) (upd H1 P (.lst [])) := ((M.env.ext x1).wipe vs).res hP
        have hM : ∀ m ∈ P :: g.M, m ∈ g.M ∨ H1 m = none := fun m hm => (List.mem_cons.mp hm).elim (fun z => .inr (z ▸ hP)) .inl
        refine ⟨fun i m H' => m = ds.length - i ∧ i ≤ ds.length ∧ ∃ A2 st3 acc accd zs, Ext A1 H1 A2 H' ∧ StOk (g.push P) A2 st3 H' ∧ H' P = some (.lst acc) ∧ Reps (g.push P) A2 H' accd acc ∧ EnOk (g.push P) A2 (wipeE env vs) (wipe σ vs) H' ∧
            compL tgd tt f (wipeE env vs) (ds.drop i) st3 = .ok zs st2 ∧ accd ++ zs = ys,
          ⟨ds.length, by simp, Nat.zero_le _, A1, st1, [], [], ys, ext_val s1 hP, s1.push hP, upd_same, .nil, EnW, by rw [List.drop_zero]; exact eL, rfl⟩, ?_⟩
        rintro i m H' ⟨rfl, hi, A2, st3, acc, accd, zs, x2, s2, hacc, racc, en2, eC, ey⟩
        have nP := (s2.res P List.mem_cons_self).1
        obtain ⟨y1, y2⟩ := Y i (P :: g.M) A2 H' st3 x2 hM s2
        by_cases hlt : i < ds.length
        · obtain ⟨go, yl⟩ := y1 hlt
          refine .inr ⟨go, fun H'' => ∃ A3 st4 acc' accd' zs', Ext A1 H1 A3 H'' ∧ StOk (g.push P) A3 st4 H'' ∧ H'' P = some (.lst acc') ∧ Reps (g.push P) A3 H'' accd' acc' ∧ EnOk (g.push P) A3 (wipeE env vs) (wipe σ vs) H'' ∧ compL tgd tt f (wipeE env vs) (ds.drop (i + 1)) st4 = .ok zs' st2 ∧ accd' ++ zs' = ys,
            fun H'' ⟨A3, st4, acc', accd', zs', n⟩ => ⟨ds.length - (i + 1), by omega, rfl, hlt, A3, st4, acc', accd', zs', n⟩, fun v H'' y => ?_⟩
          obtain ⟨d, ed, x3, s3, r3⟩ := yl v H'' y
          rw [drop_get ed] at eC
          obtain ⟨env1, b, s4, e1, e2, e3⟩ := compL_step eC
          have M3 : Mt (g.push P) A2 (wipeE env vs) st3 (wipe σ vs) H'' := ⟨en2.ext x3, s3⟩
          have hacc3 := (x3.keep P _ nP hacc).2
          have fin := own v (wipe σ vs) H'' (fun σ2 H2 => tt' σ2 H2 fun b H3 => if b = true then te' σ2 H3 fun y H4 => ∃ acc, H4 P = some (.lst acc) ∧ acc.length < sizeLine ∧ (∃ A3 st4 acc' accd' zs', Ext A1 H1 A3 (upd H4 P (.lst (acc ++ [y]))) ∧ StOk (g.push P) A3 st4 (upd H4 P (.lst (acc ++ [y]))) ∧ (upd H4 P (.lst (acc ++ [y]))) P = some (.lst acc') ∧ Reps (g.push P) A3 (upd H4 P (.lst (acc ++ [y]))) accd' acc' ∧ EnOk (g.push P) A3 (wipeE env vs) (wipe σ vs) (upd H4 P (.lst (acc ++ [y]))) ∧ compL tgd tt f (wipeE env vs) (ds.drop (i + 1)) st4 = .ok zs' st2 ∧ accd' ++ zs' = ys)
            else (∃ A3 st4 acc' accd' zs', Ext A1 H1 A3 H3 ∧ StOk (g.push P) A3 st4 H3 ∧ H3 P = some (.lst acc') ∧ Reps (g.push P) A3 H3 accd' acc' ∧ EnOk (g.push P) A3 (wipeE env vs) (wipe σ vs) H3 ∧ compL tgd tt f (wipeE env vs) (ds.drop (i + 1)) st4 = .ok zs' st2 ∧ accd' ++ zs' = ys))
            (ht (P :: g.M) A2 st3 (wipe σ vs) H'' (wipeE env vs) env1 d v _ M3 r3 e1 fun σ2 M2 => ?_)
          · rw [wipe_wipe] at fin
            exact fin
          · refine htt (P :: g.M) _ _ _ ⟨A2, env1, st3, M2, ?_⟩
            rw [e2]
            intro A3 b' H3 x4 s5 eb
            have eb' : b = b' := eb
            subst eb'
            have nP3 := (s5.res P List.mem_cons_self).1
            have hacc4 := (x4.keep P _ nP hacc3).2
            have x5 := (x2.trans x3).trans x4
            rcases e3 with ⟨rfl, e3⟩ | ⟨y', s6, ys', rfl, e4, e5, ez⟩
            · rw [if_neg Bool.false_ne_true]
              exact ⟨A3, s4, acc, accd, zs, x5, s5, hacc4, (racc.ext x3).ext x4, (en2.ext x3).ext x4, e3, ey⟩
            · rw [if_pos rfl]
              refine hte (P :: g.M) _ _ _ ⟨A3, env1, s4, ⟨M2.env.ext x4, s5⟩, ?_⟩
              rw [e4]
              intro A4 w H4 x6 s7 rw'
              have hacc5 := (x6.keep P _ nP3 hacc4).2
              have hl : accd.length = acc.length := racc.len
              have hm : P ∈ (g.push P).M := List.mem_cons_self
              refine ⟨acc, hacc5, ?_, A4, s6, acc ++ [w], accd ++ [y'], ys', ?_, s7.more hacc5 hm, upd_same, ?_, ?_, e5, ?_⟩
              · rw [sizeLine_eq]
                have := congrArg List.length ey
                rw [ez, List.length_append, List.length_cons] at this
                omega
              · have x7 := x5.trans x6
                exact ⟨x7.pre, fun c o n q => ⟨(x7.keep c o n q).1, by rw [upd_ne (ne_of_none q hP)]; exact (x7.keep c o n q).2⟩⟩
              · exact ((((racc.ext x3).ext x4).ext x6).more hacc5 hm).append (.cons (rw'.more hacc5 hm) .nil)
              · exact (((en2.ext x3).ext x4).ext x6).more hacc5 hm
              · rw [List.append_assoc, ← ey, ez]; rfl
        · refine .inl ⟨y2 (by omega), ?_⟩
          rw [List.drop_of_length_le (by omega)] at eC
          cases eC
          rw [List.append_nil] at ey
          subst ey
          refine q A2 (.ref P) H' (x1.trans x2) s2.pop ?_
          unfold Rep
          exact ⟨P, acc, rfl, hacc, ⟨nP, s1.new_res hP⟩, racc.unres⟩
      · exact q.elim
end
end DL

/-! DL8: comprehensions as rules, defs, methods, instances. -/
namespace DL
open PySem PySem.Spec PyProof.Rows L2

section
variable {X : Cx} {g : Gh} {W : WX}
theorem de_lc {elt tg iter : Expr} {ifs : List Expr} {scope : Scope} {own : List (Str × Nat)} {pos : Pos} {src : DA} {t : TG} {tgd : Tg} {tt : DT} {f : DE} (hc : X.calm = true) (hN : X.N.Nodup) (hi : PI X tg iter (tY g W src)) (ok : BlkOk X.N X.env.scope scope own)
    (ht : ∀ M, TgOk (g.wm M) X.K t tgd) (hown : TgOwn t (own.map (·.2)))
    (hg : ∀ (s : Shared) (H : Hp) (C : Addr) (cl : List (Str × Addr)) (fp : List Addr), PG (X.blk s H scope (compEnvC scope cl C X.env) fp) tg t)
    (htt : ∀ (M : List Addr) (s : Shared) (H : Hp) (C : Addr) (cl : List (Str × Addr)) (fp : List Addr), PTs (X.blk s H scope (compEnvC scope cl C X.env) fp) ifs (tT (g.wm M) W0 tt))
    (he : ∀ (M : List Addr) (s : Shared) (H : Hp) (C : Addr) (cl : List (Str × Addr)) (fp : List Addr), PE (X.blk s H scope (compEnvC scope cl C X.env) fp) elt (tD (g.wm M) W0 f))
    (hs : ∀ x, foldedSetIterable iter X.env x = pure x) : PE X (.ListComp elt [⟨tg, iter, ifs, 0⟩] scope pos) (tD g W (dComp (own.map (·.2)) src tgd tt f)) :=
  pe_imp (pe_lc (tt := fun σ H Q => ∃ M, tT (g.wm M) W0 tt σ H Q) (te := fun σ H Q => ∃ M, tD (g.wm M) W0 f σ H Q) hc hN hi ok hg
    (fun s H C cl fp => ⟨fun pins s' σ H' Q I ⟨M, q⟩ => (htt M s H C cl fp).run pins s' σ H' Q I q⟩)
    (fun s H C cl fp => ⟨fun pins s' σ H' Q I ⟨M, q⟩ => (he M s H C cl fp).run pins s' σ H' Q I q⟩) hs) fun σ H Q q =>
    comp_run ht hown (fun M σ H Q q => ⟨M, q⟩) (fun M σ H Q q => ⟨M, q⟩) q
theorem ds_setLc {y : Str} {py : Pos} {elt tg iter : Expr} {ifs : List Expr} {scope : Scope} {own : List (Str × Nat)} {pos spos : Pos} {src : DA} {t : TG} {tgd : Tg} {tt : DT} {f : DE} (i : Nat) (hc : X.calm = true) (hN : X.N.Nodup) (hy : X.N[i]? = some y) (hyl : X.env.scope.names.lookup y = some .local)
    (hsw : swapsWith (.ListComp elt [⟨tg, iter, ifs, 0⟩] scope pos) (some (.Name y py)) spos.line X.env = pure true) (hi : PI X tg iter (tY g W src)) (ok : BlkOk X.N X.env.scope scope own)
    (ht : ∀ M, TgOk (g.wm M) X.K t tgd) (hown : TgOwn t (own.map (·.2)))
    (hg : ∀ (s : Shared) (H : Hp) (C : Addr) (cl : List (Str × Addr)) (fp : List Addr), PG (X.blk s H scope (compEnvC scope cl C X.env) fp) tg t)
    (htt : ∀ (M : List Addr) (s : Shared) (H : Hp) (C : Addr) (cl : List (Str × Addr)) (fp : List Addr), PTs (X.blk s H scope (compEnvC scope cl C X.env) fp) ifs (tT (g.wm M) W0 tt))
    (he : ∀ (M : List Addr) (s : Shared) (H : Hp) (C : Addr) (cl : List (Str × Addr)) (fp : List Addr), PE (X.blk s H scope (compEnvC scope cl C X.env) fp) elt (tD (g.wm M) W0 f))
    (hs : ∀ x, foldedSetIterable iter X.env x = pure x) : PS X (.Assign [.Name y py] (.ListComp elt [⟨tg, iter, ifs, 0⟩] scope pos) spos) (tS g W (dSet (tgN i) (dComp (own.map (·.2)) src tgd tt f))) :=
  ps_imp (ps_setLc (tt := fun σ H Q => ∃ M, tT (g.wm M) W0 tt σ H Q) (te := fun σ H Q => ∃ M, tD (g.wm M) W0 f σ H Q) hc hN hy hyl hsw hi ok hg
    (fun s H C cl fp => ⟨fun pins s' σ H' Q I ⟨M, q⟩ => (htt M s H C cl fp).run pins s' σ H' Q I q⟩)
    (fun s H C cl fp => ⟨fun pins s' σ H' Q I ⟨M, q⟩ => (he M s H C cl fp).run pins s' σ H' Q I q⟩) hs) fun D σ H q => by
    have q' := set_imp (g := g) (W := W) (K := X.K) (tgN_ok i) q
    exact comp_run ht hown (fun M σ H Q q => ⟨M, q⟩) (fun M σ H Q q => ⟨M, q⟩) q'

/-! ### what a def is worth -/
abbrev Fn := List D → Sto → Rs D
def spD (g : Gh) (n : Nat) (F : Fn) : Sp := fun vs H Q E => ∃ M A st ds, StOk (g.wm M) A st H ∧ Reps (g.wm M) A H ds vs ∧ ds.length = n ∧ RP (g.wm M) (fun cls d _ H => E cls d H) (Rep (g.wm M)) A [] H (F ds st) Q
/-- F' tells what F tells wherever it tells something -/
def Fn.le (F' F : Fn) : Prop := ∀ ds st, F' ds st ≠ .bad → F ds st = F' ds st
theorem spD_le {g : Gh} {n : Nat} {F F' : Fn} (h : Fn.le F' F) {vs : List V} {H : Hp} {Q : VK} {E : XK} (q : spD g n F' vs H Q E) : spD g n F vs H Q E := by
  obtain ⟨M, A, st, ds, s, r, l, q⟩ := q
  refine ⟨M, A, st, ds, s, r, l, ?_⟩
  rw [h ds st fun z => by rw [z] at q; exact q]
  exact q
/-- a body as a function of its arguments; nn: how many names the frame has -/
def runF (nn : Nat) (b : DS) : Fn := fun ds st => match b (ds.map some ++ List.replicate (nn - ds.length) none) st with
  | .nx _ st => .ok .non st
  | .rt d st => .ok d st
  | .exc c _ st => .exc c st
  | _ => .bad
section
variable {P : Program} {w : World} {mg : Str → Option Value} {base : Heap}
structure GFn (P : Program) (w : World) (g : Gh) (mg : Str → Option Value) (base : Heap) (x : Str) (k n : Nat) (F : Fn) : Prop where
  ex : ∃ f fd ps, mg x = some (.ref f) ∧ PySem.W.keepIn g.K (.ref f) = true ∧ FnOk P w g.K mg base (L2N.CX P w) k f fd ps (spD g n F) ∧ Binds g.K fd ps []
theorem GFn.le {x : Str} {k n : Nat} {F F' : Fn} (G : GFn P w g mg base x k n F) (h : Fn.le F' F) : GFn P w g mg base x k n F' := by
  obtain ⟨f, fd, ps, h1, h2, h3, h4⟩ := G.ex
  exact ⟨f, fd, ps, h1, h2, h3.imp fun vs H Q E q => spD_le h q, h4⟩
theorem start_en {A : List Addr} {H : Hp} {N : List Str} {ds : List D} {vs : List V} (r : Reps g A H ds vs) : EnOk g A (ds.map some ++ List.replicate (N.length - ds.length) none) (start N vs) H := by
  have hl := r.len
  refine ⟨by simp [L2.start, hl], fun i d h => ?_⟩
  by_cases hi : i < ds.length
  · rw [List.getElem?_append_left (by simpa using hi), List.getElem?_map] at h
    cases e : ds[i]? with
    | none => rw [e] at h; cases h
    | some d' =>
      rw [e] at h
      cases h
      obtain ⟨v, e1, e2⟩ := r.get e
      refine ⟨v, ?_, e2⟩
      unfold L2.start
      rw [List.getElem?_append_left (by simp; omega), List.getElem?_map, e1]
      rfl
  · rw [List.getElem?_append_right (by simpa using hi), List.getElem?_replicate] at h
    split at h <;> cases h
/-- THE RULE for a def -/
theorem fn_rule {x qual : Str} {st : Stmt} {f : Addr} {fd : FuncData} {N ps : List Str} {k n : Nat} {b : DS} (F : Fun g.K x qual st f fd) (S : FnScope N ps (defScope st)) (hn : ps.length = n) {nn : Nat} (hnn : N.length = nn)
    (hbody : ∀ (M : List Addr) (cdv : Value) (A : Around) (outer : List Env) (s : Shared) (H : Hp) (E : XK), Room k (A.deeper (envOfC qual (defScope st) s.heap.objs.size f cdv)) →
      L2N.Takes (cxOf (L2N.CX P w) P w g.K mg base N qual (defScope st) f cdv A outer s H E) (fun cls d _ H => E cls d H) →
      PassesOwn (model P w) (A.deeper (envOfC qual (defScope st) s.heap.objs.size f cdv)) (envOfC qual (defScope st) s.heap.objs.size f cdv) (cxOf (L2N.CX P w) P w g.K mg base N qual (defScope st) f cdv A outer s H E).xe →
      PSs (cxOf (L2N.CX P w) P w g.K mg base N qual (defScope st) f cdv A outer s H E) (defBody st) (tS (g.wm M) (fun cls d _ H => E cls d H) b)) : FnOk P w g.K mg base (L2N.CX P w) (k + 1) f fd ps (spD g n (runF nn b)) := by
  obtain ⟨oc, od, kV, doc, pm, an, cdv, ct, osl, rfl, lk, hcd⟩ := F.ex
  subst hnn
  refine fn_of lk hcd S (fun vs H Q E h => ?_) fun A outer s H vs Q E hr hsp => ?_
  · obtain ⟨M, A, st, ds, s, r, l, q⟩ := h
    rw [← r.len, l, hn]
  · obtain ⟨M, A', st', ds, s', r, l, q⟩ := hsp
    refine ⟨_, hbody M cdv A outer s H E hr (L2N.takes_of rfl rfl rfl rfl) (L2.passes_of rfl), A', _, st', ⟨start_en r, s'⟩, ?_⟩
    unfold runF at q
    cases e : b (ds.map some ++ List.replicate (N.length - ds.length) none) st' with
    | nx en st2 => rw [e] at q; exact fun A2 σ2 H2 x M2 => q A2 .non H2 x M2.sto rep_non
    | rt d st2 => rw [e] at q; exact fun A2 v H2 x s2 r2 => q A2 v H2 x s2 r2
    | exc c en st2 => rw [e] at q; exact fun A2 σ2 H2 dx x M2 => q A2 H2 dx x M2.sto
    | bk en st2 => rw [e] at q; exact q.elim
    | ct en st2 => rw [e] at q; exact q.elim
    | bad => rw [e] at q; exact q.elim
end
/-! ### calls -/
def dCall (F : Fn) (fs : List DE) : DE := fun env st => (runL fs env st).bind F
theorem call_imp {n : Nat} {F : Fn} {fs : List DE} (hn : fs.length = n) {σ : L2.St} {H : Hp} {Q : VK} (q : tD g W (dCall F fs) σ H Q) : tCallS (spD g n F) (WE W) (tL g W (runL fs)) σ H Q := by
  obtain ⟨A, env, st, M, q⟩ := q
  refine (tR.bindE (rel := Reps g) M q).mono fun vs H1 ⟨A1, ds, st1, e, x, s, r, M1, q1⟩ => ?_
  refine ⟨g.M, A1, st1, ds, s, r, by rw [runL_len e, hn], ?_⟩
  cases eF : F ds st1 with
  | ok d st2 => rw [eF] at q1; exact q1
  | exc c st2 => rw [eF] at q1; exact q1
  | bad => rw [eF] at q1; exact q1
theorem de_call {x : Str} {p pos : Pos} {e : Expr} {es : List Expr} {k n : Nat} {F : Fn} {fs : List DE} (hK : g.K = X.K) (G : GFn X.prog X.w g X.mg X.base x k n F) (hr : Room k X.A) (tk : L2N.Takes X W) (hg : Gl X x) (ha : PA X (e :: es) (tL g W (runL fs))) (hn : fs.length = n)
    (hdb : (x == ("__debug__" : Str)) = false) (he : starEach (e :: es) X.env = (false, eval e X.env) :: starEach es X.env) (hpl : (backTo pos (starEach es X.env)).any (·.1) = false) : PE X (.Call (.Name x p) (e :: es) [] pos) (tD g W (dCall F fs)) := by
  obtain ⟨f, fd, ps, h1, h2, h3, h4⟩ := G.ex
  rw [hK] at h2 h3 h4
  exact pe_imp (pe_callS h3 hr hg h1 h2 h4 (fun σ => L2N.passAt tk σ) ha hdb he hpl) fun σ H Q q => call_imp hn q
/-- within a comprehension nothing is let out -/
theorem takes_never {Y : Cx} : L2N.Takes Y W0 := fun _ _ x => by
  obtain ⟨_, _, _, _, _, _, _, _, _, _, _, _, _, _, _, _, z⟩ := x
  exact z.elim
end
end DL

/-! DL9: places, slices, builtins over data. -/
namespace DL
open PySem PySem.Spec PyProof.Rows L2

section
variable {X : Cx} {g : Gh} {W : WX}
/-! ### a[i] -/
def ixD : D → D → Sto → Rs D
  | .lst xs, .int i, st => match atI xs i with
    | some d => .ok d st
    | none => .bad
  | .tup xs, .int i, st => match atI xs i with
    | some d => .ok d st
    | none => .bad
  | .scr ns, .int i, st => match atI ns i with
    | some n => .ok (.int n) st
    | none => .bad
  | .str z, .int i, st => match atI z.cps.toList i with
    | some c => .ok (.str ⟨#[c]⟩) st
    | none => .bad
  | .loc l, k, st => match st[l]? with
    | some (.lst xs) => match k with
      | .int i => match atI xs i with
        | some d => .ok d st
        | none => .bad
      | _ => .bad
    | some (.dk _ kvs) => match keyOf k with
      | some key => match look kvs key with
        | some d => .ok d st
        | none => .bad
      | none => .bad
    | some (.dt _ kvs) => match k with
      | .tup ks => match keysOf ks with
        | some key => match look kvs key with
          | some d => .ok d st
          | none => .bad
        | none => .bad
      | _ => .bad
    | _ => .bad
  | _, _, _ => .bad
def rDGet : R2 := fun x y H Q => ∃ a v, x = .ref a ∧ DGet H a y (some v) ∧ Q v H
theorem ix_dget (hu : X.A.units + 1 < cLine) : IxR X rDGet := by
  intro value slice pins s σ H x y v u Q I rx ry h hs
  obtain ⟨a, w, rfl, gg, q⟩ := h
  cases rx
  exact tail_any (dict_typeIs I gg) F.slot_dict_getitem.lookup (d_getItem hu I gg ry fun w' s' I' r' => ⟨w, H, I', r', q⟩) hs
theorem atI_rep {A : List Addr} {H : Hp} {ds : List D} {vs : List V} {i : Int} {d : D} (r : Reps g A H ds vs) (h : atI ds i = some d) : ∃ v, atI vs i = some v ∧ Rep g A H d v := by
  unfold atI at h ⊢
  rw [r.len] at h
  cases e : ixN vs.length i with
  | none => rw [e] at h; cases h
  | some j =>
    rw [e] at h
    exact r.get h
def rIxD (K : PySem.W.Frag) : R2 := fun x y H Q => rIx K x y H Q ∨ rDGet x y H Q
theorem ix_D (hu : X.A.units + 1 < cLine) : IxR X (rIxD X.K) := ix_seq.or (ix_dget hu)
theorem atI_map {α β : Type} (f : α → β) (xs : List α) (i : Int) : atI (xs.map f) i = (atI xs i).map f := by
  unfold atI
  rw [List.length_map]
  cases ixN xs.length i with
  | none => rfl
  | some j => simp
theorem atI_mem {α : Type} {xs : List α} {i : Int} {x : α} (h : atI xs i = some x) : x ∈ xs := by
  obtain ⟨j, _, e, _⟩ := atI_get h
  exact List.mem_of_getElem? e
theorem ixD_ok : OpD g (rIxD g.K) ixD := by
  intro W A st σ H x y v u Q s r1 r2 q
  unfold ixD at q
  split at q
  · split at q
    · rename_i ds i _ d e
      obtain ⟨p, vs, rfl, h1, _, q1⟩ := rep_lst_inv r1
      obtain ⟨w, e2, r3⟩ := atI_rep q1 e
      exact .inl (.inl ⟨p, vs, i, w, rfl, rep_int_inv r2, SqL.of h1, e2, q A _ H (.refl _ _) s r3⟩)
    · exact q.elim
  · split at q
    · rename_i ds i _ d e
      obtain ⟨p, vs, rfl, h1, q1⟩ := rep_tup_inv r1
      obtain ⟨w, e2, r3⟩ := atI_rep q1 e
      exact .inl (.inr (.inl ⟨p, vs, i, w, rfl, rep_int_inv r2, SqT.of h1, e2, q A _ H (.refl _ _) s r3⟩))
    · exact q.elim
  · split at q
    · rename_i ns i _ n e
      obtain ⟨p, rfl, h1⟩ := rep_scr_inv r1
      exact .inl (.inl ⟨p, _, i, .int n, rfl, rep_int_inv r2, h1, by rw [atI_map, e]; rfl, q A _ H (.refl _ _) s (rep_int _)⟩)
    · exact q.elim
  · split at q
    · rename_i z i _ c e
      obtain ⟨e1, ok⟩ := rep_str_inv r1
      exact .inl (.inr (.inr ⟨z, i, c, e1, rep_int_inv r2, ok.len, e, q A _ H (.refl _ _) s (rep_str (ok.sign (atI_mem e)))⟩))
    · exact q.elim
  · rename_i l
    obtain ⟨a, rfl, ea⟩ := rep_loc_inv r1
    split at q
    · rename_i _ xs e
      split at q
      · split at q
        · rename_i i _ d e3
          obtain ⟨vs, h1, q1⟩ := s.obj l a _ ea e
          obtain ⟨w, e2, r3⟩ := atI_rep q1 e3
          exact .inl (.inl ⟨a, vs, i, w, rfl, rep_int_inv r2, SqL.of h1, e2, q A _ H (.refl _ _) s r3⟩)
        · exact q.elim
      · exact q.elim
    · rename_i _ z kvs e
      split at q
      · rename_i _ key ek
        split at q
        · rename_i _ d el
          have gg := dget_rep (k := key) s ea e
          rw [el] at gg
          obtain ⟨w, g1, r3⟩ := gg
          rw [← keyOf_rep ek r2] at g1
          exact .inr ⟨a, w, rfl, g1, q A _ H (.refl _ _) s r3⟩
        · exact q.elim
      · exact q.elim
    · rename_i _ z kvs e
      split at q
      · rename_i ks
        split at q
        · rename_i _ key ek
          split at q
          · rename_i _ d el
            obtain ⟨b, vs, rfl, hb, q1⟩ := rep_tup_inv r2
            rw [keysOf_rep ek q1] at hb
            have gg := dtget_rep (k := key) s ea e hb
            rw [el] at gg
            obtain ⟨w, g1, r3⟩ := gg
            exact .inr ⟨a, w, rfl, g1, q A _ H (.refl _ _) s r3⟩
          · exact q.elim
        · exact q.elim
      · exact q.elim
    · exact q.elim
  · exact q.elim
theorem de_ix {a b : Expr} {pos : Pos} {f k : DE} (hK : g.K = X.K) (hu : X.A.units + 1 < cLine) (ha : PE X a (tD g W f)) (hb : PE X b (tD g W k)) (hs : PlainIx b) : PE X (.Subscript a b pos) (tD g W (dB ixD f k)) :=
  pe_imp (pe_ix (hK ▸ ix_D hu) ha hb hs) fun σ H Q q => bin_imp ixD_ok q

/-! ### a[i:j] -/
def cutD (xs : List D) (lo hi : Option Int) : List D := (xs.drop (HT.sIx xs.length 0 lo)).take (HT.sIx xs.length xs.length hi - HT.sIx xs.length 0 lo)
theorem cut_rep {A : List Addr} {H : Hp} {ds : List D} {vs : List V} (lo hi : Option Int) (r : Reps g A H ds vs) : Reps g A H (cutD ds lo hi) (cutV vs lo hi) := by
  unfold cutD cutV
  rw [r.len]
  exact (r.drop _).take _
def slD (x : D) (lo hi : Option Int) (st : Sto) : Rs D := match x with
  | .lst xs => .ok (.lst (cutD xs lo hi)) st
  | .tup xs => .ok (.tup (cutD xs lo hi)) st
  | .str z => .ok (.str (cutS z lo hi)) st
  | .loc l => match st[l]? with
    | some (.lst xs) => .ok (.lst (cutD xs lo hi)) st
    | _ => .bad
  | _ => .bad
/-- a part of a slice -/
abbrev DO := En → Sto → Rs (Option Int)
abbrev relO : List Addr → Hp → Option Int → Option Int → Prop := fun _ _ a b => a = b
def dNoPart : DO := fun _ st => .ok none st
def asI : D → Sto → Rs (Option Int)
  | .int i, st => .ok (some i) st
  | _, _ => .bad
def dPart (f : DE) : DO := fun env st => (f env st).bind asI
theorem po_imp {lo : Option Expr} {t t' : TO} (h : PO X lo t) (k : ∀ σ H Q, t' σ H Q → t σ H Q) : PO X lo t' := ⟨fun pins s σ H Q I q => h.run pins s σ H Q I (k σ H Q q)⟩
theorem do_none : PO X none (tR g W relO dNoPart) := po_imp po_none fun σ H Q h => by
  obtain ⟨A, env, st, M, q⟩ := h
  exact q A none H (.refl _ _) M.sto rfl
theorem do_some {e : Expr} {f : DE} (h : PE X e (tD g W f)) : PO X (some e) (tR g W relO (dPart f)) := po_imp (po_some h) fun σ H Q q => by
  obtain ⟨A, env, st, M, q⟩ := q
  refine (tR.bind (rel := Rep g) M q).mono fun v H1 ⟨A1, d, st1, x, s, r, M1, q1⟩ => ?_
  unfold asI at q1
  split at q1
  · exact ⟨_, rep_int_inv r, q1 A1 _ H1 (.refl _ _) s rfl⟩
  · exact q1.elim
def dSl (f : DE) (l h : DO) : DE := fun env st => (f env st).bind fun x st => (l env st).bind fun a st => (h env st).bind fun b st => slD x a b st
def rSlD (K : PySem.W.Frag) : V → Option Int → Option Int → Hp → VK → Prop := fun x lo hi H Q => rSlL K x lo hi H Q ∨ (rSlA K x lo hi H Q ∨ rSlS x lo hi H Q)
theorem sl_D : SlR X (rSlD X.K) := sl_list.or (sl_tupA.or sl_str)
theorem cut_all {α : Type} {xs : List α} {lo hi : Option Int} (h : HT.sIx xs.length 0 lo = 0 ∧ HT.sIx xs.length xs.length hi = xs.length) : (xs.drop (HT.sIx xs.length 0 lo)).take (HT.sIx xs.length xs.length hi - HT.sIx xs.length 0 lo) = xs := by
  rw [h.1, h.2]; simp
theorem SOk.cut {z : Str} (h : SOk z) (lo hi : Option Int) : SOk (cutS z lo hi) := by
  refine ⟨Nat.le_trans (cutS_length z lo hi) h.len, fun c hc => h.cps c ?_⟩
  have hc' : c ∈ ((z.cps.toList.drop (HT.sIx z.length 0 lo)).take (HT.sIx z.length z.length hi - HT.sIx z.length 0 lo)) := by
    have e : (cutS z lo hi).cps.toList = ((z.cps.toList.drop (HT.sIx z.length 0 lo)).take (HT.sIx z.length z.length hi - HT.sIx z.length 0 lo)) := rfl
    rw [← e]; exact hc
  exact List.mem_of_mem_drop (List.mem_of_mem_take hc')
theorem slD_ok {A : List Addr} {st : Sto} {σ : L2.St} {H : Hp} {x : D} {v : V} {lo hi : Option Int} {Q : VK} (s : StOk g A st H) (r : Rep g A H x v) (q : RP g W (Rep g) A σ H (slD x lo hi st) Q) : rSlD g.K v lo hi H Q := by
  unfold slD at q
  split at q
  · obtain ⟨a, vs, rfl, h1, _, q1⟩ := rep_lst_inv r
    exact .inl ⟨a, vs, rfl, SqL.of h1, fun p hp => q A _ _ (ext_val s hp) (s.val hp) (rep_lst_new s (cut_rep lo hi q1) hp)⟩
  · have r' := r
    obtain ⟨a, vs, rfl, h1, q1⟩ := rep_tup_inv r
    refine .inr (.inl ⟨a, vs, rfl, SqT.of h1, fun hw => ?_, fun hw p hp => q A _ _ (ext_val s hp) (s.val hp) (rep_tup_new s (cut_rep lo hi q1) hp)⟩)
    rw [← q1.len] at hw
    unfold cutD at q
    rw [cut_all hw] at q
    exact q A _ H (.refl _ _) s r'
  · obtain ⟨e1, ok⟩ := rep_str_inv r
    exact .inr (.inr ⟨_, e1, ok.len, q A _ H (.refl _ _) s (rep_str (ok.cut lo hi))⟩)
  · rename_i l
    split at q
    · rename_i xs e
      obtain ⟨a, rfl, ea⟩ := rep_loc_inv r
      obtain ⟨vs, h1, q1⟩ := s.obj l a _ ea e
      exact .inl ⟨a, vs, rfl, SqL.of h1, fun p hp => q A _ _ (ext_val s hp) (s.val hp) (rep_lst_new s (cut_rep lo hi q1) hp)⟩
    · exact q.elim
  · exact q.elim
theorem de_sl {e : Expr} {lo hi : Option Expr} {pos p2 : Pos} {f : DE} {l h : DO} (hK : g.K = X.K) (he : PE X e (tD g W f)) (hl : PO X lo (tR g W relO l)) (hh : PO X hi (tR g W relO h)) : PE X (.Subscript e (.Slice lo hi none p2) pos) (tD g W (dSl f l h)) :=
  pe_imp (pe_slice sl_D he hl hh) fun σ H Q q => by
    obtain ⟨A, env, st, M, q⟩ := q
    refine (tR.bind (rel := Rep g) M q).mono fun v H1 ⟨A1, d, st1, x, s, r, M1, q1⟩ => ?_
    refine (tR.bind (rel := relO) M1 q1).mono fun a H2 ⟨A2, d2, st2, x2, s2, r2, M2, q2⟩ => ?_
    refine (tR.bind (rel := relO) M2 q2).mono fun b H3 ⟨A3, d3, st3, x3, s3, r3, M3, q3⟩ => ?_
    have e2 : d2 = a := r2
    have e3 : d3 = b := r3
    subst e2
    subst e3
    exact hK ▸ slD_ok s3 (r.ext (x2.trans x3)) q3

/-! ### builtins called -/
def OpC (g : Gh) (r : List V → Hp → VK → Prop) (h : List D → Sto → Rs D) : Prop := ∀ (W : WX) (A : List Addr) (st : Sto) (σ : L2.St) (H : Hp) (ds : List D) (vs : List V) (Q : VK), StOk g A st H → Reps g A H ds vs → RP g W (Rep g) A σ H (h ds st) Q → r vs H Q
theorem callR_imp {r : List V → Hp → VK → Prop} {h : List D → Sto → Rs D} (o : OpC g r h) {fs : List DE} {σ : L2.St} {H : Hp} {Q : VK} (q : tD g W (dCall h fs) σ H Q) : tCB r (tL g W (runL fs)) σ H Q := by
  obtain ⟨A, env, st, M, q⟩ := q
  exact (tR.bind (rel := Reps g) M q).mono fun vs H1 ⟨A1, ds, st1, x, s, r, M1, q1⟩ => o W A1 st1 σ H1 ds vs Q s r q1
theorem de_blt {id : String} {x : Str} {p pos : Pos} {e : Expr} {es : List Expr} {r : List V → Hp → VK → Prop} {h : List D → Sto → Rs D} {fs : List DE} (hc : CallR X (.builtin id) r) (o : OpC g r h) (hg : Gl X x) (hm : X.mg x = none) (hv : bootBuiltins x = some (.builtin id)) (ha : PA X (e :: es) (tL g W (runL fs)))
    (hn : x ≠ "__name__") (hdb : (x == ("__debug__" : Str)) = false) (he : starEach (e :: es) X.env = (false, eval e X.env) :: starEach es X.env) (hpl : (backTo pos (starEach es X.env)).any (·.1) = false) : PE X (.Call (.Name x p) (e :: es) [] pos) (tD g W (dCall h fs)) :=
  pe_imp (pe_callB hc hg hm hv ha hn hdb he hpl) fun σ H Q q => callR_imp o q
theorem de_bty {T : String} {x : Str} {p pos : Pos} {e : Expr} {es : List Expr} {r : List V → Hp → VK → Prop} {h : List D → Sto → Rs D} {fs : List DE} (hc : CallR X (.type T) r) (o : OpC g r h) (hg : Gl X x) (hm : X.mg x = none) (hv : bootBuiltins x = some (.type T)) (ha : PA X (e :: es) (tL g W (runL fs)))
    (hn : x ≠ "__name__") (hdb : (x == ("__debug__" : Str)) = false) (he : starEach (e :: es) X.env = (false, eval e X.env) :: starEach es X.env) (hpl : (backTo pos (starEach es X.env)).any (·.1) = false) : PE X (.Call (.Name x p) (e :: es) [] pos) (tD g W (dCall h fs)) :=
  pe_imp (pe_callTy hc hg hm hv ha hn hdb he hpl) fun σ H Q q => callR_imp o q
theorem OpC.or {r r' : List V → Hp → VK → Prop} {h h' : List D → Sto → Rs D} (hh : List D → Sto → Rs D) (o : OpC g r h) (o' : OpC g r' h') (c : ∀ ds st, hh ds st = h ds st ∨ hh ds st = h' ds st) : OpC g (fun xs H Q => r xs H Q ∨ r' xs H Q) hh := by
  intro W A st σ H ds vs Q s r1 q
  rcases c ds st with e | e
  · rw [e] at q; exact .inl (o W A st σ H ds vs Q s r1 q)
  · rw [e] at q; exact .inr (o' W A st σ H ds vs Q s r1 q)

/-- the items of a thing that stands in a row; none: it is none -/
def itemsOf (st : Sto) : D → Option (List D)
  | .lst xs => some xs
  | .tup xs => some xs
  | .scr ns => some (ns.map D.int)
  | .loc l => match st[l]? with
    | some (.lst xs) => some xs
    | _ => none
  | _ => none
theorem ints_reps {A : List Addr} {H : Hp} (ns : List Int) : Reps g A H (ns.map D.int) (ns.map V.int) := Reps.of_ints ns
theorem items_rep {A : List Addr} {st : Sto} {H : Hp} {d : D} {v : V} {xs : List D} (s : StOk g A st H) (r : Rep g A H d v) (h : itemsOf st d = some xs) : ∃ p vs, v = .ref p ∧ Reps g A H xs vs ∧ (SqL g.K H p vs ∨ SqT g.K H p vs) := by
  unfold itemsOf at h
  split at h
  · cases h
    obtain ⟨p, vs, rfl, h1, _, q1⟩ := rep_lst_inv r
    exact ⟨p, vs, rfl, q1, .inl (SqL.of h1)⟩
  · cases h
    obtain ⟨p, vs, rfl, h1, q1⟩ := rep_tup_inv r
    exact ⟨p, vs, rfl, q1, .inr (SqT.of h1)⟩
  · cases h
    obtain ⟨p, rfl, h1⟩ := rep_scr_inv r
    exact ⟨p, _, rfl, ints_reps _, .inl h1⟩
  · rename_i l
    split at h
    · rename_i ys e
      cases h
      obtain ⟨a, rfl, ea⟩ := rep_loc_inv r
      obtain ⟨vs, h1, q1⟩ := s.obj l a _ ea e
      exact ⟨a, vs, rfl, q1, .inl (SqL.of h1)⟩
    · cases h
  · cases h
/-- those of a list -/
def isTup : D → Bool
  | .tup _ => true
  | _ => false
theorem listItems_rep {A : List Addr} {st : Sto} {H : Hp} {d : D} {v : V} {xs : List D} (s : StOk g A st H) (r : Rep g A H d v) (h : itemsOf st d = some xs) (ht : isTup d = false) : ∃ p vs, v = .ref p ∧ Reps g A H xs vs ∧ SqL g.K H p vs := by
  unfold itemsOf at h
  split at h
  · cases h
    obtain ⟨p, vs, rfl, h1, _, q1⟩ := rep_lst_inv r
    exact ⟨p, vs, rfl, q1, SqL.of h1⟩
  · cases ht
  · cases h
    obtain ⟨p, rfl, h1⟩ := rep_scr_inv r
    exact ⟨p, _, rfl, ints_reps _, h1⟩
  · rename_i l
    split at h
    · rename_i ys e
      cases h
      obtain ⟨a, rfl, ea⟩ := rep_loc_inv r
      obtain ⟨vs, h1, q1⟩ := s.obj l a _ ea e
      exact ⟨a, vs, rfl, q1, SqL.of h1⟩
    · cases h
  · cases h
/-- a new list, by value or in the store -/
def mk (m : Bool) (ds : List D) (st : Sto) : Rs D := if m = true then .ok (.loc st.length) (st ++ [.lst ds]) else .ok (.lst ds) st
theorem mk_ok {m : Bool} {A : List Addr} {st : Sto} {σ : L2.St} {H : Hp} {ds : List D} {vs : List V} {Q : VK} {p : Addr} (s : StOk g A st H) (r : Reps g A H ds vs) (q : RP g W (Rep g) A σ H (mk m ds st) Q) (hp : H p = none) : Q (.ref p) (upd H p (.lst vs)) := by
  unfold mk at q
  cases m with
  | false =>
    rw [if_neg Bool.false_ne_true] at q
    exact q A _ _ (ext_val s hp) (s.val hp) (rep_lst_new s r hp)
  | true =>
    rw [if_pos rfl] at q
    refine q _ (.ref p) _ (ext_new s hp) (s.new (ob := .lst ds) hp ⟨vs, upd_same, r.ext (ext_new s hp)⟩) ?_
    unfold Rep
    exact ⟨p, rfl, by rw [← s.len]; simp⟩
theorem reps1 {A : List Addr} {H : Hp} {d : D} {vs : List V} (r : Reps g A H [d] vs) : ∃ v, vs = [v] ∧ Rep g A H d v := by
  obtain ⟨v, ws, rfl, r1, r2⟩ := r.cons_inv
  rw [r2.nil_inv]
  exact ⟨v, rfl, r1⟩
theorem reps2 {A : List Addr} {H : Hp} {d e : D} {vs : List V} (r : Reps g A H [d, e] vs) : ∃ v w, vs = [v, w] ∧ Rep g A H d v ∧ Rep g A H e w := by
  obtain ⟨v, ws, rfl, r1, r2⟩ := r.cons_inv
  obtain ⟨w, rfl, r3⟩ := reps1 r2
  exact ⟨v, w, rfl, r1, r3⟩

/-! len -/
def lenD : List D → Sto → Rs D
  | [d], st => match itemsOf st d with
    | some xs => .ok (.int xs.length) st
    | none => match d with
      | .str z => .ok (.int z.length) st
      | .loc l => match st[l]? with
        | some (.dk false kvs) => .ok (.int kvs.length) st
        | _ => .bad
      | _ => .bad
  | _, _ => .bad
def rLen (K : PySem.W.Frag) : List V → Hp → VK → Prop := fun xs H Q => (fun xs H Q => ∃ p ys, xs = [.ref p] ∧ (SqL K H p ys ∨ SqT K H p ys) ∧ Q (.int ys.length) H) xs H Q ∨ ((fun xs H Q => ∃ z, xs = [.str z] ∧ z.length ≤ sizeLine ∧ Q (.int z.length) H) xs H Q ∨ (fun xs H Q => ∃ a kvs, xs = [V.ref a] ∧ H a = some (.dK kvs) ∧ Q (.int kvs.length) H) xs H Q)
theorem cr_len : CallR X (.builtin "len") (rLen X.K) := call_len_seq.or (call_len_str.or call_lenD)
theorem lenD_ok : OpC g (rLen g.K) lenD := by
  intro W A st σ H ds vs Q s r q
  unfold lenD at q
  split at q
  · rename_i d
    obtain ⟨v, rfl, r1⟩ := reps1 r
    split at q
    · rename_i xs e
      obtain ⟨p, ws, rfl, r2, h⟩ := items_rep s r1 e
      exact .inl ⟨p, ws, rfl, h, by rw [← r2.len]; exact q A _ H (.refl _ _) s (rep_int _)⟩
    · split at q
      · rename_i z _
        obtain ⟨e1, ok⟩ := rep_str_inv r1
        subst e1
        exact .inr (.inl ⟨z, rfl, ok.len, q A _ H (.refl _ _) s (rep_int _)⟩)
      · rename_i l _
        split at q
        · rename_i kvs e
          obtain ⟨a, rfl, ea⟩ := rep_loc_inv r1
          obtain ⟨kv', h, pp, _⟩ := s.obj l a _ ea e
          have h' : H a = some (.dK kv') := by simpa using h
          exact .inr (.inr ⟨a, kv', rfl, h', by rw [← pp.length]; exact q A _ H (.refl _ _) s (rep_int _)⟩)
        · exact q.elim
      · exact q.elim
  · exact q.elim

/-! list(x), tuple(x) -/
def listD (m : Bool) : List D → Sto → Rs D
  | [d], st => match itemsOf st d with
    | some xs => mk m xs st
    | none => .bad
  | _, _ => .bad
theorem listD_ok (m : Bool) : OpC g (fun xs H Q => ∃ p ys, xs = [.ref p] ∧ (SqL g.K H p ys ∨ SqT g.K H p ys) ∧ ∀ l, H l = none → Q (.ref l) (upd H l (.lst ys))) (listD m) := by
  intro W A st σ H ds vs Q s r q
  unfold listD at q
  split at q
  · rename_i d
    obtain ⟨v, rfl, r1⟩ := reps1 r
    split at q
    · rename_i xs e
      obtain ⟨p, ws, rfl, r2, h⟩ := items_rep s r1 e
      exact ⟨p, ws, rfl, h, fun l hl => mk_ok s r2 q hl⟩
    · exact q.elim
  · exact q.elim
def tupleD : List D → Sto → Rs D
  | [d], st => match itemsOf st d with
    | some xs => .ok (.tup xs) st
    | none => .bad
  | _, _ => .bad
theorem isTup_inv {d : D} (h : isTup d = true) : ∃ xs, d = .tup xs := by
  cases d with
  | tup xs => exact ⟨xs, rfl⟩
  | _ => cases h
theorem tupleD_ok : OpC g (fun xs H Q => ∃ p ys, xs = [.ref p] ∧ ((SqL g.K H p ys ∧ ∀ l, H l = none → Q (.ref l) (upd H l (.tup ys))) ∨ (SqT g.K H p ys ∧ Q (.ref p) H))) tupleD := by
  intro W A st σ H ds vs Q s r q
  unfold tupleD at q
  split at q
  · rename_i d
    obtain ⟨v, rfl, r1⟩ := reps1 r
    split at q
    · rename_i xs e
      cases ht : isTup d with
      | true =>
        obtain ⟨ys, rfl⟩ := isTup_inv ht
        cases e
        have r1' := r1
        obtain ⟨p, ws, rfl, h1, q1⟩ := rep_tup_inv r1
        exact ⟨p, ws, rfl, .inr ⟨SqT.of h1, q A _ H (.refl _ _) s r1'⟩⟩
      | false =>
        obtain ⟨p, ws, rfl, r2, h⟩ := listItems_rep s r1 e ht
        exact ⟨p, ws, rfl, .inl ⟨h, fun l hl => q A _ _ (ext_val s hl) (s.val hl) (rep_tup_new s r2 hl)⟩⟩
    · exact q.elim
  · exact q.elim

/-! min, max of two ints; of a list of ints -/
def max2D : List D → Sto → Rs D
  | [.int i, .int j], st => .ok (.int (if j > i then j else i)) st
  | _, _ => .bad
theorem max2D_ok : OpC g (fun xs H Q => ∃ i j, xs = [.int i, .int j] ∧ Q (.int (if j > i then j else i)) H) max2D := by
  intro W A st σ H ds vs Q s r q
  unfold max2D at q
  split at q
  · obtain ⟨v, w, rfl, r1, r2⟩ := reps2 r
    rw [rep_int_inv r1, rep_int_inv r2]
    exact ⟨_, _, rfl, q A _ H (.refl _ _) s (rep_int _)⟩
  · exact q.elim
def min2D : List D → Sto → Rs D
  | [.int i, .int j], st => .ok (.int (if j < i then j else i)) st
  | _, _ => .bad
theorem min2D_ok : OpC g (fun xs H Q => ∃ i j, xs = [.int i, .int j] ∧ Q (.int (if j < i then j else i)) H) min2D := by
  intro W A st σ H ds vs Q s r q
  unfold min2D at q
  split at q
  · obtain ⟨v, w, rfl, r1, r2⟩ := reps2 r
    rw [rep_int_inv r1, rep_int_inv r2]
    exact ⟨_, _, rfl, q A _ H (.refl _ _) s (rep_int _)⟩
  · exact q.elim

/-! int -/
def intD : List D → Sto → Rs D
  | [.int i], st => .ok (.int i) st
  | [.bl k], st => .ok (.int (if k then 1 else 0)) st
  | _, _ => .bad
theorem intD_ok : OpC g (fun xs H Q => (∃ i, xs = [.int i] ∧ Q (.int i) H) ∨ ∃ k, xs = [.bl k] ∧ Q (.int (if k then 1 else 0)) H) intD := by
  intro W A st σ H ds vs Q s r q
  unfold intD at q
  split at q
  · obtain ⟨v, rfl, r1⟩ := reps1 r
    rw [rep_int_inv r1]
    exact .inl ⟨_, rfl, q A _ H (.refl _ _) s (rep_int _)⟩
  · obtain ⟨v, rfl, r1⟩ := reps1 r
    rw [rep_bl_inv r1]
    exact .inr ⟨_, rfl, q A _ H (.refl _ _) s (rep_int _)⟩
  · exact q.elim
end
end DL

/-! DL10: sorted, join, startswith, isinstance, append, comprehensions that stay in the store. -/
namespace DL
open PySem PySem.Spec PyProof.Rows L2
open PySem.W (AllAlike Sortable dataLe sorted_data readsAll_each EachIs sort_maps)

section
variable {X : Cx} {g : Gh} {W : WX}
/-! ### sorted -/
def rSortX (K : PySem.W.Frag) : List V → Hp → VK → Prop := fun vs H Q => ∃ (β : Type) (bs : List β) (val : β → V) (enc : β → PyData) (a : Addr), vs = [.ref a] ∧ SqL K H a (bs.map val) ∧ DpAll K H (bs.map val) (bs.map enc) ∧ AllAlike (bs.map enc) ∧ Sortable (bs.map enc) ∧ (∀ b ∈ bs, (enc b).depth ≤ 40) ∧
  ∀ l, H l = none → Q (.ref l) (upd H l (.lst ((bs.mergeSort (dataLe false enc)).map val)))
theorem each_of_vals {β : Type} (val : β → V) : ∀ {bs : List β} {us : List Value}, Vals (bs.map val) us → EachIs (fun v b => RelV (val b) v) us bs
  | [], us, h => by
    cases h
    exact .nil
  | b :: bs, us, h => by
    cases h with
    | cons r t => exact .cons r (each_of_vals val t)
theorem vals_of_each {β : Type} (val : β → V) : ∀ {bs : List β} {us : List Value}, EachIs (fun v b => RelV (val b) v) us bs → Vals (bs.map val) us
  | _, _, .nil => .nil
  | _, _, .cons r t => .cons r (vals_of_each val t)
theorem cr_sortX (hu : X.A.units + 64 < cLine) : CallR X (.builtin "sorted") (rSortX X.K) := by
  intro pins s σ H vs us Q I r h
  obtain ⟨β, bs, val, enc, a, rfl, hs, hd, hal, hk, hdep, q⟩ := h
  obtain ⟨its, rv, hl, hz⟩ := I.list hs
  rw [Vals.ref1 r]
  obtain ⟨as, hr⟩ := Dp.readsAll I _ _ _ hd rv
  rw [List.length_map] at hz
  refine sorted_data (R := fun v b => RelV (val b) v) hl.isList (each_of_vals val rv) (readsAll_each enc hr) hal hk hz (fun b hb => ?_) fun out ho eo => ?_
  · have := hdep b hb
    omega
  · obtain ⟨ep, he'⟩ := PyProof.Rows.sortedAll_at s.heap its out.toArray
    have hlen : ((bs.mergeSort (dataLe false enc)).map val).length ≤ sizeLine := by
      rw [List.length_map, List.length_mergeSort]; exact hz
    exact ⟨.ref _, upd H (s.heap.objs.size + 1) (.lst ((bs.mergeSort (dataLe false enc)).map val)), I.laid (t' := s.toks) (fun _ _ => PyProof.Rows.sortedAll_old) (Nat.le_succ _) ⟨hlen, out.toArray.toList, ep, by
      rw [List.toList_toArray]; exact vals_of_each val eo, he'⟩, rfl, q _ (I.hok.fresh (Nat.le_succ _))⟩
def sortL (xs : List D) : List D := xs.mergeSort (dataLe false toP)
open Classical in
noncomputable def sortedD (m : Bool) : List D → Sto → Rs D
  | [d], st => match itemsOf st d with
    | some xs => if isTup d = false ∧ xs.all (good 40) = true ∧ AllAlike (xs.map toP) ∧ Sortable (xs.map toP) then mk m (sortL xs) st else .bad
    | none => .bad
  | _, _ => .bad
theorem zip_fst {α β : Type} : ∀ {xs : List α} {ys : List β}, xs.length = ys.length → (xs.zip ys).map (·.1) = xs
  | [], [], _ => rfl
  | x :: xs, y :: ys, h => by
    rw [List.zip_cons_cons, List.map_cons, zip_fst (by simpa using h)]
theorem zip_snd {α β : Type} : ∀ {xs : List α} {ys : List β}, xs.length = ys.length → (xs.zip ys).map (·.2) = ys
  | [], [], _ => rfl
  | x :: xs, y :: ys, h => by
    rw [List.zip_cons_cons, List.map_cons, zip_snd (by simpa using h)]
theorem Reps.pairs {A : List Addr} {H : Hp} : ∀ {ds : List D} {vs : List V}, Reps g A H ds vs → ∀ p ∈ vs.zip ds, Rep g A H p.2 p.1
  | [], vs, r, p, h => by rw [r.nil_inv] at h; cases h
  | d :: ds, vs, r, p, h => by
    obtain ⟨v, ws, rfl, r1, r2⟩ := r.cons_inv
    rcases List.mem_cons.mp h with e | h
    · subst e; exact r1
    · exact Reps.pairs r2 p h
theorem Reps.of_pairs {A : List Addr} {H : Hp} : ∀ {ps : List (V × D)}, (∀ p ∈ ps, Rep g A H p.2 p.1) → Reps g A H (ps.map (·.2)) (ps.map (·.1))
  | [], _ => .nil
  | p :: ps, h => .cons (h p List.mem_cons_self) (Reps.of_pairs fun q hq => h q (List.mem_cons_of_mem _ hq))
theorem good_all {n : Nat} {ds : List D} (h : ds.all (good n) = true) : ∀ d ∈ ds, good n d = true := List.all_eq_true.mp h
theorem sortedD_ok (m : Bool) : OpC g (rSortX g.K) (sortedD m) := by
  intro W A st σ H ds vs Q s r q
  unfold sortedD at q
  split at q
  · rename_i d
    obtain ⟨v, rfl, r1⟩ := reps1 r
    split at q
    · rename_i xs e
      split at q
      · rename_i hc
        obtain ⟨c1, c2, c3, c4⟩ := hc
        obtain ⟨p, ws, rfl, r2, h⟩ := listItems_rep s r1 e c1
        have hl : ws.length = xs.length := r2.len.symm
        have e1 : (ws.zip xs).map (·.1) = ws := zip_fst hl
        have e2 : (ws.zip xs).map (·.2) = xs := zip_snd hl
        have e3 : (ws.zip xs).map (fun b => toP b.2) = xs.map toP := by
          rw [← e2, List.map_map, e2]; rfl
        refine ⟨V × D, ws.zip xs, fun b => b.1, fun b => toP b.2, p, rfl, by rw [e1]; exact h, ?_, by rw [e3]; exact c3, by rw [e3]; exact c4, fun b hb => ?_, fun l hl' => ?_⟩
        · rw [e1, e3, ← toPs_map]
          exact (lays_all (lays_of 40) xs ws c2 r2).dp
        · have hb2 : b.2 ∈ xs := by rw [← e2]; exact List.mem_map_of_mem hb
          exact (lays_of 40 b.2 b.1 (good_all c2 _ hb2) (r2.pairs b hb)).deep
        · have e4 : ((ws.zip xs).mergeSort (dataLe false fun b => toP b.2)).map (·.2) = sortL xs := by
            unfold sortL
            have e5 := sort_maps (r := dataLe false fun b : V × D => toP b.2) (s := dataLe false toP) (fun b : V × D => b.2) (l := ws.zip xs) (fun a _ b _ => rfl)
            rw [e2] at e5
            exact e5
          have r3 : Reps g A H (sortL xs) (((ws.zip xs).mergeSort (dataLe false fun b => toP b.2)).map (·.1)) := by
            rw [← e4]
            exact Reps.of_pairs fun p hp => r2.pairs p (List.mem_mergeSort.mp hp)
          exact mk_ok s r3 q hl'
      · exact q.elim
    · exact q.elim
  · exact q.elim

/-! ### methods of builtins -/
def OpM (g : Gh) (r : V → List V → Hp → VK → Prop) (h : D → List D → Sto → Rs D) : Prop := ∀ (W : WX) (A : List Addr) (st : Sto) (σ : L2.St) (H : Hp) (x : D) (v : V) (ds : List D) (vs : List V) (Q : VK), StOk g A st H → Rep g A H x v → Reps g A H ds vs → RP g W (Rep g) A σ H (h x ds st) Q → r v vs H Q
def TyD (g : Gh) (T : String) (chk : Sto → D → Bool) : Prop := ∀ (A : List Addr) (st : Sto) (H : Hp) (x : D) (v : V), StOk g A st H → Rep g A H x v → chk st x = true → tyV g.K T v H
def chkS (_ : Sto) : D → Bool
  | .str _ => true
  | _ => false
def chkL (st : Sto) (d : D) : Bool := (itemsOf st d).isSome && !isTup d
def chkD (st : Sto) : D → Bool
  | .loc l => match st[l]? with
    | some (.dk false _) => true
    | some (.dt false _) => true
    | _ => false
  | _ => false
theorem chkS_ok : TyD g "str" chkS := fun A st H x v s r h => by
  cases x with
  | str z =>
    rw [(rep_str_inv r).1]
    rfl
  | _ => cases h
theorem chkL_ok : TyD g "list" chkL := fun A st H x v s r h => by
  unfold chkL at h
  rw [Bool.and_eq_true, Bool.not_eq_true'] at h
  obtain ⟨xs, e⟩ := Option.isSome_iff_exists.mp h.1
  obtain ⟨p, vs, rfl, _, hq⟩ := listItems_rep s r e h.2
  exact .inl ⟨rfl, vs, hq⟩
theorem chkD_ok : TyD g "dict" chkD := fun A st H x v s r h => by
  cases x with
  | loc l =>
    unfold chkD at h
    obtain ⟨a, rfl, ea⟩ := rep_loc_inv r
    dsimp only at h
    split at h
    · rename_i kvs e
      obtain ⟨kv', h1, _⟩ := s.obj l a _ ea e
      exact .inr (.inr (.inl ⟨rfl, .inl ⟨kv', by simpa using h1⟩⟩))
    · rename_i kvs e
      obtain ⟨kv', h1, _⟩ := s.obj l a _ ea e
      exact .inr (.inr (.inl ⟨rfl, .inr ⟨kv', by simpa using h1⟩⟩))
    · cases h
  | _ => cases h
def dMeth (chk : Sto → D → Bool) (h : D → List D → Sto → Rs D) (f : DE) (fs : List DE) : DE := fun env st => (f env st).bind fun x st => if chk st x = true then (runL fs env st).bind fun ds st => h x ds st else .bad
theorem de_bm {T id : String} {chk : Sto → D → Bool} {o e : Expr} {es : List Expr} {name : Str} {apos cpos : Pos} {r : V → List V → Hp → VK → Prop} {h : D → List D → Sto → Rs D} {f : DE} {fs : List DE} (hK : g.K = X.K) (ht : TyD g T chk) (op : OpM g r h) (pa : PlainAttrs T) (slot : Slot T name id) (hty : typeOf (.builtin id) = pure (.type "method_descriptor")) (hm : MtR X id r)
    (ho : PE X o (tD g W f)) (ha : PA X (e :: es) (tL g W (runL fs)))
    (hbase : attributeBase o name X.env (eval o X.env) = eval o X.env)
    (hfew : ((backTo cpos (starEach (e :: es) X.env)).all (fun x => !x.1) && (backToKw cpos (keywordEach [] X.env)).all (fun x => x.1.isSome)
      && decide ((e :: es).length + ([] : List Keyword).length + (if ([] : List Keyword).isEmpty then 0 else 1) < 30)) = true)
    (hline : (apos.endLine == cpos.line) = true) (hs : starEach (e :: es) X.env = (false, eval e X.env) :: starEach es X.env) (hplain : (backTo cpos (starEach es X.env)).any (·.1) = false) :
    PE X (.Call (.Attribute o name apos) (e :: es) [] cpos) (tD g W (dMeth chk h f fs)) :=
  pe_imp (pe_bm pa slot hty hm ho ha hbase hfew hline hs hplain) fun σ H Q q => by
    obtain ⟨A, env, st, M, q⟩ := q
    refine (tR.bind (rel := Rep g) M q).mono fun v H1 ⟨A1, d, st1, x, s, r1, M1, q1⟩ => ?_
    split at q1
    · rename_i hc
      refine ⟨hK ▸ ht A1 st1 H1 d v s r1 hc, ?_⟩
      refine (tR.bind (rel := Reps g) M1 q1).mono fun vs H2 ⟨A2, ds, st2, x2, s2, r2, M2, q2⟩ => ?_
      exact op W A2 st2 σ H2 d v ds vs Q s2 (r1.ext x2) r2 q2
    · exact q1.elim
theorem de_bm0 {T id : String} {chk : Sto → D → Bool} {o : Expr} {name : Str} {apos cpos : Pos} {r : V → List V → Hp → VK → Prop} {h : D → List D → Sto → Rs D} {f : DE} (hK : g.K = X.K) (ht : TyD g T chk) (op : OpM g r h) (pa : PlainAttrs T) (slot : Slot T name id) (hty : typeOf (.builtin id) = pure (.type "method_descriptor")) (hm : MtR X id r)
    (ho : PE X o (tD g W f)) (hbase : attributeBase o name X.env (eval o X.env) = eval o X.env) (hline : (apos.endLine == cpos.line) = true) : PE X (.Call (.Attribute o name apos) [] [] cpos) (tD g W (dMeth chk h f [])) :=
  pe_imp (pe_bm0 pa slot hty hm ho hbase hline) fun σ H Q q => by
    obtain ⟨A, env, st, M, q⟩ := q
    refine (tR.bind (rel := Rep g) M q).mono fun v H1 ⟨A1, d, st1, x, s, r1, M1, q1⟩ => ?_
    split at q1
    · rename_i hc
      exact ⟨hK ▸ ht A1 st1 H1 d v s r1 hc, op W A1 st1 σ H1 d v [] [] Q s r1 .nil q1⟩
    · exact q1.elim

/-! join -/
def strs? : List D → Option (List Str)
  | [] => some []
  | .str s :: ds => (strs? ds).map (s :: ·)
  | _ :: _ => none
theorem strs?_rep {A : List Addr} {H : Hp} : ∀ {ds : List D} {ss : List Str} {vs : List V}, strs? ds = some ss → Reps g A H ds vs → vs = ss.map V.str ∧ ∀ s ∈ ss, SOk s
  | [], ss, vs, h, r => by cases h; exact ⟨r.nil_inv, fun s h => by cases h⟩
  | d :: ds, ss, vs, h, r => by
    cases d with
    | str z =>
      unfold strs? at h
      obtain ⟨ms, e1, e2⟩ := Option.map_eq_some_iff.mp h
      obtain ⟨v, ws, rfl, r1, r2⟩ := r.cons_inv
      obtain ⟨e3, k⟩ := rep_str_inv r1
      obtain ⟨e4, k2⟩ := strs?_rep e1 r2
      subst e2 e3 e4
      refine ⟨rfl, fun s hs => ?_⟩
      rcases List.mem_cons.mp hs with e | hs
      · subst e; exact k
      · exact k2 s hs
    | _ => cases h
theorem strs?_map (ss : List Str) : strs? (ss.map D.str) = some ss := by
  induction ss with
  | nil => rfl
  | cons n ns ih => show (strs? (ns.map D.str)).map _ = _; rw [ih]; rfl
theorem join_cps (y : Str) (hy : ∀ c ∈ y.cps.toList, c < 0x110000) : ∀ ss : List Str, (∀ s ∈ ss, SOk s) → ∀ c ∈ (Str.join y ss).cps.toList, c < 0x110000
  | [], _, c, hc => by
    have : c ∈ ([] : List Nat) := hc
    cases this
  | [x], h, c, hc => (h x List.mem_cons_self).cps c hc
  | x :: z :: r, h, c, hc => by
    have hc' : c ∈ (x ++ y ++ Str.join y (z :: r)).cps.toList := hc
    rw [str_app_cps, str_app_cps, Array.toList_append, Array.toList_append, List.mem_append, List.mem_append] at hc'
    rcases hc' with (hc' | hc') | hc'
    · exact (h x List.mem_cons_self).cps c hc'
    · exact hy c hc'
    · exact join_cps y hy (z :: r) (fun s hs => h s (List.mem_cons_of_mem _ hs)) c hc'
def joinD : D → List D → Sto → Rs D
  | .str a, [d], st => match itemsOf st d with
    | some xs => match strs? xs with
      | some ys => if (ys.map (·.length)).sum + ys.length * a.length ≤ 16777216 then .ok (.str (Str.join a ys)) st else .bad
      | none => .bad
    | none => .bad
  | _, _, _ => .bad
theorem joinD_ok : OpM g (fun x xs H Q => ∃ a p, ∃ ys : List Str, x = .str a ∧ xs = [.ref p] ∧ (SqL g.K H p (ys.map V.str) ∨ SqT g.K H p (ys.map V.str)) ∧ (ys.map (·.length)).sum + ys.length * a.length ≤ 16777216 ∧ Q (.str (Txt.join a ys)) H) joinD := by
  intro W A st σ H x v ds vs Q s r1 r2 q
  unfold joinD at q
  split at q
  · rename_i a d
    obtain ⟨e0, k0⟩ := rep_str_inv r1
    obtain ⟨w, rfl, r3⟩ := reps1 r2
    split at q
    · rename_i _ xs e
      split at q
      · rename_i _ ys e2
        split at q
        · rename_i hc
          obtain ⟨p, ws, rfl, r4, hq⟩ := items_rep s r3 e
          obtain ⟨e5, k5⟩ := strs?_rep e2 r4
          subst e5
          refine ⟨a, p, ys, e0, rfl, hq, hc, ?_⟩
          have hj : Txt.join a ys = Str.join a ys := StrLaws.glued_eq_join a ys
          rw [hj]
          refine q A _ H (.refl _ _) s (rep_str ⟨?_, join_cps a k0.cps ys k5⟩)
          rw [← hj]
          have hl : (Txt.join a ys).length = (ys.map (·.length)).sum + (ys.length - 1) * a.length := size_glued a ys
          rw [hl, sizeLine_eq]
          have : (ys.length - 1) * a.length ≤ ys.length * a.length := Nat.mul_le_mul_right _ (by omega)
          omega
        · exact q.elim
      · exact q.elim
    · exact q.elim
  · exact q.elim
/-! startswith -/
def startsD : D → List D → Sto → Rs D
  | .str a, [.str b], st => .ok (.bl (Txt.startswith a b)) st
  | _, _, _ => .bad
theorem startsD_ok : OpM g (fun x xs H Q => ∃ a b, x = .str a ∧ xs = [.str b] ∧ Q (.bl (Txt.startswith a b)) H) startsD := by
  intro W A st σ H x v ds vs Q s r1 r2 q
  unfold startsD at q
  split at q
  · rename_i a b
    obtain ⟨w, rfl, r3⟩ := reps1 r2
    rw [(rep_str_inv r1).1, (rep_str_inv r3).1]
    exact ⟨a, b, rfl, rfl, q A _ H (.refl _ _) s (rep_bl _)⟩
  · exact q.elim
/-! append -/
def appendD : D → List D → Sto → Rs D
  | .loc l, [y], st => match st[l]? with
    | some (.lst xs) => if xs.length < 1000000 then .ok .non (st.set l (.lst (xs ++ [y]))) else .bad
    | _ => .bad
  | _, _, _ => .bad
theorem appendD_ok : OpM g rAppend appendD := by
  intro W A st σ H x v ds vs Q s r1 r2 q
  unfold appendD at q
  split at q
  · rename_i l y
    obtain ⟨w, rfl, r3⟩ := reps1 r2
    obtain ⟨a, rfl, ea⟩ := rep_loc_inv r1
    split at q
    · rename_i _ xs e
      split at q
      · rename_i hc
        obtain ⟨vs, h1, q1⟩ := s.obj l a _ ea e
        refine ⟨a, vs, w, rfl, rfl, h1, by rw [← q1.len, sizeLine_eq]; omega, ?_⟩
        have x1 : Ext A H A (upd H a (.lst (vs ++ [w]))) := ext_set ea
        exact q A _ _ x1 (s.set ea ⟨_, upd_same, (q1.ext x1).append (.cons (r3.ext x1) .nil)⟩) rep_non
      · exact q.elim
    · exact q.elim
  · exact q.elim

/-! ### isinstance(x, T), T built in -/
def tyNm (st : Sto) : D → Option String
  | .non => some "NoneType"
  | .bl _ => some "bool"
  | .int _ => some "int"
  | .str _ => some "str"
  | .tup _ => some "tuple"
  | .lst _ => some "list"
  | .loc l => match st[l]? with
    | some (.lst _) => some "list"
    | some (.dk false _) => some "dict"
    | some (.dt false _) => some "dict"
    | _ => none
  | _ => none
theorem tyNm_ok {A : List Addr} {st : Sto} {H : Hp} {d : D} {v : V} {n : String} (s : StOk g A st H) (r : Rep g A H d v) (h : tyNm st d = some n) : TyX g.K H v (.type n) := by
  cases d with
  | non => cases h; rw [rep_non_inv r]; exact .base .non
  | bl b => cases h; rw [rep_bl_inv r]; exact .base (.bl b)
  | int b => cases h; rw [rep_int_inv r]; exact .base (.int b)
  | str b => cases h; rw [(rep_str_inv r).1]; exact .base (.str b)
  | tup xs => cases h; obtain ⟨a, vs, rfl, h1, _⟩ := rep_tup_inv r; exact .base (.tup h1)
  | lst xs => cases h; obtain ⟨a, vs, rfl, h1, _⟩ := rep_lst_inv r; exact .base (.lst h1)
  | loc l =>
    obtain ⟨a, rfl, ea⟩ := rep_loc_inv r
    unfold tyNm at h
    dsimp only at h
    split at h
    · rename_i xs e
      cases h
      obtain ⟨vs, h1, _⟩ := s.obj l a _ ea e
      exact .base (.lst h1)
    · rename_i xs e
      cases h
      obtain ⟨vs, h1, _⟩ := s.obj l a _ ea e
      exact .base (.dK (by simpa using h1))
    · rename_i xs e
      cases h
      obtain ⟨vs, h1, _⟩ := s.obj l a _ ea e
      exact .base (.dT (by simpa using h1))
    · cases h
  | _ => cases h
def isiD (T : String) (d : D) (st : Sto) : Rs D := match tyNm st d with
  | some n => match kitB n T with
    | some b => .ok (.bl b) st
    | none => .bad
  | none => .bad
theorem de_isi {e : Expr} {f : DE} {p q pos : Pos} {T : String} {x : Str} (hK : g.K = X.K) (he : PE X e (tD g W f)) (hg : Gl X "isinstance") (hm : X.mg "isinstance" = none) (hgT : Gl X x) (hmT : X.mg x = none) (hv : bootBuiltins x = some (.type T)) (hn : x ≠ "__name__") (hd : (x == ("__debug__" : Str)) = false)
    (hs : starEach [e, .Name x q] X.env = (false, eval e X.env) :: starEach [.Name x q] X.env) (hs2 : starEach [Expr.Name x q] X.env = (false, eval (.Name x q) X.env) :: starEach [] X.env) (hpl : (backTo pos (starEach [Expr.Name x q] X.env)).any (·.1) = false) :
    PE X (.Call (.Name "isinstance" p) [e, .Name x q] [] pos) (tD g W (dU (isiD T) f)) :=
  pe_imp (pe_callB call_isi hg hm boot_isinstance (pa_cons he (pa_cons (pe_bltn (v := .ty T) hgT hmT hv rfl hn hd) pa_nil hs2) hs) (he := hs) (hpl := hpl)) fun σ H Q qq => by
    obtain ⟨A, env, st, M, qq⟩ := qq
    refine (tR.bind (rel := Rep g) M qq).mono fun v H1 ⟨A1, d, st1, x, s, r1, M1, q1⟩ => ?_
    unfold isiD at q1
    split at q1
    · rename_i _ n en
      split at q1
      · rename_i _ b eb
        exact ⟨v, .ty T, .type n, .type T, b, rfl, .ty T, hK ▸ tyNm_ok s r1 en, kit_ty eb, q1 A1 _ H1 (.refl _ _) s (rep_bl b)⟩
      · exact q1.elim
    · exact q1.elim
end
end DL

/-! DL11: comprehensions whose list stays in the store; defs that leave the store as it was. -/
namespace DL
open PySem PySem.Spec PyProof.Rows L2

theorem Ext.trans0 {A1 A2 : List Addr} {H1 H2 : Hp} {P : Addr} (x : Ext A1 H1 A2 H2) (hP : H1 P = none) : Ext A1 H1 (A2 ++ [P]) H2 :=
  ⟨by obtain ⟨B, e⟩ := x.pre; exact ⟨B ++ [P], by rw [e, List.append_assoc]⟩, fun c o n q => ⟨by
    simp only [List.mem_append, List.mem_singleton, not_or]
    exact ⟨(x.keep c o n q).1, ne_of_none q hP⟩, (x.keep c o n q).2⟩⟩
mutual
theorem Rep.own {g : Gh} {A : List Addr} {H : Hp} {p : Addr} {xs : List V} (hp : H p = some (.lst xs)) : ∀ {d : D} {v : V}, Rep (g.push p) A H d v → Rep g (A ++ [p]) H d v
  | .non, _, h => h
  | .bl _, _, h => h
  | .int _, _, h => h
  | .str _, _, h => h
  | .tup ds, v, h => by
    unfold Rep at h ⊢
    obtain ⟨a, vs, e, q, n, r⟩ := h
    refine ⟨a, vs, e, q, ?_, Reps.own hp r⟩
    simp only [List.mem_append, List.mem_singleton, not_or]
    exact ⟨n, fun z => by rw [z, hp] at q; cases q⟩
  | .kt ss, v, h => by unfold Rep at h ⊢; exact h
  | .lst ds, v, h => by
    unfold Rep at h ⊢
    obtain ⟨a, vs, e, q, n, r⟩ := h
    refine ⟨a, vs, e, q, ⟨?_, fun m => n.2 (List.mem_cons_of_mem _ m)⟩, Reps.own hp r⟩
    simp only [List.mem_append, List.mem_singleton, not_or]
    exact ⟨n.1, fun z => n.2 (by rw [z]; exact List.mem_cons_self)⟩
  | .loc l, v, h => by
    unfold Rep at h ⊢
    obtain ⟨a, e, q⟩ := h
    exact ⟨a, e, by rw [List.getElem?_append_left (List.getElem?_eq_some_iff.mp q).1]; exact q⟩
  | .fn _, _, h => h
  | .scr ns, v, h => by
    unfold Rep at h ⊢
    obtain ⟨a, e, q⟩ := h
    refine ⟨a, e, ?_⟩
    rcases q with ⟨q, n, n2⟩ | q
    · refine .inl ⟨q, ?_, fun m => n2 (List.mem_cons_of_mem _ m)⟩
      simp only [List.mem_append, List.mem_singleton, not_or]
      exact ⟨n, fun z => n2 (by rw [z]; exact List.mem_cons_self)⟩
    · exact .inr q
theorem Reps.own {g : Gh} {A : List Addr} {H : Hp} {p : Addr} {xs : List V} (hp : H p = some (.lst xs)) : ∀ {ds : List D} {vs : List V}, Reps (g.push p) A H ds vs → Reps g (A ++ [p]) H ds vs
  | [], vs, h => h
  | d :: ds, vs, h => by
    unfold Reps at h ⊢
    obtain ⟨v, r, e, p', q⟩ := h
    exact ⟨v, r, e, Rep.own hp p', Reps.own hp q⟩
end
theorem StOk.own {g : Gh} {A : List Addr} {st : Sto} {H : Hp} {p : Addr} {ds : List D} {vs : List V} (s : StOk (g.push p) A st H) (hp : H p = some (.lst vs)) (r : Reps (g.push p) A H ds vs) (hn : p ∉ g.M) : StOk g (A ++ [p]) (st ++ [.lst ds]) H := by
  have np := (s.res p List.mem_cons_self).1
  refine ⟨by simp [s.len], nodup_snoc s.nd np, fun l a u e1 e2 => ?_, fun m hm => ?_⟩
  · by_cases hl : l < A.length
    · rw [List.getElem?_append_left hl] at e1
      rw [List.getElem?_append_left (by rw [← s.len]; exact hl)] at e2
      have o := s.obj l a u e1 e2
      exact ObR.map (g := g.push p) (g' := g) (A := A) (A' := A ++ [p]) rfl rfl rfl (fun _ _ h => h.own hp) (fun _ _ h => h.own hp) o
    · have hl' : l = A.length := by
        have := (List.getElem?_eq_some_iff.mp e1).1
        simp at this; omega
      subst hl'
      simp at e1
      rw [s.len] at e2
      simp at e2
      subst e1; subst e2; exact ⟨vs, hp, r.own hp⟩
  · obtain ⟨n, u, q⟩ := s.res m (List.mem_cons_of_mem _ hm)
    refine ⟨?_, u, q⟩
    simp only [List.mem_append, List.mem_singleton, not_or]
    exact ⟨n, fun z => hn (by rw [← z]; exact hm)⟩
def dCompM (vs : List Nat) (src : DA) (tg : Tg) (t : DT) (f : DE) : DE := fun env st => (src env st).bind fun ds st => (compL tg t f (wipeE env vs) ds st).bind fun ys st => if ys.length ≤ 1000000 then .ok (.loc st.length) (st ++ [.lst ys]) else .bad
section
variable {X : Cx} {g : Gh} {W : WX}
/-- the reading of the loop -/
theorem comp_runM {src : DA} {t : TG} {tgd : Tg} {tt : DT} {f : DE} {vs : List Nat} {tt' : TT} {te' : TE} (ht : ∀ M, TgOk (g.wm M) X.K t tgd) (own : TgOwn t vs) (htt : ∀ M σ H Q, tT (g.wm M) W0 tt σ H Q → tt' σ H Q) (hte : ∀ M σ H Q, tD (g.wm M) W0 f σ H Q → te' σ H Q)
    {σ : L2.St} {H : Hp} {Q : VK} (q : tD g W (dCompM vs src tgd tt f) σ H Q) : tLc (tY g W src) t tt' te' vs σ H Q := by
  obtain ⟨A, env, st, M, q⟩ := q
  refine ⟨A, env, st, M, ?_⟩
  unfold dCompM at q
  cases e : src env st with
  | exc c st1 => rw [e] at q; exact q
  | bad => rw [e] at q; exact q
  | ok ds st1 =>
    rw [e, Rs.bind_ok] at q
    intro A1 H1 J x1 s1 Y P hP
    cases eL : compL tgd tt f (wipeE env vs) ds st1 with
    | bad => rw [eL] at q; exact q.elim
    | exc c st2 => exact absurd eL (compL_noexc _ _ _ _)
    | ok ys st2 =>
      rw [eL, Rs.bind_ok] at q
      split at q
      · rename_i hlen
        have EnW : EnOk (g.push P) A1 (wipeE env vs) (wipe σ vs) (upd H1 P (.lst [])) := ((M.env.ext x1).wipe vs).res hP
        have hM : ∀ m ∈ P :: g.M, m ∈ g.M ∨ H1 m = none := fun m hm => (List.mem_cons.mp hm).elim (fun z => .inr (z ▸ hP)) .inl
        refine ⟨fun i m H' => m = ds.length - i ∧ i ≤ ds.length ∧ ∃ A2 st3 acc accd zs, Ext A1 H1 A2 H' ∧ StOk (g.push P) A2 st3 H' ∧ H' P = some (.lst acc) ∧ Reps (g.push P) A2 H' accd acc ∧ EnOk (g.push P) A2 (wipeE env vs) (wipe σ vs) H' ∧
            compL tgd tt f (wipeE env vs) (ds.drop i) st3 = .ok zs st2 ∧ accd ++ zs = ys,
          ⟨ds.length, by simp, Nat.zero_le _, A1, st1, [], [], ys, ext_val s1 hP, s1.push hP, upd_same, .nil, EnW, by rw [List.drop_zero]; exact eL, rfl⟩, ?_⟩
        rintro i m H' ⟨rfl, hi, A2, st3, acc, accd, zs, x2, s2, hacc, racc, en2, eC, ey⟩
        have nP := (s2.res P List.mem_cons_self).1
        obtain ⟨y1, y2⟩ := Y i (P :: g.M) A2 H' st3 x2 hM s2
        by_cases hlt : i < ds.length
        · obtain ⟨go, yl⟩ := y1 hlt
          refine .inr ⟨go, fun H'' => ∃ A3 st4 acc' accd' zs', Ext A1 H1 A3 H'' ∧ StOk (g.push P) A3 st4 H'' ∧ H'' P = some (.lst acc') ∧ Reps (g.push P) A3 H'' accd' acc' ∧ EnOk (g.push P) A3 (wipeE env vs) (wipe σ vs) H'' ∧ compL tgd tt f (wipeE env vs) (ds.drop (i + 1)) st4 = .ok zs' st2 ∧ accd' ++ zs' = ys,
            fun H'' ⟨A3, st4, acc', accd', zs', n⟩ => ⟨ds.length - (i + 1), by omega, rfl, hlt, A3, st4, acc', accd', zs', n⟩, fun v H'' y => ?_⟩
          obtain ⟨d, ed, x3, s3, r3⟩ := yl v H'' y
          rw [drop_get ed] at eC
          obtain ⟨env1, b, s4, e1, e2, e3⟩ := compL_step eC
          have M3 : Mt (g.push P) A2 (wipeE env vs) st3 (wipe σ vs) H'' := ⟨en2.ext x3, s3⟩
          have hacc3 := (x3.keep P _ nP hacc).2
          have fin := own v (wipe σ vs) H'' (fun σ2 H2 => tt' σ2 H2 fun b H3 => if b = true then te' σ2 H3 fun y H4 => ∃ acc, H4 P = some (.lst acc) ∧ acc.length < sizeLine ∧ (∃ A3 st4 acc' accd' zs', Ext A1 H1 A3 (upd H4 P (.lst (acc ++ [y]))) ∧ StOk (g.push P) A3 st4 (upd H4 P (.lst (acc ++ [y]))) ∧ (upd H4 P (.lst (acc ++ [y]))) P = some (.lst acc') ∧ Reps (g.push P) A3 (upd H4 P (.lst (acc ++ [y]))) accd' acc' ∧ EnOk (g.push P) A3 (wipeE env vs) (wipe σ vs) (upd H4 P (.lst (acc ++ [y]))) ∧ compL tgd tt f (wipeE env vs) (ds.drop (i + 1)) st4 = .ok zs' st2 ∧ accd' ++ zs' = ys)
            else (∃ A3 st4 acc' accd' zs', Ext A1 H1 A3 H3 ∧ StOk (g.push P) A3 st4 H3 ∧ H3 P = some (.lst acc') ∧ Reps (g.push P) A3 H3 accd' acc' ∧ EnOk (g.push P) A3 (wipeE env vs) (wipe σ vs) H3 ∧ compL tgd tt f (wipeE env vs) (ds.drop (i + 1)) st4 = .ok zs' st2 ∧ accd' ++ zs' = ys))
            (ht (P :: g.M) A2 st3 (wipe σ vs) H'' (wipeE env vs) env1 d v _ M3 r3 e1 fun σ2 M2 => ?_)
          · rw [wipe_wipe] at fin
            exact fin
          · refine htt (P :: g.M) _ _ _ ⟨A2, env1, st3, M2, ?_⟩
            rw [e2]
            intro A3 b' H3 x4 s5 eb
            have eb' : b = b' := eb
            subst eb'
            have nP3 := (s5.res P List.mem_cons_self).1
            have hacc4 := (x4.keep P _ nP hacc3).2
            have x5 := (x2.trans x3).trans x4
            rcases e3 with ⟨rfl, e3⟩ | ⟨y', s6, ys', rfl, e4, e5, ez⟩
            · rw [if_neg Bool.false_ne_true]
              exact ⟨A3, s4, acc, accd, zs, x5, s5, hacc4, (racc.ext x3).ext x4, (en2.ext x3).ext x4, e3, ey⟩
            · rw [if_pos rfl]
              refine hte (P :: g.M) _ _ _ ⟨A3, env1, s4, ⟨M2.env.ext x4, s5⟩, ?_⟩
              rw [e4]
              intro A4 w H4 x6 s7 rw'
              have hacc5 := (x6.keep P _ nP3 hacc4).2
              have hl : accd.length = acc.length := racc.len
              have hm : P ∈ (g.push P).M := List.mem_cons_self
              refine ⟨acc, hacc5, ?_, A4, s6, acc ++ [w], accd ++ [y'], ys', ?_, s7.more hacc5 hm, upd_same, ?_, ?_, e5, ?_⟩
              · rw [sizeLine_eq]
                have := congrArg List.length ey
                rw [ez, List.length_append, List.length_cons] at this
                omega
              · have x7 := x5.trans x6
                exact ⟨x7.pre, fun c o n q => ⟨(x7.keep c o n q).1, by rw [upd_ne (ne_of_none q hP)]; exact (x7.keep c o n q).2⟩⟩
              · exact ((((racc.ext x3).ext x4).ext x6).more hacc5 hm).append (.cons (rw'.more hacc5 hm) .nil)
              · exact (((en2.ext x3).ext x4).ext x6).more hacc5 hm
              · rw [List.append_assoc, ← ey, ez]; rfl
        · refine .inl ⟨y2 (by omega), ?_⟩
          rw [List.drop_of_length_le (by omega)] at eC
          cases eC
          rw [List.append_nil] at ey
          subst ey
          refine q (A2 ++ [P]) (.ref P) H' (x1.trans (x2.trans0 hP)) (s2.own hacc racc (s1.new_res hP)) ?_
          unfold Rep
          exact ⟨P, rfl, by rw [← s2.len]; simp⟩
      · exact q.elim

theorem de_lcM {elt tg iter : Expr} {ifs : List Expr} {scope : Scope} {own : List (Str × Nat)} {pos : Pos} {src : DA} {t : TG} {tgd : Tg} {tt : DT} {f : DE} (hc : X.calm = true) (hN : X.N.Nodup) (hi : PI X tg iter (tY g W src)) (ok : BlkOk X.N X.env.scope scope own)
    (ht : ∀ M, TgOk (g.wm M) X.K t tgd) (hown : TgOwn t (own.map (·.2)))
    (hg : ∀ (s : Shared) (H : Hp) (C : Addr) (cl : List (Str × Addr)) (fp : List Addr), PG (X.blk s H scope (compEnvC scope cl C X.env) fp) tg t)
    (htt : ∀ (M : List Addr) (s : Shared) (H : Hp) (C : Addr) (cl : List (Str × Addr)) (fp : List Addr), PTs (X.blk s H scope (compEnvC scope cl C X.env) fp) ifs (tT (g.wm M) W0 tt))
    (he : ∀ (M : List Addr) (s : Shared) (H : Hp) (C : Addr) (cl : List (Str × Addr)) (fp : List Addr), PE (X.blk s H scope (compEnvC scope cl C X.env) fp) elt (tD (g.wm M) W0 f))
    (hs : ∀ x, foldedSetIterable iter X.env x = pure x) : PE X (.ListComp elt [⟨tg, iter, ifs, 0⟩] scope pos) (tD g W (dCompM (own.map (·.2)) src tgd tt f)) :=
  pe_imp (pe_lc (tt := fun σ H Q => ∃ M, tT (g.wm M) W0 tt σ H Q) (te := fun σ H Q => ∃ M, tD (g.wm M) W0 f σ H Q) hc hN hi ok hg
    (fun s H C cl fp => ⟨fun pins s' σ H' Q I ⟨M, q⟩ => (htt M s H C cl fp).run pins s' σ H' Q I q⟩)
    (fun s H C cl fp => ⟨fun pins s' σ H' Q I ⟨M, q⟩ => (he M s H C cl fp).run pins s' σ H' Q I q⟩) hs) fun σ H Q q =>
    comp_runM ht hown (fun M σ H Q q => ⟨M, q⟩) (fun M σ H Q q => ⟨M, q⟩) q
theorem ds_setLcM {y : Str} {py : Pos} {elt tg iter : Expr} {ifs : List Expr} {scope : Scope} {own : List (Str × Nat)} {pos spos : Pos} {src : DA} {t : TG} {tgd : Tg} {tt : DT} {f : DE} (i : Nat) (hc : X.calm = true) (hN : X.N.Nodup) (hy : X.N[i]? = some y) (hyl : X.env.scope.names.lookup y = some .local)
    (hsw : swapsWith (.ListComp elt [⟨tg, iter, ifs, 0⟩] scope pos) (some (.Name y py)) spos.line X.env = pure true) (hi : PI X tg iter (tY g W src)) (ok : BlkOk X.N X.env.scope scope own)
    (ht : ∀ M, TgOk (g.wm M) X.K t tgd) (hown : TgOwn t (own.map (·.2)))
    (hg : ∀ (s : Shared) (H : Hp) (C : Addr) (cl : List (Str × Addr)) (fp : List Addr), PG (X.blk s H scope (compEnvC scope cl C X.env) fp) tg t)
    (htt : ∀ (M : List Addr) (s : Shared) (H : Hp) (C : Addr) (cl : List (Str × Addr)) (fp : List Addr), PTs (X.blk s H scope (compEnvC scope cl C X.env) fp) ifs (tT (g.wm M) W0 tt))
    (he : ∀ (M : List Addr) (s : Shared) (H : Hp) (C : Addr) (cl : List (Str × Addr)) (fp : List Addr), PE (X.blk s H scope (compEnvC scope cl C X.env) fp) elt (tD (g.wm M) W0 f))
    (hs : ∀ x, foldedSetIterable iter X.env x = pure x) : PS X (.Assign [.Name y py] (.ListComp elt [⟨tg, iter, ifs, 0⟩] scope pos) spos) (tS g W (dSet (tgN i) (dCompM (own.map (·.2)) src tgd tt f))) :=
  ps_imp (ps_setLc (tt := fun σ H Q => ∃ M, tT (g.wm M) W0 tt σ H Q) (te := fun σ H Q => ∃ M, tD (g.wm M) W0 f σ H Q) hc hN hy hyl hsw hi ok hg
    (fun s H C cl fp => ⟨fun pins s' σ H' Q I ⟨M, q⟩ => (htt M s H C cl fp).run pins s' σ H' Q I q⟩)
    (fun s H C cl fp => ⟨fun pins s' σ H' Q I ⟨M, q⟩ => (he M s H C cl fp).run pins s' σ H' Q I q⟩) hs) fun D σ H q => by
    have q' := set_imp (g := g) (W := W) (K := X.K) (tgN_ok i) q
    exact comp_runM ht hown (fun M σ H Q q => ⟨M, q⟩) (fun M σ H Q q => ⟨M, q⟩) q'
end

/-! ### what a def leaves behind: the store as it was -/
mutual
/-- places at n and above are lists that were made here: taken by value -/
inductive Thaw (n : Nat) (ext : Sto) : D → D → Prop
  | non : Thaw n ext .non .non
  | bl (b : Bool) : Thaw n ext (.bl b) (.bl b)
  | int (i : Int) : Thaw n ext (.int i) (.int i)
  | str (s : Str) : Thaw n ext (.str s) (.str s)
  | kt (s : List Str) : Thaw n ext (.kt s) (.kt s)
  | fn (i : Nat) : Thaw n ext (.fn i) (.fn i)
  | scr (ns : List Int) : Thaw n ext (.scr ns) (.scr ns)
  | tup {ds es : List D} (h : ThawL n ext ds es) : Thaw n ext (.tup ds) (.tup es)
  | lst {ds es : List D} (h : ThawL n ext ds es) : Thaw n ext (.lst ds) (.lst es)
  | loc {l : Nat} (h : l < n) : Thaw n ext (.loc l) (.loc l)
  | new {l : Nat} {ds es : List D} (hl : ext[l]? = some (.lst ds)) (h : ThawL n ext ds es) : Thaw n ext (.loc (n + l)) (.lst es)
inductive ThawL (n : Nat) (ext : Sto) : List D → List D → Prop
  | nil : ThawL n ext [] []
  | cons {d e : D} {ds es : List D} (h : Thaw n ext d e) (t : ThawL n ext ds es) : ThawL n ext (d :: ds) (e :: es)
end
section
variable {g : Gh} {A B : List Addr} {H : Hp} {st ext : Sto}
mutual
theorem thaw_rep (s : StOk g (A ++ B) (st ++ ext) H) (hn : A.length = st.length) : ∀ {d e : D} {v : V}, Thaw st.length ext d e → Rep g (A ++ B) H d v → Rep g A H e v
  | _, _, _, .non, r => r
  | _, _, _, .bl _, r => r
  | _, _, _, .int _, r => r
  | _, _, _, .str _, r => r
  | _, _, _, .kt _, r => by unfold Rep at r ⊢; exact r
  | _, _, _, .fn _, r => r
  | _, _, _, .scr _, r => by
    unfold Rep at r ⊢
    obtain ⟨a, e, q⟩ := r
    refine ⟨a, e, ?_⟩
    rcases q with ⟨q, n, n2⟩ | q
    · exact .inl ⟨q, fun m => n (List.mem_append_left _ m), n2⟩
    · exact .inr q
  | _, _, _, .tup t, r => by
    unfold Rep at r ⊢
    obtain ⟨a, vs, e, q, n, rr⟩ := r
    exact ⟨a, vs, e, q, fun m => n (List.mem_append_left _ m), thaws_rep s hn t rr⟩
  | _, _, _, .lst t, r => by
    unfold Rep at r ⊢
    obtain ⟨a, vs, e, q, n, rr⟩ := r
    exact ⟨a, vs, e, q, ⟨fun m => n.1 (List.mem_append_left _ m), n.2⟩, thaws_rep s hn t rr⟩
  | _, _, _, .loc h, r => by
    unfold Rep at r ⊢
    obtain ⟨a, e, q⟩ := r
    exact ⟨a, e, by rw [List.getElem?_append_left (by omega)] at q; exact q⟩
  | _, _, _, .new (l := l) (ds := ds) hl t, r => by
    obtain ⟨a, e, q⟩ := rep_loc_inv r
    have e1 : (st ++ ext)[st.length + l]? = some (.lst ds) := by
      rw [List.getElem?_append_right (by omega), Nat.add_sub_cancel_left]; exact hl
    obtain ⟨vs, h1, rr⟩ := s.obj _ a _ q e1
    unfold Rep
    refine ⟨a, vs, e, h1, ⟨fun m => ?_, fun m => (s.res a m).1 (List.mem_of_getElem? q)⟩, thaws_rep s hn t rr⟩
    have nd := s.nd
    rw [List.nodup_append] at nd
    rw [List.getElem?_append_right (by omega)] at q
    exact nd.2.2 a m a (List.mem_of_getElem? q) rfl
theorem thaws_rep (s : StOk g (A ++ B) (st ++ ext) H) (hn : A.length = st.length) : ∀ {ds es : List D} {vs : List V}, ThawL st.length ext ds es → Reps g (A ++ B) H ds vs → Reps g A H es vs
  | _, _, _, .nil, r => by rw [r.nil_inv]; exact .nil
  | _, _, _, .cons h t, r => by
    obtain ⟨v, ws, rfl, r1, r2⟩ := r.cons_inv
    exact .cons (thaw_rep s hn h r1) (thaws_rep s hn t r2)
end
mutual
/-- what stood in a store that is whole has no places beyond it -/
theorem rep_back {A' : List Addr} {H' : Hp} (hA : ∃ B, A' = A ++ B) : ∀ {d : D} {v w : V}, Rep g A H d v → Rep g A' H' d w → Rep g A H' d w
  | .non, _, _, _, r => r
  | .bl _, _, _, _, r => r
  | .int _, _, _, _, r => r
  | .str _, _, _, _, r => r
  | .kt _, _, _, _, r => by unfold Rep at r ⊢; exact r
  | .fn _, _, _, _, r => r
  | .scr _, _, _, _, r => by
    obtain ⟨B, hA⟩ := hA
    subst hA
    unfold Rep at r ⊢
    obtain ⟨a, e, q⟩ := r
    refine ⟨a, e, ?_⟩
    rcases q with ⟨q, n, n2⟩ | q
    · exact .inl ⟨q, fun m => n (List.mem_append_left _ m), n2⟩
    · exact .inr q
  | .tup ds, _, _, r0, r => by
    have hA' := hA
    obtain ⟨B, hA⟩ := hA
    subst hA
    unfold Rep at r r0 ⊢
    obtain ⟨a0, vs0, _, _, _, rr0⟩ := r0
    obtain ⟨a, vs, e, q, n, rr⟩ := r
    exact ⟨a, vs, e, q, fun m => n (List.mem_append_left _ m), reps_back hA' rr0 rr⟩
  | .lst ds, _, _, r0, r => by
    have hA' := hA
    obtain ⟨B, hA⟩ := hA
    subst hA
    unfold Rep at r r0 ⊢
    obtain ⟨a0, vs0, _, _, _, rr0⟩ := r0
    obtain ⟨a, vs, e, q, n, rr⟩ := r
    exact ⟨a, vs, e, q, ⟨fun m => n.1 (List.mem_append_left _ m), n.2⟩, reps_back hA' rr0 rr⟩
  | .loc l, _, _, r0, r => by
    obtain ⟨B, hA⟩ := hA
    subst hA
    unfold Rep at r r0 ⊢
    obtain ⟨a0, _, q0⟩ := r0
    obtain ⟨a, e, q⟩ := r
    exact ⟨a, e, by rw [List.getElem?_append_left (List.getElem?_eq_some_iff.mp q0).1] at q; exact q⟩
theorem reps_back {A' : List Addr} {H' : Hp} (hA : ∃ B, A' = A ++ B) : ∀ {ds : List D} {vs ws : List V}, Reps g A H ds vs → Reps g A' H' ds ws → Reps g A H' ds ws
  | [], _, _, _, r => by rw [r.nil_inv]; exact .nil
  | d :: ds, _, _, r0, r => by
    obtain ⟨v0, ws0, rfl, p0, p1⟩ := r0.cons_inv
    obtain ⟨v, ws, rfl, r1, r2⟩ := r.cons_inv
    exact .cons (rep_back hA p0 r1) (reps_back hA p1 r2)
end
theorem prd_back {κ : Type} {A' : List Addr} {H' : Hp} (hA : ∃ B, A' = A ++ B) : ∀ {kvs : List (κ × D)} {k1 k2 : List (κ × V)}, Paired (fun (p : κ × D) (q : κ × V) => p.1 = q.1 ∧ Rep g A H p.2 q.2) kvs k1 → Paired (fun (p : κ × D) (q : κ × V) => p.1 = q.1 ∧ Rep g A' H' p.2 q.2) kvs k2 → Paired (fun (p : κ × D) (q : κ × V) => p.1 = q.1 ∧ Rep g A H' p.2 q.2) kvs k2
  | _, _, _, .nil, .nil => .nil
  | _, _, _, .cons a t, .cons b u => .cons ⟨b.1, rep_back hA a.2 b.2⟩ (prd_back hA t u)
theorem obr_back {A' : List Addr} {H' : Hp} (hA : ∃ B, A' = A ++ B) {a a' : Addr} : ∀ {o : Ob}, ObR g A H a o → ObR g A' H' a' o → ObR g A H' a' o
  | .lst ds, ⟨_, _, r0⟩, ⟨vs, e, r⟩ => ⟨vs, e, reps_back hA r0 r⟩
  | .dk true kvs, ⟨_, _, r0, _⟩, ⟨kv', e, r, ko⟩ => ⟨kv', e, prd_back hA r0 r, ko⟩
  | .dk false kvs, ⟨_, _, r0, _⟩, ⟨kv', e, r, ko⟩ => ⟨kv', e, prd_back hA r0 r, ko⟩
  | .dt true kvs, ⟨_, _, r0, _⟩, ⟨kv', e, r, ko⟩ => ⟨kv', e, prd_back hA r0 r, ko⟩
  | .dt false kvs, ⟨_, _, r0, _⟩, ⟨kv', e, r, ko⟩ => ⟨kv', e, prd_back hA r0 r, ko⟩
  | .ins c fs, ⟨_, _, _, _, r0⟩, ⟨dx, vs, e, hl, r⟩ => ⟨dx, vs, e, hl, reps_back hA r0 r⟩
/-- back to the store that was there before, if it was left as it was -/
theorem StOk.back {A' : List Addr} {H' : Hp} (s : StOk g A st H) (x : Ext A H A' H') (s' : StOk g A' (st ++ ext) H') : StOk g A st H' ∧ Ext A H A H' := by
  obtain ⟨B, e⟩ := x.pre
  have e' := e
  subst e
  have hl := s.len
  refine ⟨⟨hl, s.nd, fun l a o e1 e2 => ?_, fun m hm => ?_⟩, ⟨⟨[], by simp⟩, fun b o n q => ⟨n, (x.keep b o n q).2⟩⟩⟩
  · have h1 : l < A.length := (List.getElem?_eq_some_iff.mp e1).1
    have o' := s'.obj l a o (by rw [List.getElem?_append_left h1]; exact e1) (by rw [List.getElem?_append_left (by omega)]; exact e2)
    exact obr_back ⟨B, rfl⟩ (s.obj l a o e1 e2) o'
  · obtain ⟨n, u, q⟩ := s'.res m hm
    exact ⟨fun z => n (List.mem_append_left _ z), u, q⟩
end
/-- F', told of F: the same, what F made thrown away -/
def Fn.pure (F' F : Fn) : Prop := ∀ ds st, match F' ds st with
  | .bad => True
  | .exc c st' => st' = st ∧ ∃ ext, F ds st = .exc c (st ++ ext)
  | .ok e st' => st' = st ∧ ∃ ext d, F ds st = .ok d (st ++ ext) ∧ Thaw st.length ext d e
theorem spD_pure {g : Gh} {n : Nat} {F F' : Fn} (h : Fn.pure F' F) {vs : List V} {H : Hp} {Q : VK} {E : XK} (q : spD g n F' vs H Q E) : spD g n F vs H Q E := by
  obtain ⟨M, A, st, ds, s, r, l, q⟩ := q
  refine ⟨M, A, st, ds, s, r, l, ?_⟩
  have hh := h ds st
  cases e : F' ds st with
  | bad => rw [e] at q; exact q.elim
  | exc c st' =>
    rw [e] at hh q
    obtain ⟨rfl, ext, e2⟩ := hh
    rw [e2]
    intro A' H' dx x s'
    obtain ⟨s2, x2⟩ := s.back x s'
    exact q A H' dx x2 s2
  | ok d' st' =>
    rw [e] at hh q
    obtain ⟨rfl, ext, d, e2, t⟩ := hh
    rw [e2]
    intro A' v H' x s' r'
    obtain ⟨s2, x2⟩ := s.back x s'
    obtain ⟨B, eB⟩ := x.pre
    subst eB
    exact q A v H' x2 s2 (thaw_rep s' s.len t r')
theorem GFn.pure {P : Program} {w : World} {g : Gh} {mg : Str → Option Value} {base : Heap} {x : Str} {k n : Nat} {F F' : Fn} (G : GFn P w g mg base x k n F) (h : Fn.pure F' F) : GFn P w g mg base x k n F' := by
  obtain ⟨f, fd, ps, h1, h2, h3, h4⟩ := G.ex
  exact ⟨f, fd, ps, h1, h2, h3.imp fun vs H Q E q => spD_pure h q, h4⟩
end DL

/-! DL12: defs by the names of the top. -/
namespace DL
open PySem PySem.Spec PyProof.Rows L2

/-- the top's name x holds a def -/
structure DefOk (K : PySem.W.Frag) (mg : Str → Option Value) (x : Str) (st : Stmt) (ps : List Str) : Prop where
  ex : ∃ (f : Addr) (fd : FuncData), Fun K x x st f fd ∧ mg x = some (.ref f) ∧ Binds K fd ps []
theorem DefOk.mk' {K : PySem.W.Frag} {h : Heap} {mg : Str → Option Value} {f : Addr} {x : Str} {st : Stmt} {oc : Value} {od an : Option Addr} {osl : Array (Option Value)} {kV doc pm cdv ct : Value} {ps : List Str} (X : K.In h) (G : h.Ns mainGlobals mg) (a : PySem.W.nsIn K mainGlobals x = some (some (.ref f)))
    (l : K.lookup f = some ⟨oc, od, .func (PySem.W.fnOf x x (defArgs st) (defBody st) (defScope st) .none kV doc pm an cdv ct), osl⟩) (c : PySem.W.codeIn K cdv x = true) (k : PySem.W.keepIn K (.ref f) = true)
    (hb : ∀ (kV doc pm : Value) (an : Option Addr) (cdv ct : Value) (us : List Value), us.length = ps.length → bindArgs (PySem.W.fnOf x x (defArgs st) (defBody st) (defScope st) .none kV doc pm an cdv ct) ⟨us, []⟩ = pure (ps.zip us)) : DefOk K mg x st ps :=
  ⟨f, _, fun_mk l c k, PySem.W.mg_of X G a, (fun_mk l c k).binds hb⟩
section
variable {P : Program} {w : World} {g : Gh} {mg : Str → Option Value} {base : Heap}
theorem GFn.wm {x : Str} {k n : Nat} {F : Fn} (G : GFn P w g mg base x k n F) (M : List Addr) : GFn P w (g.wm M) mg base x k n F := ⟨G.ex⟩
theorem GFn.of {x : Str} {st : Stmt} {N ps : List Str} {k n nn : Nat} {b : DS} (F : DefOk g.K mg x st ps) (S : FnScope N ps (defScope st)) (hn : ps.length = n) (hnn : N.length = nn)
    (hbody : ∀ (f : Addr) (M : List Addr) (cdv : Value) (A : Around) (outer : List Env) (s : Shared) (H : Hp) (E : XK), Room k (A.deeper (envOfC x (defScope st) s.heap.objs.size f cdv)) →
      L2N.Takes (cxOf (L2N.CX P w) P w g.K mg base N x (defScope st) f cdv A outer s H E) (fun cls d _ H => E cls d H) →
      PassesOwn (model P w) (A.deeper (envOfC x (defScope st) s.heap.objs.size f cdv)) (envOfC x (defScope st) s.heap.objs.size f cdv) (cxOf (L2N.CX P w) P w g.K mg base N x (defScope st) f cdv A outer s H E).xe →
      PSs (cxOf (L2N.CX P w) P w g.K mg base N x (defScope st) f cdv A outer s H E) (defBody st) (tS (g.wm M) (fun cls d _ H => E cls d H) b)) : GFn P w g mg base x (k + 1) n (runF nn b) := by
  obtain ⟨f, fd, hF, hm, hb⟩ := F.ex
  exact ⟨f, fd, ps, hm, hF.kp, fn_rule hF S hn hnn (hbody f), hb⟩
end
section
variable {X : Cx} {g : Gh} {W : WX}
/-- a number of the top -/
def GInt (mg : Str → Option Value) (x : Str) (i : Int) : Prop := ∃ u, mg x = some u ∧ RelV (.int i) u
theorem de_gint {x : Str} {i : Int} {pos : Pos} (G : GInt X.mg x i) (hg : Gl X x) (hd : (x == ("__debug__" : Str)) = false) : PE X (.Name x pos) (tD g W (dC (.int i))) := by
  obtain ⟨u, hm, r⟩ := G
  exact de_const (pe_glob hg hm r hd) fun _ _ => rep_int i
theorem GInt.mk' {K : PySem.W.Frag} {h : Heap} {mg : Str → Option Value} {x : Str} {i : Int} {t : Tok} (X : K.In h) (G : h.Ns mainGlobals mg) (a : PySem.W.nsIn K mainGlobals x = some (some (.int i t))) : GInt mg x i := ⟨_, PySem.W.mg_of X G a, t, rfl⟩
theorem uu {k : Nat} {A : Around} (hr : Room k A) : A.units + 64 < cLine := by have := hr.un; omega
theorem uu1 {k : Nat} {A : Around} (hr : Room k A) : A.units + 1 < cLine := by have := hr.un; omega
theorem uu0 {k : Nat} {A : Around} (hr : Room k A) : A.units < cLine := by have := hr.un; omega
end
end DL

/-! DL13: what is walked, whatever it is. -/
namespace DL
open PySem PySem.Spec PyProof.Rows L2
section
variable {X : Cx} {tg : Expr}
def iAny (K : PySem.W.Frag) (tl : TE) : TI := fun σ H R => tl σ H fun x H1 => (∃ a, x = .ref a ∧ (∃ xs, SqL K H1 a xs) ∧ R (Itl K a) H1) ∨ (∃ a, x = .ref a ∧ (∃ xs, SqT K H1 a xs) ∧ R (Itt K a) H1) ∨ ∃ z, x = .str z ∧ R (Its z) H1
theorem pi_any {l : Expr} {tl : TE} (hl : PE X l tl) : PI X tg l (iAny X.K tl) := by
  refine ⟨fun pins s σ H R I h => ?_⟩
  refine thn (hl.run pins s σ H _ I h) fun v s1 ⟨x, H1, I1, r1, q1⟩ => ?_
  have new : ∀ b ∈ [s1.heap.objs.size], FpOk X pins H1 b := fun b hb => by
    have e : b = s1.heap.objs.size := by simpa using hb
    rw [e]
    exact I1.fpOk (Nat.le_refl _) (I1.hok.fresh (Nat.le_refl _))
  rcases q1 with ⟨a, e, ⟨xs, hq⟩, q⟩ | ⟨a, e, ⟨xs, hq⟩, q⟩ | ⟨z, e, q⟩
  · subst e
    cases r1
    obtain ⟨its, rv, p, hz⟩ := I1.list hq
    exact wpAny_pyIter_list p.isList ⟨s1.heap.objs.size, [s1.heap.objs.size], _, _, H1, rfl, I1.kept (t' := s1.toks) fun b o e => Heap.get?_push_of_some _ e, turn_list a _, ⟨_, Heap.get?_push_size _ rfl, rfl, rfl⟩, new, q⟩
  · subst e
    cases r1
    obtain ⟨its, rv, p, hz⟩ := I1.tuple hq
    exact wpAny_pyIter_tuple (show s1.heap.IsTuple a its.toArray from p) ⟨s1.heap.objs.size, [s1.heap.objs.size], _, _, H1, rfl, I1.kept (t' := s1.toks) fun b o e => Heap.get?_push_of_some _ e, turn_tuple a _, ⟨_, Heap.get?_push_size _ rfl, rfl, rfl⟩, new, q⟩
  · subst e
    obtain ⟨t, rfl⟩ := r1
    cases ha : z.cps.all (· < 128)
    · exact wpAny_pyIter_wide ha (pi_one (tk := s1.toks) I1 _ (turn_str _ z t "str_iterator" (.inr rfl)) ⟨_, Heap.get?_push_size _ rfl, rfl, rfl⟩ q)
    · exact wpAny_pyIter_ascii ha (pi_one (tk := s1.toks) I1 _ (turn_str _ z t "str_ascii_iterator" (.inl rfl)) ⟨_, Heap.get?_push_size _ rfl, rfl, rfl⟩ q)
end
section
variable {X : Cx} {g : Gh} {W : WX}
def asAny : D → Sto → Rs (List D)
  | .lst ds, st => .ok ds st
  | .tup ds, st => .ok ds st
  | .str z, st => .ok (signs z) st
  | .scr ns, st => .ok (ns.map D.int) st
  | _, _ => .bad
def dIterA (f : DE) : DA := fun env st => (f env st).bind asAny
theorem yields_scr {A : List Addr} {H : Hp} {ns : List Int} {a : Addr} (h : (Rd H a (.lst (ns.map V.int)) ∧ a ∉ A ∧ a ∉ g.M) ∨ KLst g.K a (ns.map V.int)) : Yields g (Itl g.K a) A H (ns.map D.int) := fun i M A2 H2 st x hM s => by
  have h2 : SqL g.K H2 a (ns.map V.int) := by
    rcases h with ⟨h, n, _⟩ | h
    · exact .inl (x.rd h n).1
    · exact .inr h
  refine ⟨fun hi => ⟨⟨_, (ns.map V.int)[i]'(by simpa using hi), h2, by simp⟩, fun v H' y => ?_⟩, fun hi => ⟨_, h2, by simpa using hi⟩⟩
  obtain ⟨e, y⟩ := y
  subst e
  have e := y _ h2
  rw [List.getElem?_map] at e
  obtain ⟨n, e1, e2⟩ := Option.map_eq_some_iff.mp e
  exact ⟨.int n, by rw [List.getElem?_map, e1]; rfl, .refl _ _, s, by rw [← e2]; exact rep_int n⟩
theorem rep_scr_inv' {A : List Addr} {H : Hp} {ns : List Int} {v : V} (r : Rep g A H (.scr ns) v) : ∃ a, v = .ref a ∧ ((Rd H a (.lst (ns.map V.int)) ∧ a ∉ A ∧ a ∉ g.M) ∨ KLst g.K a (ns.map V.int)) := by
  unfold Rep at r; exact r
theorem di_any {tg e : Expr} {f : DE} (hK : g.K = X.K) (he : PE X e (tD g W f)) : PI X tg e (tY g W (dIterA f)) :=
  pi_imp (pi_any he) fun σ H R q => tY.of (rel := Rep g) (fun _ _ => rfl) (fun A d st1 v H1 s r => by
    unfold asAny
    cases d with
    | lst ds =>
      refine ⟨fun _ _ e => by cases e; rfl, fun ds' e k => ?_, fun _ _ e => (nomatch e)⟩
      cases e
      obtain ⟨a, vs, rfl, h, na, rr⟩ := rep_lst_inv r
      exact .inl ⟨a, rfl, ⟨vs, SqL.of h⟩, k _ (hK ▸ yields_lst h na rr)⟩
    | tup ds =>
      refine ⟨fun _ _ e => by cases e; rfl, fun ds' e k => ?_, fun _ _ e => (nomatch e)⟩
      cases e
      obtain ⟨a, vs, rfl, h, na, rr⟩ := rep_tup_inv' r
      exact .inr (.inl ⟨a, rfl, ⟨vs, SqT.of h⟩, k _ (hK ▸ yields_tup h na rr)⟩)
    | str z =>
      refine ⟨fun _ _ e => by cases e; rfl, fun ds' e k => ?_, fun _ _ e => (nomatch e)⟩
      cases e
      obtain ⟨rfl, ok⟩ := rep_str_inv r
      exact .inr (.inr ⟨z, rfl, k _ (yields_str ok)⟩)
    | scr ns =>
      refine ⟨fun _ _ e => by cases e; rfl, fun ds' e k => ?_, fun _ _ e => (nomatch e)⟩
      cases e
      obtain ⟨a, rfl, h⟩ := rep_scr_inv' r
      refine .inl ⟨a, rfl, ⟨ns.map V.int, ?_⟩, k _ (hK ▸ yields_scr h)⟩
      rw [← hK]
      rcases h with ⟨h, _⟩ | h
      · exact .inl h
      · exact .inr h
    | _ => exact ⟨fun _ _ e => (nomatch e), fun _ e => (nomatch e), fun _ _ e => (nomatch e)⟩) q
end
end DL

/-! DL14: the end. -/
namespace DL
open PySem PySem.Spec PyProof.Rows L2

/-- the ghost of the top: no class, no def as a value -/
def gh0 (K : PySem.W.Frag) : Gh := ⟨K, fun _ => 0, fun _ => 0, fun _ => [], []⟩
/-- what a law's script may be -/
def Scr (ns : List Int) : Prop := ns.length ≤ 63 ∧ ∀ z ∈ ns, Builtin.Int.intBits z ≤ 1048576
def LawF (P : Program) (w : World) (g : Gh) (mg : Str → Option Value) (base : Heap) (k : Nat) (fa : Addr) (fd : FuncData) (x : Str) (F : Fn) : Prop := FnOk P w g.K mg base (L2N.CX P w) k fa fd [x] (spD g 1 F)
theorem walk_end {l : PySem.W.OpenLaw} {q : Program} {loose : List Str} {XP : (Str → Option Value) → Heap → Prop} {YP : World → Heap → Prop} {d : DefRec} {K : Params → PySem.W.Frag} {k : Nat} {x : Str} {F : Fn} (gh : PySem.W.Frag → Gh) (hK : ∀ K, (gh K).K = K) (hn : l.most = some 63) (hdf : d.params.defaults = [])
    (hr : Room k callerA) (hY : ∀ (w : World) (h : Heap), YP w h → (K w.params).In h)
    (hF : ∀ (w : World) (mg : Str → Option Value) (fa : Addr) (h : Heap), (K w.params).In h → h.Ns mainGlobals mg → mg d.name = some (.ref fa) →
      ∃ fd : FuncData, (∀ (s : Shared) (u : Value), BindsTo s fd ⟨[u], []⟩ [(x, u)]) ∧ ∀ base : Heap, (K w.params).In base → base.Ns mainGlobals mg → LawF l.prog w (gh (K w.params)) mg base k fa fd x F)
    (hlaw : ∀ ns : List Int, Scr ns → ∃ st, F [.scr ns] [] = .ok (.bl true) st) : PySem.W.WalkO q loose XP YP l.row.toRowW d [] (fun f vs => PySem.call f vs) :=
  L2.walk_ofB (n := 63) (k := k) (x := x) (CX := fun w => L2N.CX l.prog w) (sp := fun w => spD (gh (K w.params)) 1 F) hn (by decide) hdf hr hY
    (fun w mg fa h KX G hmg => by
      obtain ⟨fd, h1, h2⟩ := hF w mg fa h KX G hmg
      refine ⟨fd, h1, fun base b1 b2 => ?_⟩
      have := h2 base b1 b2
      unfold LawF at this
      rw [hK] at this
      exact this)
    (fun w H a ns hl hb hO hS => by
      obtain ⟨st, e⟩ := hlaw ns ⟨hl, hb⟩
      refine ⟨[], [], [], [.scr ns], ⟨rfl, .nil, fun l a o e1 _ => by simp at e1, fun m hm => by cases hm⟩, .cons ?_ .nil, rfl, ?_⟩
      · unfold Rep
        refine ⟨a, rfl, ?_⟩
        rw [show ((gh (K w.params)).wm []).K = K w.params from hK _]
        rcases hS with hS | hS
        · exact .inl ⟨hS, by simp, by simp⟩
        · exact .inr hS
      · rw [e]
        exact fun A' v H' _ _ r => rep_bl_inv r)
    fun _ _ _ _ _ ⟨_, _, _, _, _, _, _, _, _, _, _, _, z⟩ => z
end DL

/-! DL15: what the denotations come to: the words for the plain part. -/
namespace DL
open PySem PySem.Spec PyProof.Rows L2

/-! ### the same, what was made thrown away -/
mutual
theorem thaw_fun {n : Nat} {ext : Sto} : ∀ {d e e' : D}, Thaw n ext d e → Thaw n ext d e' → e = e'
  | _, _, _, .non, h => by cases h; rfl
  | _, _, _, .bl _, h => by cases h; rfl
  | _, _, _, .int _, h => by cases h; rfl
  | _, _, _, .str _, h => by cases h; rfl
  | _, _, _, .kt _, h => by cases h; rfl
  | _, _, _, .fn _, h => by cases h; rfl
  | _, _, _, .scr _, h => by cases h; rfl
  | _, _, _, .tup t, h => by cases h with | tup t' => rw [thawl_fun t t']
  | _, _, _, .lst t, h => by cases h with | lst t' => rw [thawl_fun t t']
  | _, _, _, .loc hl, h => by
    generalize hd : D.loc _ = d at h
    cases h with
    | loc _ => rfl
    | new hl' t' => injection hd with hd; omega
    | _ => cases hd
  | _, _, _, .new (l := l) hl t, h => by
    generalize hd : D.loc (n + l) = d at h
    cases h with
    | loc h2 => injection hd with hd; omega
    | new hl' t' =>
      injection hd with hd
      have e : l = _ := Nat.add_left_cancel hd
      subst e
      rw [hl] at hl'
      cases hl'
      rw [thawl_fun t t']
    | _ => cases hd
theorem thawl_fun {n : Nat} {ext : Sto} : ∀ {d e e' : List D}, ThawL n ext d e → ThawL n ext d e' → e = e'
  | _, _, _, .nil, h => by cases h; rfl
  | _, _, _, .cons a t, h => by cases h with | cons a' t' => rw [thaw_fun a a', thawl_fun t t']
end
mutual
/-- no place in it at n or above -/
def noLoc (n : Nat) : D → Bool
  | .loc l => decide (l < n)
  | .tup ds => noLocs n ds
  | .lst ds => noLocs n ds
  | _ => true
def noLocs (n : Nat) : List D → Bool
  | [] => true
  | d :: ds => noLoc n d && noLocs n ds
end
mutual
theorem thaw_self {n : Nat} {ext : Sto} : ∀ {d : D}, noLoc n d = true → Thaw n ext d d
  | .non, _ => .non
  | .bl _, _ => .bl _
  | .int _, _ => .int _
  | .str _, _ => .str _
  | .kt _, _ => .kt _
  | .fn _, _ => .fn _
  | .scr _, _ => .scr _
  | .loc l, h => .loc (by unfold noLoc at h; exact of_decide_eq_true h)
  | .tup ds, h => .tup (thawl_self (by unfold noLoc at h; exact h))
  | .lst ds, h => .lst (thawl_self (by unfold noLoc at h; exact h))
theorem thawl_self {n : Nat} {ext : Sto} : ∀ {ds : List D}, noLocs n ds = true → ThawL n ext ds ds
  | [], _ => .nil
  | d :: ds, h => by
    unfold noLocs at h
    rw [Bool.and_eq_true] at h
    exact .cons (thaw_self h.1) (thawl_self h.2)
end
open Classical in
noncomputable def Fn.clean (F : Fn) : Fn := fun ds st => match F ds st with
  | .bad => .bad
  | .exc c st' => if ∃ ext, st' = st ++ ext then .exc c st else .bad
  | .ok d st' => if h : ∃ e ext, st' = st ++ ext ∧ Thaw st.length ext d e then .ok h.choose st else .bad
theorem Fn.clean_pure (F : Fn) : Fn.pure (Fn.clean F) F := fun ds st => by
  unfold Fn.clean
  cases e : F ds st with
  | bad => trivial
  | exc c st' =>
    dsimp only
    by_cases h : ∃ ext, st' = st ++ ext
    · rw [if_pos h]
      obtain ⟨ext, e2⟩ := h
      exact ⟨rfl, ext, by rw [e2]⟩
    · rw [if_neg h]
      trivial
  | ok d st' =>
    dsimp only
    by_cases h : ∃ e ext, st' = st ++ ext ∧ Thaw st.length ext d e
    · rw [dif_pos h]
      obtain ⟨ext, e2, t⟩ := h.choose_spec
      exact ⟨rfl, ext, d, by rw [e2], t⟩
    · rw [dif_neg h]
      trivial
theorem Fn.clean_ok {F : Fn} {ds : List D} {st ext : Sto} {d e : D} (h : F ds st = .ok d (st ++ ext)) (t : Thaw st.length ext d e) : Fn.clean F ds st = .ok e st := by
  unfold Fn.clean
  rw [h]
  dsimp only
  have hh : ∃ e' ext', st ++ ext = st ++ ext' ∧ Thaw st.length ext' d e' := ⟨e, ext, rfl, t⟩
  rw [dif_pos hh]
  obtain ⟨ext', e2, t2⟩ := hh.choose_spec
  have e3 := List.append_cancel_left e2
  subst e3
  rw [thaw_fun t2 t]
theorem Fn.clean_same {F : Fn} {ds : List D} {st : Sto} {d : D} (h : F ds st = .ok d st) (hn : noLoc st.length d = true) : Fn.clean F ds st = .ok d st :=
  Fn.clean_ok (ext := []) (by rw [List.append_nil]; exact h) (thaw_self hn)
theorem Fn.clean_exc {F : Fn} {ds : List D} {st ext : Sto} {c : Nat} (h : F ds st = .exc c (st ++ ext)) : Fn.clean F ds st = .exc c st := by
  unfold Fn.clean
  rw [h]
  dsimp only
  rw [if_pos ⟨ext, rfl⟩]

/-! ### one step each -/
def SR.seq (r : SR) (k : DS) : SR := match r with
  | .nx e st => k e st
  | .rt d st => .rt d st
  | .bk e st => .bk e st
  | .ct e st => .ct e st
  | .exc c e st => .exc c e st
  | .bad => .bad
@[simp] theorem seq_nx (e : En) (st : Sto) (k : DS) : SR.seq (.nx e st) k = k e st := nrfl rfl
@[simp] theorem seq_rt (d : D) (st : Sto) (k : DS) : SR.seq (.rt d st) k = .rt d st := nrfl rfl
@[simp] theorem seq_bk (e : En) (st : Sto) (k : DS) : SR.seq (.bk e st) k = .bk e st := nrfl rfl
@[simp] theorem seq_ct (e : En) (st : Sto) (k : DS) : SR.seq (.ct e st) k = .ct e st := nrfl rfl
@[simp] theorem seq_exc (c : Nat) (e : En) (st : Sto) (k : DS) : SR.seq (.exc c e st) k = .exc c e st := nrfl rfl
@[simp] theorem dSeq_def (f k : DS) (env : En) (st : Sto) : dSeq f k env st = SR.seq (f env st) k := by
  unfold dSeq SR.seq
  cases f env st <;> rfl
def SR.fin (r : SR) : Rs D := match r with
  | .nx _ st => .ok .non st
  | .rt d st => .ok d st
  | .exc c _ st => .exc c st
  | _ => .bad
@[simp] theorem fin_nx (e : En) (st : Sto) : SR.fin (.nx e st) = .ok .non st := nrfl rfl
@[simp] theorem fin_rt (d : D) (st : Sto) : SR.fin (.rt d st) = .ok d st := nrfl rfl
@[simp] theorem fin_exc (c : Nat) (e : En) (st : Sto) : SR.fin (.exc c e st) = .exc c st := nrfl rfl
@[simp] theorem runF_def (nn : Nat) (b : DS) (ds : List D) (st : Sto) : runF nn b ds st = SR.fin (b (ds.map some ++ List.replicate (nn - ds.length) none) st) := by
  unfold runF SR.fin
  cases b (ds.map some ++ List.replicate (nn - ds.length) none) st <;> rfl
@[simp] theorem dNext_def (env : En) (st : Sto) : dNext env st = .nx env st := nrfl rfl
@[simp] theorem dBreak_def (env : En) (st : Sto) : dBreak env st = .bk env st := nrfl rfl
@[simp] theorem dCont_def (env : En) (st : Sto) : dCont env st = .ct env st := nrfl rfl
@[simp] theorem dExpr_def (f : DE) (env : En) (st : Sto) : dExpr f env st = (f env st).thn env fun _ st => .nx env st := nrfl rfl
@[simp] theorem dRet_def (f : DE) (env : En) (st : Sto) : dRet f env st = (f env st).thn env fun d st => .rt d st := nrfl rfl
@[simp] theorem dRetN_def (env : En) (st : Sto) : dRetN env st = .rt .non st := nrfl rfl
@[simp] theorem dIfS_def (t : DT) (f k : DS) (env : En) (st : Sto) : dIfS t f k env st = (t env st).thn env fun c st => if c = true then f env st else k env st := nrfl rfl
@[simp] theorem dSetN_def (i : Nat) (f : DE) (env : En) (st : Sto) : dSet (tgN i) f env st = (f env st).thn env fun d st => .nx (env.set i (some d)) st := nrfl rfl
@[simp] theorem dFor_def (src : DA) (tg : Tg) (b : DS) (env : En) (st : Sto) : dFor src tg b env st = (src env st).thn env fun ds st => loopL tg b ds env st := nrfl rfl
@[simp] theorem dC_def (d : D) (env : En) (st : Sto) : dC d env st = .ok d st := nrfl rfl
@[simp] theorem dV_def {i : Nat} {env : En} {st : Sto} {d : D} (h : env[i]? = some (some d)) : dV i env st = .ok d st := by
  unfold dV; rw [h]
@[simp] theorem runL_nil (env : En) (st : Sto) : runL [] env st = .ok [] st := nrfl rfl
@[simp] theorem runL_cons (f : DE) (fs : List DE) (env : En) (st : Sto) : runL (f :: fs) env st = (f env st).bind fun d st => (runL fs env st).bind fun ds st => .ok (d :: ds) st := nrfl rfl
@[simp] theorem dTup_def (fs : List DE) (env : En) (st : Sto) : dTup fs env st = (runL fs env st).bind fun ds st => .ok (.tup ds) st := nrfl rfl
@[simp] theorem dLst_def (fs : List DE) (env : En) (st : Sto) : dLst fs env st = (runL fs env st).bind fun ds st => .ok (.lst ds) st := nrfl rfl
@[simp] theorem dLstM_def (fs : List DE) (env : En) (st : Sto) : dLstM fs env st = (runL fs env st).bind fun ds st => .ok (.loc st.length) (st ++ [.lst ds]) := nrfl rfl
@[simp] theorem dB_def (h : D → D → Sto → Rs D) (f k : DE) (env : En) (st : Sto) : dB h f k env st = (f env st).bind fun x st => (k env st).bind fun y st => h x y st := nrfl rfl
@[simp] theorem dU_def (h : D → Sto → Rs D) (f : DE) (env : En) (st : Sto) : dU h f env st = (f env st).bind h := nrfl rfl
@[simp] theorem dCall_def (F : Fn) (fs : List DE) (env : En) (st : Sto) : dCall F fs env st = (runL fs env st).bind F := nrfl rfl
@[simp] theorem dMeth_def (chk : Sto → D → Bool) (h : D → List D → Sto → Rs D) (f : DE) (fs : List DE) (env : En) (st : Sto) : dMeth chk h f fs env st = (f env st).bind fun x st => if chk st x = true then (runL fs env st).bind fun ds st => h x ds st else .bad := nrfl rfl
@[simp] theorem dTest_def (f : DE) (env : En) (st : Sto) : dTest f env st = (f env st).bind asB := nrfl rfl
@[simp] theorem asB_bl (b : Bool) (st : Sto) : asB (.bl b) st = .ok b st := nrfl rfl
@[simp] theorem dAnd_def (t u : DT) (env : En) (st : Sto) : dAnd t u env st = (t env st).bind fun c st => if c = true then u env st else .ok false st := nrfl rfl
@[simp] theorem dOr_def (t u : DT) (env : En) (st : Sto) : dOr t u env st = (t env st).bind fun c st => if c = true then .ok true st else u env st := nrfl rfl
@[simp] theorem dNot_def (t : DT) (env : En) (st : Sto) : dNot t env st = (t env st).bind fun c st => .ok (!c) st := nrfl rfl
def andV (k : Rs D) : D → Sto → Rs D
  | .bl true, _ => k
  | .bl false, st => .ok (.bl false) st
  | _, _ => .bad
@[simp] theorem dAndV_def (f k : DE) (env : En) (st : Sto) : dAndV f k env st = (f env st).bind fun c st => match c with
  | .bl true => k env st
  | .bl false => .ok (.bl false) st
  | _ => .bad := nrfl rfl
@[simp] theorem dOrV_def (f k : DE) (env : En) (st : Sto) : dOrV f k env st = (f env st).bind fun c st => match c with
  | .bl true => .ok (.bl true) st
  | .bl false => k env st
  | _ => .bad := nrfl rfl
theorem dAndV_of {f k : DE} {env : En} {st st1 st2 : Sto} {a b : Bool} (h : f env st = .ok (.bl a) st1) (h2 : k env st1 = .ok (.bl b) st1) : dAndV f k env st = .ok (.bl (a && b)) st1 := by
  rw [dAndV_def, h, Rs.bind_ok]
  cases a
  · rfl
  · exact h2
@[simp] theorem dNotV_def (f : DE) (env : En) (st : Sto) : dNotV f env st = (f env st).bind notB := nrfl rfl
@[simp] theorem notB_bl (b : Bool) (st : Sto) : notB (.bl b) st = .ok (.bl (!b)) st := nrfl rfl
@[simp] theorem dIf_def (t : DT) (f k : DE) (env : En) (st : Sto) : dIf t f k env st = (t env st).bind fun c st => if c = true then f env st else k env st := nrfl rfl
@[simp] theorem dSl_def (f : DE) (l h : DO) (env : En) (st : Sto) : dSl f l h env st = (f env st).bind fun x st => (l env st).bind fun a st => (h env st).bind fun b st => slD x a b st := nrfl rfl
@[simp] theorem dNoPart_def (env : En) (st : Sto) : dNoPart env st = .ok none st := nrfl rfl
@[simp] theorem dPart_def (f : DE) (env : En) (st : Sto) : dPart f env st = (f env st).bind asI := nrfl rfl
@[simp] theorem asI_int (i : Int) (st : Sto) : asI (.int i) st = .ok (some i) st := nrfl rfl
@[simp] theorem dIterA_def (f : DE) (env : En) (st : Sto) : dIterA f env st = (f env st).bind asAny := nrfl rfl
@[simp] theorem asAny_lst (ds : List D) (st : Sto) : asAny (.lst ds) st = .ok ds st := nrfl rfl
@[simp] theorem asAny_tup (ds : List D) (st : Sto) : asAny (.tup ds) st = .ok ds st := nrfl rfl
@[simp] theorem dIterR_def (f : DE) (env : En) (st : Sto) : dIterR f env st = (f env st).bind asR := nrfl rfl
@[simp] theorem asR_ok {j : Int} {st : Sto} (h : j < 1000000) (h2 : -1000000 ≤ j) : asR (.int j) st = .ok (rngD j.toNat) st := by
  exact if_pos ⟨by omega, by omega⟩
@[simp] theorem if_true_r {α : Type} (a b : α) : (if (true : Bool) = true then a else b) = a := nrfl rfl
@[simp] theorem if_false_r {α : Type} (a b : α) : (if (false : Bool) = true then a else b) = b := nrfl rfl

/-! arithmetic -/
@[simp] theorem addD_int (i j : Int) (st : Sto) : addD (.int i) (.int j) st = .ok (.int (i + j)) st := nrfl rfl
@[simp] theorem subI_int (i j : Int) (st : Sto) : subI (.int i) (.int j) st = .ok (.int (i - j)) st := nrfl rfl
@[simp] theorem mulD_int {i j : Int} {st : Sto} (h : i.natAbs.log2 + j.natAbs.log2 < 100000000) : mulD (.int i) (.int j) st = .ok (.int (i * j)) st := by
  exact if_pos h
@[simp] theorem divI_int {i j : Int} {st : Sto} (h : 0 < j) (h2 : j.natAbs.log2 < 9000) : divI (.int i) (.int j) st = .ok (.int (i / j)) st := by
  exact if_pos ⟨h, h2⟩
@[simp] theorem modI_int {i j : Int} {st : Sto} (h : 0 < j) : modI (.int i) (.int j) st = .ok (.int (i % j)) st := by
  exact if_pos h
@[simp] theorem powI_int {i j : Int} {st : Sto} (h : 0 ≤ j) (h2 : j ≤ 1000000) (h3 : i.natAbs < 2 ^ 64) : powI (.int i) (.int j) st = .ok (.int (i ^ j.toNat)) st := by
  exact if_pos ⟨h, h2, h3⟩
@[simp] theorem shlI_int {i j : Int} {st : Sto} (h : 0 ≤ j) (h2 : j ≤ 1000000) (h3 : i.natAbs < 2 ^ 64) : shlI (.int i) (.int j) st = .ok (.int (i * 2 ^ j.toNat)) st := by
  exact if_pos ⟨h, h2, h3⟩
theorem addD_str {a b : Str} {st : Sto} (h : a.length + b.length ≤ 16777216) : addD (.str a) (.str b) st = .ok (.str (a ++ b)) st := by
  exact if_pos h
theorem addD_tup {a b : List D} {st : Sto} (h : a.length + b.length ≤ 16777216) : addD (.tup a) (.tup b) st = .ok (.tup (a ++ b)) st := by
  exact if_pos h
theorem addD_lst {a b : List D} {st : Sto} (h : a.length + b.length ≤ 16777216) : addD (.lst a) (.lst b) st = .ok (.lst (a ++ b)) st := by
  exact if_pos h
/-! order -/
@[simp] theorem ltD_int (i j : Int) (st : Sto) : ltD (.int i) (.int j) st = .ok (.bl (decide (i < j))) st := nrfl rfl
@[simp] theorem leD_int (i j : Int) (st : Sto) : leD (.int i) (.int j) st = .ok (.bl (decide (i ≤ j))) st := nrfl rfl
@[simp] theorem gtD_int (i j : Int) (st : Sto) : gtD (.int i) (.int j) st = .ok (.bl (decide (j < i))) st := nrfl rfl
@[simp] theorem geD_int (i j : Int) (st : Sto) : geD (.int i) (.int j) st = .ok (.bl (decide (j ≤ i))) st := nrfl rfl
/-! places -/
theorem ixD_lst {ds : List D} {i : Int} {d : D} {st : Sto} (h : atI ds i = some d) : ixD (.lst ds) (.int i) st = .ok d st := by
  show (match atI ds i with
    | some d => Rs.ok d st
    | none => .bad) = _
  rw [h]
theorem ixD_tup {ds : List D} {i : Int} {d : D} {st : Sto} (h : atI ds i = some d) : ixD (.tup ds) (.int i) st = .ok d st := by
  show (match atI ds i with
    | some d => Rs.ok d st
    | none => .bad) = _
  rw [h]
theorem atI_of {α : Type} {xs : List α} {i : Int} (h : 0 ≤ i) (h2 : i.toNat < xs.length) : atI xs i = xs[i.toNat]? := by
  unfold atI ixN
  rw [if_pos h, if_pos (by omega)]
  rfl
theorem atI_nat' {α : Type} {xs : List α} (n : Nat) (h : n < xs.length) : atI xs (n : Int) = xs[n]? := by
  rw [atI_of (by omega) (by simpa using h)]
  simp
/-! comprehensions -/
theorem dComp_def (vs : List Nat) (src : DA) (tg : Tg) (t : DT) (f : DE) (env : En) (st : Sto) : dComp vs src tg t f env st = (src env st).bind fun ds st => (compL tg t f (wipeE env vs) ds st).bind fun ys st => if ys.length ≤ 1000000 then .ok (.lst ys) st else .bad := nrfl rfl
theorem compN_cons (i : Nat) (t : DT) (f : DE) (env : En) (d : D) (ds : List D) (st : Sto) : compL (tgN i) t f env (d :: ds) st = (noX (t (env.set i (some d)) st)).bind fun c st => if c = true then (noX (f (env.set i (some d)) st)).bind fun y st => (compL (tgN i) t f env ds st).bind fun ys st => .ok (y :: ys) st else compL (tgN i) t f env ds st := by
  conv => lhs; unfold compL
  rfl
theorem compL_map {i : Nat} {f : DE} {env : En} {st : Sto} {α : Type} (enc : α → D) (h : α → D) : ∀ (as : List α), (∀ a ∈ as, f (env.set i (some (enc a))) st = .ok (h a) st) → compL (tgN i) dYes f env (as.map enc) st = .ok (as.map h) st
  | [], _ => rfl
  | a :: as, hh => by
    have e := hh a List.mem_cons_self
    have ih := compL_map enc h as fun b hb => hh b (List.mem_cons_of_mem _ hb)
    rw [List.map_cons, compN_cons, show dYes (env.set i (some (enc a))) st = .ok true st from rfl, noX_ok, Rs.bind_ok, if_pos rfl, e, noX_ok, Rs.bind_ok, ih]
    rfl
theorem compL_filter {i : Nat} {t : DT} {f : DE} {env : En} {st : Sto} {α : Type} (enc : α → D) (p : α → Bool) (h : α → D) : ∀ (as : List α), (∀ a ∈ as, t (env.set i (some (enc a))) st = .ok (p a) st) → (∀ a ∈ as, p a = true → f (env.set i (some (enc a))) st = .ok (h a) st) →
    compL (tgN i) t f env (as.map enc) st = .ok ((as.filter p).map h) st
  | [], _, _ => rfl
  | a :: as, ht, hf => by
    have ih := compL_filter (f := f) enc p h as (fun b hb => ht b (List.mem_cons_of_mem _ hb)) fun b hb => hf b (List.mem_cons_of_mem _ hb)
    rw [List.map_cons, compN_cons, ht a List.mem_cons_self, noX_ok, Rs.bind_ok]
    cases hp : p a with
    | false => rw [if_neg Bool.false_ne_true, ih, List.filter_cons_of_neg (by simp [hp])]
    | true =>
      rw [if_pos rfl, hf a List.mem_cons_self hp, noX_ok, Rs.bind_ok, ih, List.filter_cons_of_pos hp]
      rfl
theorem dComp_of {vs : List Nat} {src : DA} {tg : Tg} {t : DT} {f : DE} {env : En} {st st1 : Sto} {ds ys : List D} (h1 : src env st = .ok ds st1) (h2 : compL tg t f (wipeE env vs) ds st1 = .ok ys st1) (h3 : ys.length ≤ 1000000) : dComp vs src tg t f env st = .ok (.lst ys) st1 := by
  rw [dComp_def, h1, Rs.bind_ok, h2, Rs.bind_ok, if_pos h3]
theorem dCompM_of {vs : List Nat} {src : DA} {tg : Tg} {t : DT} {f : DE} {env : En} {st st1 : Sto} {ds ys : List D} (h1 : src env st = .ok ds st1) (h2 : compL tg t f (wipeE env vs) ds st1 = .ok ys st1) (h3 : ys.length ≤ 1000000) : dCompM vs src tg t f env st = .ok (.loc st1.length) (st1 ++ [.lst ys]) := by
  unfold dCompM
  rw [h1, Rs.bind_ok, h2, Rs.bind_ok, if_pos h3]
/-! loops -/
theorem loopL_nil (tg : Tg) (b : DS) (env : En) (st : Sto) : loopL tg b [] env st = .nx env st := rfl
theorem loopN_nx {i : Nat} {b : DS} {d : D} {ds : List D} {env e : En} {st s : Sto} (h : b (env.set i (some d)) st = .nx e s) : loopL (tgN i) b (d :: ds) env st = loopL (tgN i) b ds e s := by
  show (match b (env.set i (some d)) st with
      | .nx e s => loopL (tgN i) b ds e s
      | .ct e s => loopL (tgN i) b ds e s
      | .bk e s => .nx e s
      | .rt d s => .rt d s
      | .exc c e s => .exc c e s
      | .bad => .bad) = _
  rw [h]
theorem loopN_ct {i : Nat} {b : DS} {d : D} {ds : List D} {env e : En} {st s : Sto} (h : b (env.set i (some d)) st = .ct e s) : loopL (tgN i) b (d :: ds) env st = loopL (tgN i) b ds e s := by
  show (match b (env.set i (some d)) st with
      | .nx e s => loopL (tgN i) b ds e s
      | .ct e s => loopL (tgN i) b ds e s
      | .bk e s => .nx e s
      | .rt d s => .rt d s
      | .exc c e s => .exc c e s
      | .bad => .bad) = _
  rw [h]
theorem loopN_bk {i : Nat} {b : DS} {d : D} {ds : List D} {env e : En} {st s : Sto} (h : b (env.set i (some d)) st = .bk e s) : loopL (tgN i) b (d :: ds) env st = .nx e s := by
  show (match b (env.set i (some d)) st with
      | .nx e s => loopL (tgN i) b ds e s
      | .ct e s => loopL (tgN i) b ds e s
      | .bk e s => .nx e s
      | .rt d s => .rt d s
      | .exc c e s => .exc c e s
      | .bad => .bad) = _
  rw [h]
theorem loopN_rt {i : Nat} {b : DS} {d x : D} {ds : List D} {env : En} {st s : Sto} (h : b (env.set i (some d)) st = .rt x s) : loopL (tgN i) b (d :: ds) env st = .rt x s := by
  show (match b (env.set i (some d)) st with
      | .nx e s => loopL (tgN i) b ds e s
      | .ct e s => loopL (tgN i) b ds e s
      | .bk e s => .nx e s
      | .rt d s => .rt d s
      | .exc c e s => .exc c e s
      | .bad => .bad) = _
  rw [h]
/-- a loop that keeps what I says of the frame and the store -/
theorem loopN_inv {i : Nat} {b : DS} {α : Type} (enc : α → D) (I : Nat → En → Sto → Prop) : ∀ (as : List α) (k : Nat) (env : En) (st : Sto), I k env st → (∀ (j : Nat) (a : α) (env : En) (st : Sto), as[j]? = some a → I (k + j) env st → ∃ e s, b (env.set i (some (enc a))) st = .nx e s ∧ I (k + j + 1) e s) →
    ∃ e s, loopL (tgN i) b (as.map enc) env st = .nx e s ∧ I (k + as.length) e s
  | [], k, env, st, h, _ => ⟨env, st, rfl, h⟩
  | a :: as, k, env, st, h, hb => by
    obtain ⟨e, s, e1, h1⟩ := hb 0 a env st rfl h
    obtain ⟨e2, s2, e3, h3⟩ := loopN_inv enc I as (k + 1) e s h1 fun j a' env' st' ha hI => by
      obtain ⟨e', s', x, y⟩ := hb (j + 1) a' env' st' (by simpa using ha) (by rw [show k + (j + 1) = k + 1 + j by omega]; exact hI)
      exact ⟨e', s', x, by rw [show k + 1 + j + 1 = k + (j + 1) + 1 by omega]; exact y⟩
    exact ⟨e2, s2, by rw [List.map_cons, loopN_nx e1]; exact e3, by rw [List.length_cons, show k + (as.length + 1) = k + 1 + as.length by omega]; exact h3⟩
/-! == -/
theorem eqD_good {x y : D} {st : Sto} (h1 : good 40 (der st x) = true) (h2 : good 40 (der st y) = true) : eqD x y st = .ok (.bl (PyData.eqv (toP (der st x)) (toP (der st y)))) st := by
  unfold eqD; rw [if_pos ⟨h1, h2⟩]
theorem neD_good {x y : D} {st : Sto} (h1 : good 40 (der st x) = true) (h2 : good 40 (der st y) = true) : neD x y st = .ok (.bl (!PyData.eqv (toP (der st x)) (toP (der st y)))) st := by
  unfold neD; rw [if_pos ⟨h1, h2⟩]
@[simp] theorem eqD_int (i j : Int) (st : Sto) : eqD (.int i) (.int j) st = .ok (.bl (i == j)) st := by
  rw [eqD_good rfl rfl]; simp [der, toP, PyData.eqv]
@[simp] theorem neD_int (i j : Int) (st : Sto) : neD (.int i) (.int j) st = .ok (.bl (!(i == j))) st := by
  rw [neD_good rfl rfl]; simp [der, toP, PyData.eqv]
@[simp] theorem eqD_str (i j : Str) (st : Sto) : eqD (.str i) (.str j) st = .ok (.bl (i == j)) st := by
  rw [eqD_good rfl rfl]; simp [der, toP, PyData.eqv]
@[simp] theorem neD_str (i j : Str) (st : Sto) : neD (.str i) (.str j) st = .ok (.bl (!(i == j))) st := by
  rw [neD_good rfl rfl]; simp [der, toP, PyData.eqv]
@[simp] theorem eqD_bl (i j : Bool) (st : Sto) : eqD (.bl i) (.bl j) st = .ok (.bl (i == j)) st := by
  rw [eqD_good rfl rfl]; simp [der, toP, PyData.eqv]
@[simp] theorem neD_bl (i j : Bool) (st : Sto) : neD (.bl i) (.bl j) st = .ok (.bl (!(i == j))) st := by
  rw [neD_good rfl rfl]; simp [der, toP, PyData.eqv]
end DL

/-! DL16: plain words: numbers, picks, texts. -/
namespace DL
open PySem PySem.Spec PyProof.Rows L2
theorem log2_lt_of {n k : Nat} (h : n < 2 ^ k) (hk : 0 < k) : n.log2 < k := by
  by_cases h0 : n = 0
  · subst h0; simpa using hk
  · exact (Nat.log2_lt h0).mpr h
theorem lt_of_bits {z : Int} {k : Nat} (h : Builtin.Int.intBits z ≤ k) : z.natAbs < 2 ^ k := by
  by_cases h0 : z.natAbs = 0
  · rw [h0]; exact Nat.two_pow_pos k
  · refine (Nat.log2_lt h0).mp ?_
    unfold Builtin.Int.intBits at h
    rw [if_neg (fun e => h0 (by rw [eq_of_beq e]; rfl))] at h
    omega
theorem add_lt {a b : Int} {k : Nat} (ha : a.natAbs < 2 ^ k) (hb : b.natAbs < 2 ^ k) : (a + b).natAbs < 2 ^ (k + 1) := by
  rw [Nat.pow_succ]
  omega
theorem pow_le {a b : Nat} {n : Nat} (h : n < 2 ^ a) (hab : a ≤ b) : n < 2 ^ b := Nat.lt_of_lt_of_le h (Nat.pow_le_pow_right (by decide) hab)
/-- a number of 128 bits at most -/
def Big (m : Int) : Prop := 0 ≤ m ∧ m < 2 ^ 128
theorem Big.div {m : Int} (h : Big m) (k : Nat) : Big (m / (k : Int)) := by
  have h1 := h.1
  refine ⟨Int.ediv_nonneg h1 (by omega), Int.lt_of_le_of_lt ?_ h.2⟩
  exact Int.ediv_le_self _ h1
theorem Big.div' {m : Int} (h : Big m) {k : Int} (hk : 0 ≤ k) : Big (m / k) := by
  have h1 := h.1
  exact ⟨Int.ediv_nonneg h1 hk, Int.lt_of_le_of_lt (Int.ediv_le_self _ h1) h.2⟩
theorem mulD_small {i j : Int} {st : Sto} (hi : i.natAbs < 2 ^ 200) (hj : j.natAbs < 2 ^ 200) : mulD (.int i) (.int j) st = .ok (.int (i * j)) st := mulD_int (by
  have h1 := log2_lt_of hi (by decide)
  have h2 := log2_lt_of hj (by decide)
  omega)
theorem divI_small {i j : Int} {st : Sto} (h : 0 < j) (hj : j.natAbs < 2 ^ 200) : divI (.int i) (.int j) st = .ok (.int (i / j)) st := divI_int h (by
  have h2 := log2_lt_of hj (by decide)
  omega)
theorem pick {ds : List D} {i : Int} (st : Sto) (h0 : 0 ≤ i) (h1 : i < (ds.length : Int)) : ∃ d, d ∈ ds ∧ ixD (.lst ds) (.int i) st = .ok d st := by
  have hl : i.toNat < ds.length := by omega
  exact ⟨ds[i.toNat], List.getElem_mem hl, ixD_lst (by rw [atI_of h0 hl, List.getElem?_eq_getElem hl])⟩
/-- one of a list of things that are encoded -/
theorem pickE {α : Type} (enc : α → D) {as : List α} {i : Int} (st : Sto) (h0 : 0 ≤ i) (h1 : i < (as.length : Int)) : ∃ a, a ∈ as ∧ ixD (.lst (as.map enc)) (.int i) st = .ok (enc a) st := by
  obtain ⟨d, hd, e⟩ := pick (ds := as.map enc) st h0 (by simpa using h1)
  obtain ⟨a, ha, rfl⟩ := List.mem_map.mp hd
  exact ⟨a, ha, e⟩
/-! ### len -/
theorem len_lst (ds : List D) (st : Sto) : lenD [.lst ds] st = .ok (.int ds.length) st := nrfl rfl
theorem len_tup (ds : List D) (st : Sto) : lenD [.tup ds] st = .ok (.int ds.length) st := nrfl rfl
theorem len_str (s : Str) (st : Sto) : lenD [.str s] st = .ok (.int s.length) st := nrfl rfl
theorem len_scr (ns : List Int) (st : Sto) : lenD [.scr ns] st = .ok (.int ns.length) st := by
  simp [lenD, itemsOf]
theorem tuple_lst (ds : List D) (st : Sto) : tupleD [.lst ds] st = .ok (.tup ds) st := nrfl rfl
theorem tuple_tup (ds : List D) (st : Sto) : tupleD [.tup ds] st = .ok (.tup ds) st := nrfl rfl
theorem list_lst (ds : List D) (st : Sto) : listD false [.lst ds] st = .ok (.lst ds) st := nrfl rfl
theorem list_tup (ds : List D) (st : Sto) : listD false [.tup ds] st = .ok (.lst ds) st := nrfl rfl
/-! ### a list just made at the end of the store -/
theorem get_new (st : Sto) (o : Ob) : (st ++ [o])[st.length]? = some o := by simp
theorem set_new (st : Sto) (o o' : Ob) : (st ++ [o]).set st.length o' = st ++ [o'] := by simp
theorem append_new {st : Sto} {xs : List D} (y : D) (h : xs.length < 1000000) : appendD (.loc st.length) [y] (st ++ [.lst xs]) = .ok .non (st ++ [.lst (xs ++ [y])]) := by
  unfold appendD
  dsimp only
  rw [get_new]
  dsimp only
  rw [if_pos h, set_new]
theorem chkL_new (st : Sto) (xs : List D) : chkL (st ++ [.lst xs]) (.loc st.length) = true := by
  unfold chkL itemsOf
  dsimp only
  rw [get_new]
  rfl
theorem items_new (st : Sto) (xs : List D) : itemsOf (st ++ [.lst xs]) (.loc st.length) = some xs := by
  unfold itemsOf
  dsimp only
  rw [get_new]
theorem tuple_new (st : Sto) (xs : List D) : tupleD [.loc st.length] (st ++ [.lst xs]) = .ok (.tup xs) (st ++ [.lst xs]) := by
  unfold tupleD
  dsimp only
  rw [items_new]
theorem len_new (st : Sto) (xs : List D) : lenD [.loc st.length] (st ++ [.lst xs]) = .ok (.int xs.length) (st ++ [.lst xs]) := by
  unfold lenD
  dsimp only
  rw [items_new]
/-! ### texts -/
theorem str_ext {a b : Str} (h : a.cps.toList = b.cps.toList) : a = b := by
  obtain ⟨a⟩ := a
  obtain ⟨b⟩ := b
  have : a = b := Array.toList_inj.mp h
  rw [this]
theorem str_len (s : Str) : s.length = s.cps.toList.length := by
  show s.cps.size = _
  simp
theorem join_nil : ∀ ss : List Str, (Str.join ⟨#[]⟩ ss).cps.toList = (ss.map fun s => s.cps.toList).flatten
  | [] => rfl
  | [x] => by show x.cps.toList = _; simp
  | x :: y :: r => by
    show (x ++ ⟨#[]⟩ ++ Str.join ⟨#[]⟩ (y :: r)).cps.toList = _
    rw [str_app_cps, str_app_cps, Array.toList_append, Array.toList_append, join_nil (y :: r)]
    simp
theorem cutS_to (z : Str) {n : Int} (h : 0 ≤ n) : (cutS z none (some n)).cps.toList = z.cps.toList.take n.toNat := by
  show ((z.cps.toList.drop (HT.sIx z.length 0 none)).take (HT.sIx z.length z.length (some n) - HT.sIx z.length 0 none)) = _
  have e1 : HT.sIx z.length 0 none = 0 := rfl
  have e2 : HT.sIx z.length z.length (some n) = min n.toNat z.length := by
    unfold HT.sIx
    dsimp only
    rw [if_neg (by omega)]
  rw [e1, e2, List.drop_zero, Nat.sub_zero]
  by_cases hl : n.toNat ≤ z.length
  · rw [Nat.min_eq_left hl]
  · rw [Nat.min_eq_right (by omega), str_len, List.take_length, List.take_of_length_le (by rw [← str_len]; omega)]
theorem cutD_to (z : List D) {n : Int} (h : 0 ≤ n) : cutD z none (some n) = z.take n.toNat := by
  show ((z.drop (HT.sIx z.length 0 none)).take (HT.sIx z.length z.length (some n) - HT.sIx z.length 0 none)) = _
  have e1 : HT.sIx z.length 0 none = 0 := rfl
  have e2 : HT.sIx z.length z.length (some n) = min n.toNat z.length := by
    unfold HT.sIx
    dsimp only
    rw [if_neg (by omega)]
  rw [e1, e2, List.drop_zero, Nat.sub_zero]
  by_cases hl : n.toNat ≤ z.length
  · rw [Nat.min_eq_left hl]
  · rw [Nat.min_eq_right (by omega), List.take_length, List.take_of_length_le (by omega)]
theorem cutD_from (z : List D) {n : Int} (h : 0 ≤ n) : cutD z (some n) none = z.drop n.toNat := by
  show ((z.drop (HT.sIx z.length 0 (some n))).take (HT.sIx z.length z.length none - HT.sIx z.length 0 (some n))) = _
  have e1 : HT.sIx z.length z.length none = z.length := rfl
  have e2 : HT.sIx z.length 0 (some n) = min n.toNat z.length := by
    unfold HT.sIx
    dsimp only
    rw [if_neg (by omega)]
  rw [e1, e2]
  by_cases hl : n.toNat ≤ z.length
  · rw [Nat.min_eq_left hl, List.take_of_length_le (by rw [List.length_drop]; omega)]
  · rw [Nat.min_eq_right (by omega), List.drop_length, List.drop_of_length_le (by omega)]
    simp
/-- signs 0 and 1 alone, so many at most -/
def Bit (n : Nat) (s : Str) : Prop := s.length ≤ n ∧ ∀ c ∈ s.cps.toList, c = 48 ∨ c = 49
theorem Bit.app {a b : Str} {n m : Nat} (ha : Bit n a) (hb : Bit m b) : Bit (n + m) (a ++ b) := by
  refine ⟨by rw [str_app_len]; have := ha.1; have := hb.1; omega, fun c hc => ?_⟩
  rw [str_app_cps, Array.toList_append, List.mem_append] at hc
  exact hc.elim (ha.2 c) (hb.2 c)
theorem Bit.mono {a : Str} {n m : Nat} (ha : Bit n a) (h : n ≤ m) : Bit m a := ⟨Nat.le_trans ha.1 h, ha.2⟩
theorem Bit.cut {a : Str} {n : Nat} (ha : Bit n a) {k : Int} (hk : 0 ≤ k) : Bit (min n k.toNat) (cutS a none (some k)) := by
  refine ⟨?_, fun c hc => ?_⟩
  · rw [str_len, cutS_to a hk, List.length_take, ← str_len]
    have := ha.1
    omega
  · rw [cutS_to a hk] at hc
    exact ha.2 c (List.mem_of_mem_take hc)
theorem starts_eq (a b : Str) : Txt.startswith a b = (cutS a none (some (b.length : Int)) == b) := by
  have e : Txt.startswith a b = (decide (0 + b.length ≤ a.length) && Builtin.Str.subAt a b 0) := rfl
  rw [e, StrLaws.subAt_eq, Bool.eq_iff_iff]
  simp only [Bool.and_eq_true, decide_eq_true_eq, beq_iff_eq, List.drop_zero]
  constructor
  · rintro ⟨_, h⟩
    refine str_ext ?_
    rw [cutS_to a (by omega), Int.toNat_natCast]
    exact h
  · intro h
    have h2 : a.cps.toList.take b.length = b.cps.toList := by
      have h3 := cutS_to a (n := (b.length : Int)) (by omega)
      rw [h, Int.toNat_natCast] at h3
      exact h3.symm
    refine ⟨?_, h2⟩
    have := congrArg List.length h2
    rw [List.length_take, ← str_len, ← str_len] at this
    omega
end DL

namespace DL
open PySem PySem.Spec PyProof.Rows L2
def WF : Nat := 1000
noncomputable section
def top (i : Nat) : Stmt := PySem.Challenge.pw_plainpath_k11_judged.main.body.getD i (.Pass ⟨0, 0, 0, 0⟩)
structure Tx (mg : Str → Option Value) : Prop where
  b_bool : mg "bool" = none
  b_int : mg "int" = none
  b_isinstance : mg "isinstance" = none
  b_len : mg "len" = none
  b_list : mg "list" = none
  b_max : mg "max" = none
  b_min : mg "min" = none
  b_range : mg "range" = none
  b_sorted : mg "sorted" = none
  b_tuple : mg "tuple" = none
  MOST_TAGS : GInt mg "MOST_TAGS" 4
  USUAL : GInt mg "USUAL" 100

abbrev N_fits : List Str := ["rule", "route"]
theorem sc_fits : FnScope N_fits ["rule", "route"] (defScope (top 3)) := ⟨rfl, rfl, rfl, by decide +kernel, rfl, by decide +kernel, by decide +kernel⟩
def b_fits_i1 : DS :=
  (dIfS (dOr (dNot (dTest (dMeth chkS startsD (dB ixD (dV 1) (dC (.int 0))) [(dB ixD (dV 0) (dC (.int 0)))]))) (dTest (dB gtD (dCall lenD [(dB ixD (dV 1) (dC (.int 0)))]) (dB ixD (dV 0) (dC (.int 1))))))
    (dRet (dC (.bl false))) dNext)
def b_fits : DS :=
  (dSeq (b_fits_i1)
    (dRet (dAndV (dOrV (dB eqD (dB ixD (dV 0) (dC (.int 2))) (dC (.int 0))) (dB inD (dB ixD (dV 0) (dC (.int 2))) (dB ixD (dV 1) (dC (.int 1))))) (dOrV (dB eqD (dB ixD (dV 0) (dC (.int 3))) (dC (.int 0))) (dB inD (dB ixD (dV 0) (dC (.int 3))) (dB ixD (dV 1) (dC (.int 3))))))))
theorem d_fits {P : Program} {w : World} {g : Gh} {mg : Str → Option Value} {base : Heap} (T : Tx mg) (D : DefOk g.K mg "fits" (top 3) ["rule", "route"]) : GFn P w g mg base "fits" 1 2 (runF 2 (b_fits)) :=
  GFn.of D sc_fits rfl rfl fun f M cdv A outer s H E hr tk pp =>
  have nd : N_fits.Nodup := sc_fits.nd
  (dss_cons (ds_if (dw_or (dt_not (dt_val (de_bm rfl chkS_ok startsD_ok PySem.F.plainAttrs_str PySem.F.slot_str_startswith PySem.F.type_str_startswith mt_startswith (de_ix rfl (uu1 hr) (de_var 1 rfl (Or.inl rfl) rfl rfl) de_int (fun _ _ => rfl)) (da_cons (de_ix rfl (uu1 hr) (de_var 0 rfl (Or.inl rfl) rfl rfl) de_int (fun _ _ => rfl)) da_nil) rfl rfl rfl rfl rfl) (fun _ => rfl))) (dw_or1 (dt_cmp op_gt gtD_ok (de_blt cr_len lenD_ok (by rfl) T.b_len boot_len (da_cons (de_ix rfl (uu1 hr) (de_var 1 rfl (Or.inl rfl) rfl rfl) de_int (fun _ _ => rfl)) da_nil) (by decide) rfl rfl rfl) (de_ix rfl (uu1 hr) (de_var 0 rfl (Or.inl rfl) rfl rfl) de_int (fun _ _ => rfl)) (nomark _)))).pt
    (dss_one (ds_ret de_bl)) dss_nil)
    (dss_one (ds_ret (de_and (de_or (de_cmp (op_eqD (uu hr)) eqD_ok (de_ix rfl (uu1 hr) (de_var 0 rfl (Or.inl rfl) rfl rfl) de_int (fun _ _ => rfl)) de_int (nomark _)) (de_one (de_cmp (op_inD (uu1 hr)) inD_ok (de_ix rfl (uu1 hr) (de_var 0 rfl (Or.inl rfl) rfl rfl) de_int (fun _ _ => rfl)) (de_ix rfl (uu1 hr) (de_var 1 rfl (Or.inl rfl) rfl rfl) de_int (fun _ _ => rfl)) (by with_unfolding_all rfl)))) (de_one (de_or (de_cmp (op_eqD (uu hr)) eqD_ok (de_ix rfl (uu1 hr) (de_var 0 rfl (Or.inl rfl) rfl rfl) de_int (fun _ _ => rfl)) de_int (nomark _)) (de_one (de_cmp (op_inD (uu1 hr)) inD_ok (de_ix rfl (uu1 hr) (de_var 0 rfl (Or.inl rfl) rfl rfl) de_int (fun _ _ => rfl)) (de_ix rfl (uu1 hr) (de_var 1 rfl (Or.inl rfl) rfl rfl) de_int (fun _ _ => rfl)) (by with_unfolding_all rfl)))))))))

abbrev N_retagged : List Str := ["tags", "more", "less", "found", "tag"]
theorem sc_retagged : FnScope N_retagged ["tags", "more", "less"] (defScope (top 4)) := ⟨rfl, rfl, rfl, by decide +kernel, rfl, by decide +kernel, by decide +kernel⟩
def b_retagged_t1 : DT :=
  (dTest (dB neD (dV 4) (dV 2)))
def b_retagged_c1 : DE :=
  (dV 4)
def b_retagged_i1 : DS :=
  (dIfS (dAnd (dTest (dB neD (dV 1) (dC (.int 0)))) (dAnd (dTest (dB notInD (dV 1) (dV 3))) (dTest (dB ltD (dCall lenD [(dV 3)]) (dC (.int 4))))))
    (dExpr (dMeth chkL appendD (dV 3) [(dV 1)])) dNext)
def b_retagged : DS :=
  (dSeq (dSet (tgN 3) (dCompM [4] (dIterA (dV 0)) (tgN 4) (b_retagged_t1) (b_retagged_c1)))
    (dSeq (b_retagged_i1)
    (dRet (dCall tupleD [(dCall (sortedD false) [(dV 3)])]))))
theorem d_retagged {P : Program} {w : World} {g : Gh} {mg : Str → Option Value} {base : Heap} (T : Tx mg) (D : DefOk g.K mg "retagged" (top 4) ["tags", "more", "less"]) : GFn P w g mg base "retagged" 1 3 (runF 5 (b_retagged)) :=
  GFn.of D sc_retagged rfl rfl fun f M cdv A outer s H E hr tk pp =>
  have nd : N_retagged.Nodup := sc_retagged.nd
  (dss_cons (ds_setLcM (own := [("tag", 4)]) 3 rfl nd rfl rfl (sw_true rfl rfl rfl (by decide +kernel)) (di_any rfl (de_var 0 rfl (Or.inl rfl) rfl rfl)) (blkOk_by (own := [("tag", 4)]) (N := N_retagged) (sc := defScope (top 4)) (by decide +kernel)) (fun _ => (tgN_ok 4)) (gName_own (by decide)) (fun _ _ _ _ _ => (pg_name (i := 4) nd rfl (Or.inl rfl) (Or.inr rfl))) (fun _ _ _ _ _ _ => (dts_one (dt_cmp (op_neD (uu hr)) neD_ok (de_var 4 rfl (Or.inl rfl) rfl rfl) (de_var 2 rfl (Or.inr (Or.inl (by rfl))) rfl rfl) (nomark _)))) (fun _ _ _ _ _ _ => (de_var 4 rfl (Or.inl rfl) rfl rfl)) (fun _ => rfl))
    (dss_cons (ds_if (dw_and (dt_cmp (op_neD (uu hr)) neD_ok (de_var 1 rfl (Or.inl rfl) rfl rfl) de_int (nomark _)) (dw_and (dt_cmp (op_notInD (uu1 hr)) notInD_ok (de_var 1 rfl (Or.inl rfl) rfl rfl) (de_var 3 rfl (Or.inl rfl) rfl rfl) (by with_unfolding_all rfl)) (dw_and1 (dt_cmp (op_ltD (uu0 hr)) ltD_ok (de_blt cr_len lenD_ok (by rfl) T.b_len boot_len (da_cons (de_var 3 rfl (Or.inl rfl) rfl rfl) da_nil) (by decide) rfl rfl rfl) (de_gint T.MOST_TAGS (by rfl) rfl) (nomark _))))).pt
    (dss_one (ds_expr (de_bm rfl chkL_ok appendD_ok PySem.F.plainAttrs_list PySem.F.slot_list_append PySem.F.type_list_append mt_append (de_var 3 rfl (Or.inl rfl) rfl rfl) (da_cons (de_var 1 rfl (Or.inl rfl) rfl rfl) da_nil) rfl rfl rfl rfl rfl) rfl)) dss_nil)
    (dss_one (ds_ret (de_bty call_tuple_of tupleD_ok (by rfl) T.b_tuple boot_tuple (da_cons (de_blt (cr_sortX (uu hr)) (sortedD_ok false) (by rfl) T.b_sorted boot_sorted (da_cons (de_var 3 rfl (Or.inl rfl) rfl rfl) da_nil) (by decide) rfl rfl rfl) da_nil) (by decide) rfl rfl rfl)))))

abbrev N_judged : List Str := ["rules", "route", "preference", "many", "rule"]
theorem sc_judged : FnScope N_judged ["rules", "route"] (defScope (top 5)) := ⟨rfl, rfl, rfl, by decide +kernel, rfl, by decide +kernel, by decide +kernel⟩
def b_judged_i1 (F_fits : Fn) (F_retagged : Fn) : DS :=
  (dIfS (dTest (dB isnD (dB ixD (dV 4) (dC (.int 5))) (dC .non)))
    (dSet (tgN 2) (dB ixD (dV 4) (dC (.int 5)))) dNext)
def b_judged_i2 (F_fits : Fn) (F_retagged : Fn) : DS :=
  (dIfS (dTest (dB eqD (dB ixD (dV 4) (dC (.int 4))) (dC (.str "no"))))
    (dRet (dC .non)) dNext)
def b_judged_i3 (F_fits : Fn) (F_retagged : Fn) : DS :=
  (dIfS (dTest (dB eqD (dB ixD (dV 4) (dC (.int 4))) (dC (.str "yes"))))
    dBreak dNext)
def b_judged_i4 (F_fits : Fn) (F_retagged : Fn) : DS :=
  (dIfS (dTest (dCall F_fits [(dV 4), (dV 1)]))
    (dSeq (dSet (tgN 1) (dTup [(dB ixD (dV 1) (dC (.int 0))), (dB ixD (dV 1) (dC (.int 1))), (dB ixD (dV 1) (dC (.int 2))), (dCall F_retagged [(dB ixD (dV 1) (dC (.int 3))), (dB ixD (dV 4) (dC (.int 6))), (dB ixD (dV 4) (dC (.int 7)))])]))
    (dSeq (b_judged_i1 F_fits F_retagged)
    (dSeq (dSet (tgN 3) (dB addD (dV 3) (dB ixD (dV 4) (dC (.int 8)))))
    (dSeq (b_judged_i2 F_fits F_retagged)
    (b_judged_i3 F_fits F_retagged))))) dNext)
def b_judged_l1 (F_fits : Fn) (F_retagged : Fn) : DS :=
  (b_judged_i4 F_fits F_retagged)
def b_judged (F_fits : Fn) (F_retagged : Fn) : DS :=
  (dSeq (dSet (tgN 2) (dC (.int 100)))
    (dSeq (dSet (tgN 3) (dC (.int 0)))
    (dSeq (dFor (dIterA (dV 0)) (tgN 4)
    (b_judged_l1 F_fits F_retagged))
    (dRet (dTup [(dV 1), (dV 2), (dV 3)])))))
theorem d_judged {P : Program} {w : World} {g : Gh} {mg : Str → Option Value} {base : Heap} {F_fits F_retagged : Fn} (T : Tx mg) (D : DefOk g.K mg "judged" (top 5) ["rules", "route"]) (G_fits : GFn P w g mg base "fits" 1 2 F_fits) (G_retagged : GFn P w g mg base "retagged" 1 3 F_retagged) : GFn P w g mg base "judged" 2 2 (runF 5 (b_judged F_fits F_retagged)) :=
  GFn.of D sc_judged rfl rfl fun f M cdv A outer s H E hr tk pp =>
  have nd : N_judged.Nodup := sc_judged.nd
  (dss_cons (ds_set 2 nd rfl (Or.inl rfl) (de_gint T.USUAL (by rfl) rfl) rfl (Or.inr rfl))
    (dss_cons (ds_set 3 nd rfl (Or.inl rfl) de_int rfl (Or.inr rfl))
    (dss_cons (ds_for pp rfl (di_any rfl (de_var 0 rfl (Or.inl rfl) rfl rfl)) (tgN_ok 4) (pg_name (i := 4) nd rfl (Or.inl rfl) (Or.inr rfl))
    (dss_one (ds_if (dt_val (de_call rfl (G_fits.wm _) (hr.mono (by decide)) tk (by rfl) (da_cons (de_var 4 rfl (Or.inl rfl) rfl rfl) (da_cons (de_var 1 rfl (Or.inl rfl) rfl rfl) da_nil)) rfl (by rfl) (by rfl) (by rfl)) (fun _ => rfl))
    (dss_cons (ds_set 1 nd rfl (Or.inl rfl) (de_tup (da_cons (de_ix rfl (uu1 hr) (de_var 1 rfl (Or.inl rfl) rfl rfl) de_int (fun _ _ => rfl)) (da_cons (de_ix rfl (uu1 hr) (de_var 1 rfl (Or.inl rfl) rfl rfl) de_int (fun _ _ => rfl)) (da_cons (de_ix rfl (uu1 hr) (de_var 1 rfl (Or.inl rfl) rfl rfl) de_int (fun _ _ => rfl)) (da_cons (de_call rfl (G_retagged.wm _) (hr.mono (by decide)) tk (by rfl) (da_cons (de_ix rfl (uu1 hr) (de_var 1 rfl (Or.inl rfl) rfl rfl) de_int (fun _ _ => rfl)) (da_cons (de_ix rfl (uu1 hr) (de_var 4 rfl (Or.inl rfl) rfl rfl) de_int (fun _ _ => rfl)) (da_cons (de_ix rfl (uu1 hr) (de_var 4 rfl (Or.inl rfl) rfl rfl) de_int (fun _ _ => rfl)) da_nil))) rfl (by rfl) (by rfl) (by rfl)) da_nil)))) (Nat.le_of_ble_eq_true rfl)) rfl (Or.inr rfl))
    (dss_cons (ds_if (dt_cmp op_isnD isnD_ok (de_ix rfl (uu1 hr) (de_var 4 rfl (Or.inl rfl) rfl rfl) de_int (fun _ _ => rfl)) de_non (nomark _))
    (dss_one (ds_set 2 nd rfl (Or.inl rfl) (de_ix rfl (uu1 hr) (de_var 4 rfl (Or.inl rfl) rfl rfl) de_int (fun _ _ => rfl)) rfl (Or.inr rfl))) dss_nil)
    (dss_cons (ds_set 3 nd rfl (Or.inl rfl) (de_add rfl (de_var 3 rfl (Or.inl rfl) rfl rfl) (de_ix rfl (uu1 hr) (de_var 4 rfl (Or.inl rfl) rfl rfl) de_int (fun _ _ => rfl))) rfl (Or.inr rfl))
    (dss_cons (ds_if (dt_cmp (op_eqD (uu hr)) eqD_ok (de_ix rfl (uu1 hr) (de_var 4 rfl (Or.inl rfl) rfl rfl) de_int (fun _ _ => rfl)) (de_str (by decide +kernel)) (nomark _))
    (dss_one (ds_ret de_non)) dss_nil)
    (dss_one (ds_if (dt_cmp (op_eqD (uu hr)) eqD_ok (de_ix rfl (uu1 hr) (de_var 4 rfl (Or.inl rfl) rfl rfl) de_int (fun _ _ => rfl)) (de_str (by decide +kernel)) (nomark _))
    (dss_one ds_break) dss_nil)))))) dss_nil)) (fun _ => rfl))
    (dss_one (ds_ret (de_tup (da_cons (de_var 1 rfl (Or.inl rfl) rfl rfl) (da_cons (de_var 2 rfl (Or.inl rfl) rfl rfl) (da_cons (de_var 3 rfl (Or.inl rfl) rfl rfl) da_nil))) (Nat.le_of_ble_eq_true rfl)))))))

abbrev N_law_cell : List Str := ["_law_script", "_law_k"]
theorem sc_law_cell : FnScope N_law_cell ["_law_script", "_law_k"] (defScope (top 7)) := ⟨rfl, rfl, rfl, by decide +kernel, rfl, by decide +kernel, by decide +kernel⟩
def b_law_cell_i1 : DS :=
  (dIfS (dTest (dB eqD (dV 0) (dLst [])))
    (dRet (dB mulD (dV 1) (dC (.int 7919)))) dNext)
def b_law_cell : DS :=
  (dSeq (b_law_cell_i1)
    (dRet (dB addD (dB ixD (dV 0) (dB modI (dV 1) (dCall lenD [(dV 0)]))) (dB mulD (dB divI (dV 1) (dCall lenD [(dV 0)])) (dC (.int 104729))))))
theorem d_law_cell {P : Program} {w : World} {g : Gh} {mg : Str → Option Value} {base : Heap} (T : Tx mg) (D : DefOk g.K mg "_law_cell" (top 7) ["_law_script", "_law_k"]) : GFn P w g mg base "_law_cell" 1 2 (runF 2 (b_law_cell)) :=
  GFn.of D sc_law_cell rfl rfl fun f M cdv A outer s H E hr tk pp =>
  have nd : N_law_cell.Nodup := sc_law_cell.nd
  (dss_cons (ds_if (dt_cmp (op_eqD (uu hr)) eqD_ok (de_var 0 rfl (Or.inl rfl) rfl rfl) (de_lst da_nil (Nat.le_of_ble_eq_true rfl)) (nomark _))
    (dss_one (ds_ret (de_mul rfl (de_var 1 rfl (Or.inl rfl) rfl rfl) de_int))) dss_nil)
    (dss_one (ds_ret (de_add rfl (de_ix rfl (uu1 hr) (de_var 0 rfl (Or.inl rfl) rfl rfl) (de_mod (de_var 1 rfl (Or.inl rfl) rfl rfl) (de_blt cr_len lenD_ok (by rfl) T.b_len boot_len (da_cons (de_var 0 rfl (Or.inl rfl) rfl rfl) da_nil) (by decide) rfl rfl rfl)) (fun _ _ => rfl)) (de_mul rfl (de_div (de_var 1 rfl (Or.inl rfl) rfl rfl) (de_blt cr_len lenD_ok (by rfl) T.b_len boot_len (da_cons (de_var 0 rfl (Or.inl rfl) rfl rfl) da_nil) (by decide) rfl rfl rfl)) de_int)))))

abbrev N_law_drawn : List Str := ["_law_cell_here", "_law_k", "_law_more"]
theorem sc_law_drawn : FnScope N_law_drawn ["_law_cell_here", "_law_k"] (defScope (top 8)) := ⟨rfl, rfl, rfl, by decide +kernel, rfl, by decide +kernel, by decide +kernel⟩
def b_law_drawn : DS :=
  (dSeq (dSet (tgN 2) (dB modI (dB addD (dB mulD (dV 0) (dC (.int 6364136223846793005))) (dB mulD (dB addD (dV 1) (dC (.int 1))) (dC (.int 1442695040888963407)))) (dC (.int 340282366920938463463374607431768211507))))
    (dRet (dB modI (dB mulD (dV 2) (dV 2)) (dC (.int 340282366920938463463374607431768211297)))))
theorem d_law_drawn {P : Program} {w : World} {g : Gh} {mg : Str → Option Value} {base : Heap} (T : Tx mg) (D : DefOk g.K mg "_law_drawn" (top 8) ["_law_cell_here", "_law_k"]) : GFn P w g mg base "_law_drawn" 1 2 (runF 3 (b_law_drawn)) :=
  GFn.of D sc_law_drawn rfl rfl fun f M cdv A outer s H E hr tk pp =>
  have nd : N_law_drawn.Nodup := sc_law_drawn.nd
  (dss_cons (ds_set 2 nd rfl (Or.inl rfl) (de_mod (de_add rfl (de_mul rfl (de_var 0 rfl (Or.inl rfl) rfl rfl) de_int) (de_mul rfl (de_add rfl (de_var 1 rfl (Or.inl rfl) rfl rfl) de_int) de_int)) de_int) rfl (Or.inr rfl))
    (dss_one (ds_ret (de_mod (de_mul rfl (de_var 2 rfl (Or.inl rfl) rfl rfl) (de_var 2 rfl (Or.inl rfl) rfl rfl)) de_int))))

abbrev N_law_numbers : List Str := ["_law_more", "_law_many", "_law_step", "_law_k"]
theorem sc_law_numbers : FnScope N_law_numbers ["_law_more", "_law_many"] (defScope (top 9)) := ⟨rfl, rfl, rfl, by decide +kernel, rfl, by decide +kernel, by decide +kernel⟩
def b_law_numbers_c1 : DE :=
  (dB addD (dB modI (dB addD (dB divI (dV 0) (dC (.int 4))) (dB mulD (dV 3) (dV 2))) (dC (.int 999))) (dC (.int 1)))
def b_law_numbers : DS :=
  (dSeq (dSet (tgN 2) (dB ixD (dLst [(dC (.int 1)), (dC (.int 2)), (dC (.int 500)), (dC (.int 7))]) (dB modI (dV 0) (dC (.int 4)))))
    (dRet (dComp [3] (dIterR (dV 1)) (tgN 3) dYes (b_law_numbers_c1))))
theorem d_law_numbers {P : Program} {w : World} {g : Gh} {mg : Str → Option Value} {base : Heap} (T : Tx mg) (D : DefOk g.K mg "_law_numbers" (top 9) ["_law_more", "_law_many"]) : GFn P w g mg base "_law_numbers" 1 2 (runF 4 (b_law_numbers)) :=
  GFn.of D sc_law_numbers rfl rfl fun f M cdv A outer s H E hr tk pp =>
  have nd : N_law_numbers.Nodup := sc_law_numbers.nd
  (dss_cons (ds_set 2 nd rfl (Or.inr rfl) (de_ix rfl (uu1 hr) (de_lst (da_cons de_int (da_cons de_int (da_cons de_int (da_cons de_int da_nil)))) (Nat.le_of_ble_eq_true rfl)) (de_mod (de_var 0 rfl (Or.inr (Or.inl rfl)) rfl rfl) de_int) (fun _ _ => rfl)) rfl (Or.inl rfl))
    (dss_one (ds_ret (de_lc (own := [("_law_k", 3)]) rfl nd (di_range (by rfl) T.b_range (de_var 1 rfl (Or.inl rfl) rfl rfl) rfl) (blkOk_by (own := [("_law_k", 3)]) (N := N_law_numbers) (sc := defScope (top 9)) (by decide +kernel)) (fun _ => (tgN_ok 3)) (gName_own (by decide)) (fun _ _ _ _ _ => (pg_name (i := 3) nd rfl (Or.inl rfl) (Or.inr rfl))) (fun _ _ _ _ _ _ => dts_nil) (fun _ _ _ _ _ _ => (de_add rfl (de_mod (de_add rfl (de_div (de_var 0 rfl (Or.inr (Or.inl (by rfl))) rfl rfl) de_int) (de_mul rfl (de_var 3 rfl (Or.inl rfl) rfl rfl) (de_var 2 rfl (Or.inr (Or.inl (by rfl))) rfl rfl))) de_int) de_int)) (fun _ => rfl)))))

abbrev N_law_bits : List Str := ["_law_more", "_law_many", "_law_k"]
theorem sc_law_bits : FnScope N_law_bits ["_law_more", "_law_many"] (defScope (top 10)) := ⟨rfl, rfl, rfl, by decide +kernel, rfl, by decide +kernel, by decide +kernel⟩
def b_law_bits_c1 : DE :=
  (dB ixD (dC (.str "01")) (dB modI (dB divI (dV 0) (dB shlI (dC (.int 1)) (dV 2))) (dC (.int 2))))
def b_law_bits : DS :=
  (dRet (dMeth chkS joinD (dC (.str "")) [(dComp [2] (dIterR (dV 1)) (tgN 2) dYes (b_law_bits_c1))]))
theorem d_law_bits {P : Program} {w : World} {g : Gh} {mg : Str → Option Value} {base : Heap} (T : Tx mg) (D : DefOk g.K mg "_law_bits" (top 10) ["_law_more", "_law_many"]) : GFn P w g mg base "_law_bits" 1 2 (runF 3 (b_law_bits)) :=
  GFn.of D sc_law_bits rfl rfl fun f M cdv A outer s H E hr tk pp =>
  have nd : N_law_bits.Nodup := sc_law_bits.nd
  (dss_one (ds_ret (de_bm rfl chkS_ok joinD_ok PySem.F.plainAttrs_str PySem.F.slot_str_join PySem.F.type_str_join mt_join (de_str (by decide +kernel)) (da_cons (de_lc (own := [("_law_k", 2)]) rfl nd (di_range (by rfl) T.b_range (de_var 1 rfl (Or.inl rfl) rfl rfl) rfl) (blkOk_by (own := [("_law_k", 2)]) (N := N_law_bits) (sc := defScope (top 10)) (by decide +kernel)) (fun _ => (tgN_ok 2)) (gName_own (by decide)) (fun _ _ _ _ _ => (pg_name (i := 2) nd rfl (Or.inl rfl) (Or.inr rfl))) (fun _ _ _ _ _ _ => dts_nil) (fun _ _ _ _ _ _ => (de_ix rfl (uu1 hr) (de_str (by decide +kernel)) (de_mod (de_div (de_var 0 rfl (Or.inr (Or.inl (by rfl))) rfl rfl) (de_shl de_int (de_var 2 rfl (Or.inl rfl) rfl rfl))) de_int) (fun _ _ => rfl))) (fun _ => rfl)) da_nil) rfl rfl rfl rfl rfl)))

abbrev N_law_prefixes : List Str := ["_law_more", "_law_stem", "_law_found", "_law_text"]
theorem sc_law_prefixes : FnScope N_law_prefixes ["_law_more"] (defScope (top 11)) := ⟨rfl, rfl, rfl, by decide +kernel, rfl, by decide +kernel, by decide +kernel⟩
def b_law_prefixes_c1 (F_law_bits : Fn) : DE :=
  (dB addD (dV 1) (dV 3))
def b_law_prefixes (F_law_bits : Fn) : DS :=
  (dSeq (dSet (tgN 1) (dCall F_law_bits [(dB divI (dV 0) (dC (.int 32))), (dB ixD (dLst [(dC (.int 0)), (dC (.int 3)), (dC (.int 9)), (dC (.int 12))]) (dB modI (dV 0) (dC (.int 4))))]))
    (dSeq (dSet (tgN 2) (dComp [3] (dIterA (dLst [(dC (.str "")), (dC (.str "0")), (dC (.str "1")), (dC (.str "00")), (dC (.str "011")), (dC (.str "10"))])) (tgN 3) dYes (b_law_prefixes_c1 F_law_bits)))
    (dRet (dB addD (dV 2) (dLst [(dSl (dB addD (dB addD (dV 1) (dCall F_law_bits [(dB divI (dV 0) (dC (.int 65536))), (dC (.int 16))])) (dC (.str "0"))) dNoPart (dPart (dC (.int 16))))])))))
theorem d_law_prefixes {P : Program} {w : World} {g : Gh} {mg : Str → Option Value} {base : Heap} {F_law_bits : Fn} (T : Tx mg) (D : DefOk g.K mg "_law_prefixes" (top 11) ["_law_more"]) (G_law_bits : GFn P w g mg base "_law_bits" 1 2 F_law_bits) : GFn P w g mg base "_law_prefixes" 2 1 (runF 4 (b_law_prefixes F_law_bits)) :=
  GFn.of D sc_law_prefixes rfl rfl fun f M cdv A outer s H E hr tk pp =>
  have nd : N_law_prefixes.Nodup := sc_law_prefixes.nd
  (dss_cons (ds_set 1 nd rfl (Or.inr rfl) (de_call rfl (G_law_bits.wm _) (hr.mono (by decide)) tk (by rfl) (da_cons (de_div (de_var 0 rfl (Or.inl rfl) rfl rfl) de_int) (da_cons (de_ix rfl (uu1 hr) (de_lst (da_cons de_int (da_cons de_int (da_cons de_int (da_cons de_int da_nil)))) (Nat.le_of_ble_eq_true rfl)) (de_mod (de_var 0 rfl (Or.inl rfl) rfl rfl) de_int) (fun _ _ => rfl)) da_nil)) rfl (by rfl) (by rfl) (by rfl)) rfl (Or.inl rfl))
    (dss_cons (ds_setLc (own := [("_law_text", 3)]) 2 rfl nd rfl rfl (sw_true rfl rfl rfl (by decide +kernel)) (di_any rfl (de_lst (da_cons (de_str (by decide +kernel)) (da_cons (de_str (by decide +kernel)) (da_cons (de_str (by decide +kernel)) (da_cons (de_str (by decide +kernel)) (da_cons (de_str (by decide +kernel)) (da_cons (de_str (by decide +kernel)) da_nil)))))) (Nat.le_of_ble_eq_true rfl))) (blkOk_by (own := [("_law_text", 3)]) (N := N_law_prefixes) (sc := defScope (top 11)) (by decide +kernel)) (fun _ => (tgN_ok 3)) (gName_own (by decide)) (fun _ _ _ _ _ => (pg_name (i := 3) nd rfl (Or.inl rfl) (Or.inr rfl))) (fun _ _ _ _ _ _ => dts_nil) (fun _ _ _ _ _ _ => (de_add rfl (de_var 1 rfl (Or.inr (Or.inl (by rfl))) rfl rfl) (de_var 3 rfl (Or.inl rfl) rfl rfl))) (fun _ => rfl))
    (dss_one (ds_ret (de_add rfl (de_var 2 rfl (Or.inl rfl) rfl rfl) (de_lst (da_cons (de_sl rfl (de_add rfl (de_add rfl (de_var 1 rfl (Or.inr (Or.inl rfl)) rfl rfl) (de_call rfl (G_law_bits.wm _) (hr.mono (by decide)) tk (by rfl) (da_cons (de_div (de_var 0 rfl (Or.inl rfl) rfl rfl) de_int) (da_cons de_int da_nil)) rfl (by rfl) (by rfl) (by rfl))) (de_str (by decide +kernel))) do_none (do_some de_int)) da_nil) (Nat.le_of_ble_eq_true rfl)))))))

abbrev N_law_tags : List Str := ["_law_more", "_law_some", "_law_k"]
theorem sc_law_tags : FnScope N_law_tags ["_law_more"] (defScope (top 12)) := ⟨rfl, rfl, rfl, by decide +kernel, rfl, by decide +kernel, by decide +kernel⟩
def b_law_tags_t1 : DT :=
  (dTest (dB eqD (dB modI (dB divI (dV 0) (dB shlI (dC (.int 1)) (dV 2))) (dC (.int 2))) (dC (.int 1))))
def b_law_tags_c1 : DE :=
  (dB ixD (dV 1) (dV 2))
def b_law_tags : DS :=
  (dSeq (dSet (tgN 1) (dLst [(dB addD (dC (.int 1)) (dB modI (dB divI (dV 0) (dC (.int 8))) (dC (.int 3)))), (dB addD (dC (.int 4)) (dB modI (dB divI (dV 0) (dC (.int 24))) (dC (.int 90)))), (dB addD (dC (.int 95)) (dB modI (dB divI (dV 0) (dC (.int 2160))) (dC (.int 3)))), (dB addD (dC (.int 98)) (dB modI (dB divI (dV 0) (dC (.int 6480))) (dC (.int 2))))]))
    (dRet (dCall tupleD [(dComp [2] (dIterR (dC (.int 4))) (tgN 2) (b_law_tags_t1) (b_law_tags_c1))])))
theorem d_law_tags {P : Program} {w : World} {g : Gh} {mg : Str → Option Value} {base : Heap} (T : Tx mg) (D : DefOk g.K mg "_law_tags" (top 12) ["_law_more"]) : GFn P w g mg base "_law_tags" 1 1 (runF 3 (b_law_tags)) :=
  GFn.of D sc_law_tags rfl rfl fun f M cdv A outer s H E hr tk pp =>
  have nd : N_law_tags.Nodup := sc_law_tags.nd
  (dss_cons (ds_set 1 nd rfl (Or.inr rfl) (de_lst (da_cons (de_add rfl de_int (de_mod (de_div (de_var 0 rfl (Or.inr (Or.inl rfl)) rfl rfl) de_int) de_int)) (da_cons (de_add rfl de_int (de_mod (de_div (de_var 0 rfl (Or.inr (Or.inl rfl)) rfl rfl) de_int) de_int)) (da_cons (de_add rfl de_int (de_mod (de_div (de_var 0 rfl (Or.inr (Or.inl rfl)) rfl rfl) de_int) de_int)) (da_cons (de_add rfl de_int (de_mod (de_div (de_var 0 rfl (Or.inr (Or.inl rfl)) rfl rfl) de_int) de_int)) da_nil)))) (Nat.le_of_ble_eq_true rfl)) rfl (Or.inl rfl))
    (dss_one (ds_ret (de_bty call_tuple_of tupleD_ok (by rfl) T.b_tuple boot_tuple (da_cons (de_lc (own := [("_law_k", 2)]) rfl nd (di_range (by rfl) T.b_range de_int rfl) (blkOk_by (own := [("_law_k", 2)]) (N := N_law_tags) (sc := defScope (top 12)) (by decide +kernel)) (fun _ => (tgN_ok 2)) (gName_own (by decide)) (fun _ _ _ _ _ => (pg_name (i := 2) nd rfl (Or.inl rfl) (Or.inr rfl))) (fun _ _ _ _ _ _ => (dts_one (dt_cmp (op_eqD (uu hr)) eqD_ok (de_mod (de_div (de_var 0 rfl (Or.inr (Or.inl (by rfl))) rfl rfl) (de_shl de_int (de_var 2 rfl (Or.inl rfl) rfl rfl))) de_int) de_int (nomark _)))) (fun _ _ _ _ _ _ => (de_ix rfl (uu1 hr) (de_var 1 rfl (Or.inr (Or.inl (by rfl))) rfl rfl) (de_var 2 rfl (Or.inl rfl) rfl rfl) (fun _ _ => rfl))) (fun _ => rfl)) da_nil) (by decide) rfl rfl rfl))))

abbrev N_law_route : List Str := ["_law_more", "_law_prefixes_here", "_law_first", "_law_some", "_law_path", "_law_k", "_law_weight"]
theorem sc_law_route : FnScope N_law_route ["_law_more", "_law_prefixes_here", "_law_first", "_law_some"] (defScope (top 13)) := ⟨rfl, rfl, rfl, by decide +kernel, rfl, by decide +kernel, by decide +kernel⟩
def b_law_route_l1 (F_law_tags : Fn) : DS :=
  (dExpr (dMeth chkL appendD (dV 4) [(dB ixD (dV 3) (dB modI (dB divI (dV 0) (dB addD (dC (.int 64)) (dB mulD (dC (.int 13)) (dV 5)))) (dCall lenD [(dV 3)])))]))
def b_law_route (F_law_tags : Fn) : DS :=
  (dSeq (dSet (tgN 4) (dLstM [(dV 2)]))
    (dSeq (dFor (dIterR (dB ixD (dLst [(dB modI (dV 0) (dC (.int 3))), (dB modI (dV 0) (dC (.int 5))), (dC (.int 11))]) (dB modI (dB divI (dV 0) (dC (.int 16))) (dC (.int 3))))) (tgN 5)
    (b_law_route_l1 F_law_tags))
    (dSeq (dSet (tgN 6) (dB ixD (dLst [(dC (.int 0)), (dB modI (dB divI (dV 0) (dC (.int 4096))) (dC (.int 3))), (dC (.int 1000))]) (dB modI (dB divI (dV 0) (dC (.int 16384))) (dC (.int 3)))))
    (dRet (dTup [(dB ixD (dV 1) (dB modI (dB divI (dV 0) (dC (.int 65536))) (dCall lenD [(dV 1)]))), (dCall tupleD [(dV 4)]), (dV 6), (dCall F_law_tags [(dB divI (dV 0) (dB powI (dC (.int 2)) (dC (.int 24))))])])))))
theorem d_law_route {P : Program} {w : World} {g : Gh} {mg : Str → Option Value} {base : Heap} {F_law_tags : Fn} (T : Tx mg) (D : DefOk g.K mg "_law_route" (top 13) ["_law_more", "_law_prefixes_here", "_law_first", "_law_some"]) (G_law_tags : GFn P w g mg base "_law_tags" 1 1 F_law_tags) : GFn P w g mg base "_law_route" 2 4 (runF 7 (b_law_route F_law_tags)) :=
  GFn.of D sc_law_route rfl rfl fun f M cdv A outer s H E hr tk pp =>
  have nd : N_law_route.Nodup := sc_law_route.nd
  (dss_cons (ds_set 4 nd rfl (Or.inl rfl) (de_lstM (da_cons (de_var 2 rfl (Or.inl rfl) rfl rfl) da_nil) (Nat.le_of_ble_eq_true rfl)) rfl (Or.inr rfl))
    (dss_cons (ds_for pp rfl (di_range (by rfl) T.b_range (de_ix rfl (uu1 hr) (de_lst (da_cons (de_mod (de_var 0 rfl (Or.inl rfl) rfl rfl) de_int) (da_cons (de_mod (de_var 0 rfl (Or.inl rfl) rfl rfl) de_int) (da_cons de_int da_nil))) (Nat.le_of_ble_eq_true rfl)) (de_mod (de_div (de_var 0 rfl (Or.inl rfl) rfl rfl) de_int) de_int) (fun _ _ => rfl)) rfl) (tgN_ok 5) (pg_name (i := 5) nd rfl (Or.inl rfl) (Or.inr rfl))
    (dss_one (ds_expr (de_bm rfl chkL_ok appendD_ok PySem.F.plainAttrs_list PySem.F.slot_list_append PySem.F.type_list_append mt_append (de_var 4 rfl (Or.inl rfl) rfl rfl) (da_cons (de_ix rfl (uu1 hr) (de_var 3 rfl (Or.inl rfl) rfl rfl) (de_mod (de_div (de_var 0 rfl (Or.inl rfl) rfl rfl) (de_add rfl de_int (de_mul rfl de_int (de_var 5 rfl (Or.inl rfl) rfl rfl)))) (de_blt cr_len lenD_ok (by rfl) T.b_len boot_len (da_cons (de_var 3 rfl (Or.inl rfl) rfl rfl) da_nil) (by decide) rfl rfl rfl)) (fun _ _ => rfl)) da_nil) rfl rfl rfl rfl rfl) rfl)) (fun _ => rfl))
    (dss_cons (ds_set 6 nd rfl (Or.inl rfl) (de_ix rfl (uu1 hr) (de_lst (da_cons de_int (da_cons (de_mod (de_div (de_var 0 rfl (Or.inl rfl) rfl rfl) de_int) de_int) (da_cons de_int da_nil))) (Nat.le_of_ble_eq_true rfl)) (de_mod (de_div (de_var 0 rfl (Or.inl rfl) rfl rfl) de_int) de_int) (fun _ _ => rfl)) rfl (Or.inr rfl))
    (dss_one (ds_ret (de_tup (da_cons (de_ix rfl (uu1 hr) (de_var 1 rfl (Or.inl rfl) rfl rfl) (de_mod (de_div (de_var 0 rfl (Or.inl rfl) rfl rfl) de_int) (de_blt cr_len lenD_ok (by rfl) T.b_len boot_len (da_cons (de_var 1 rfl (Or.inl rfl) rfl rfl) da_nil) (by decide) rfl rfl rfl)) (fun _ _ => rfl)) (da_cons (de_bty call_tuple_of tupleD_ok (by rfl) T.b_tuple boot_tuple (da_cons (de_var 4 rfl (Or.inl rfl) rfl rfl) da_nil) (by decide) rfl rfl rfl) (da_cons (de_var 6 rfl (Or.inl rfl) rfl rfl) (da_cons (de_call rfl (G_law_tags.wm _) (hr.mono (by decide)) tk (by rfl) (da_cons (de_div (de_var 0 rfl (Or.inl rfl) rfl rfl) (de_pow de_int de_int)) da_nil) rfl (by rfl) (by rfl) (by rfl)) da_nil)))) (Nat.le_of_ble_eq_true rfl)))))))

abbrev N_law_rule : List Str := ["_law_more", "_law_prefixes_here", "_law_some", "_law_prefix", "_law_longest", "_law_number", "_law_tag", "_law_deed", "_law_prefer"]
theorem sc_law_rule : FnScope N_law_rule ["_law_more", "_law_prefixes_here", "_law_some"] (defScope (top 14)) := ⟨rfl, rfl, rfl, by decide +kernel, rfl, by decide +kernel, by decide +kernel⟩
def b_law_rule_i1 : DS :=
  (dIfS (dTest (dB gtD (dB modI (dB divI (dV 0) (dC (.int 8))) (dC (.int 3))) (dC (.int 0))))
    (dSet (tgN 3) (dSl (dV 3) dNoPart (dPart (dB modI (dB divI (dV 0) (dC (.int 24))) (dC (.int 3)))))) dNext)
def b_law_rule : DS :=
  (dSeq (dSet (tgN 3) (dB ixD (dV 1) (dB modI (dV 0) (dCall lenD [(dV 1)]))))
    (dSeq (b_law_rule_i1)
    (dSeq (dSet (tgN 4) (dB ixD (dLst [(dC (.int 16)), (dB addD (dCall lenD [(dV 3)]) (dB modI (dB divI (dV 0) (dC (.int 72))) (dC (.int 4)))), (dC (.int 16))]) (dB modI (dB divI (dV 0) (dC (.int 288))) (dC (.int 3)))))
    (dSeq (dSet (tgN 5) (dB ixD (dLst [(dC (.int 0)), (dC (.int 0)), (dB ixD (dV 2) (dB modI (dB divI (dV 0) (dC (.int 4096))) (dCall lenD [(dV 2)])))]) (dB modI (dB divI (dV 0) (dC (.int 1024))) (dC (.int 3)))))
    (dSeq (dSet (tgN 6) (dB ixD (dLst [(dC (.int 0)), (dC (.int 0)), (dB addD (dC (.int 1)) (dB modI (dB divI (dV 0) (dC (.int 65536))) (dC (.int 3))))]) (dB modI (dB divI (dV 0) (dC (.int 16384))) (dC (.int 3)))))
    (dSeq (dSet (tgN 7) (dB ixD (dLst [(dC (.str "no")), (dC (.str "yes")), (dC (.str "on")), (dC (.str "on"))]) (dB modI (dB divI (dV 0) (dB powI (dC (.int 2)) (dC (.int 20)))) (dC (.int 4)))))
    (dSeq (dSet (tgN 8) (dB ixD (dLst [(dC .non), (dC (.int 100)), (dB modI (dB divI (dV 0) (dB powI (dC (.int 2)) (dC (.int 24)))) (dC (.int 1001))), (dC (.int 200))]) (dB modI (dB divI (dV 0) (dB powI (dC (.int 2)) (dC (.int 22)))) (dC (.int 4)))))
    (dSeq (dSet (tgN 0) (dB divI (dV 0) (dB powI (dC (.int 2)) (dC (.int 36)))))
    (dRet (dTup [(dV 3), (dCall min2D [(dV 4), (dC (.int 16))]), (dV 5), (dV 6), (dV 7), (dV 8), (dB ixD (dLst [(dC (.int 0)), (dC (.int 1)), (dC (.int 2)), (dC (.int 99))]) (dB modI (dV 0) (dC (.int 4)))), (dB ixD (dLst [(dC (.int 0)), (dC (.int 1)), (dC (.int 3))]) (dB modI (dB divI (dV 0) (dC (.int 4))) (dC (.int 3)))), (dB modI (dB divI (dV 0) (dC (.int 12))) (dC (.int 4)))]))))))))))
theorem d_law_rule {P : Program} {w : World} {g : Gh} {mg : Str → Option Value} {base : Heap} (T : Tx mg) (D : DefOk g.K mg "_law_rule" (top 14) ["_law_more", "_law_prefixes_here", "_law_some"]) : GFn P w g mg base "_law_rule" 1 3 (runF 9 (b_law_rule)) :=
  GFn.of D sc_law_rule rfl rfl fun f M cdv A outer s H E hr tk pp =>
  have nd : N_law_rule.Nodup := sc_law_rule.nd
  (dss_cons (ds_set 3 nd rfl (Or.inl rfl) (de_ix rfl (uu1 hr) (de_var 1 rfl (Or.inl rfl) rfl rfl) (de_mod (de_var 0 rfl (Or.inl rfl) rfl rfl) (de_blt cr_len lenD_ok (by rfl) T.b_len boot_len (da_cons (de_var 1 rfl (Or.inl rfl) rfl rfl) da_nil) (by decide) rfl rfl rfl)) (fun _ _ => rfl)) rfl (Or.inr rfl))
    (dss_cons (ds_if (dt_cmp op_gt gtD_ok (de_mod (de_div (de_var 0 rfl (Or.inl rfl) rfl rfl) de_int) de_int) de_int (nomark _))
    (dss_one (ds_set 3 nd rfl (Or.inl rfl) (de_sl rfl (de_var 3 rfl (Or.inl rfl) rfl rfl) do_none (do_some (de_mod (de_div (de_var 0 rfl (Or.inl rfl) rfl rfl) de_int) de_int))) rfl (Or.inr rfl))) dss_nil)
    (dss_cons (ds_set 4 nd rfl (Or.inl rfl) (de_ix rfl (uu1 hr) (de_lst (da_cons de_int (da_cons (de_add rfl (de_blt cr_len lenD_ok (by rfl) T.b_len boot_len (da_cons (de_var 3 rfl (Or.inl rfl) rfl rfl) da_nil) (by decide) rfl rfl rfl) (de_mod (de_div (de_var 0 rfl (Or.inl rfl) rfl rfl) de_int) de_int)) (da_cons de_int da_nil))) (Nat.le_of_ble_eq_true rfl)) (de_mod (de_div (de_var 0 rfl (Or.inl rfl) rfl rfl) de_int) de_int) (fun _ _ => rfl)) rfl (Or.inr rfl))
    (dss_cons (ds_set 5 nd rfl (Or.inl rfl) (de_ix rfl (uu1 hr) (de_lst (da_cons de_int (da_cons de_int (da_cons (de_ix rfl (uu1 hr) (de_var 2 rfl (Or.inl rfl) rfl rfl) (de_mod (de_div (de_var 0 rfl (Or.inl rfl) rfl rfl) de_int) (de_blt cr_len lenD_ok (by rfl) T.b_len boot_len (da_cons (de_var 2 rfl (Or.inl rfl) rfl rfl) da_nil) (by decide) rfl rfl rfl)) (fun _ _ => rfl)) da_nil))) (Nat.le_of_ble_eq_true rfl)) (de_mod (de_div (de_var 0 rfl (Or.inl rfl) rfl rfl) de_int) de_int) (fun _ _ => rfl)) rfl (Or.inr rfl))
    (dss_cons (ds_set 6 nd rfl (Or.inl rfl) (de_ix rfl (uu1 hr) (de_lst (da_cons de_int (da_cons de_int (da_cons (de_add rfl de_int (de_mod (de_div (de_var 0 rfl (Or.inl rfl) rfl rfl) de_int) de_int)) da_nil))) (Nat.le_of_ble_eq_true rfl)) (de_mod (de_div (de_var 0 rfl (Or.inl rfl) rfl rfl) de_int) de_int) (fun _ _ => rfl)) rfl (Or.inr rfl))
    (dss_cons (ds_set 7 nd rfl (Or.inl rfl) (de_ix rfl (uu1 hr) (de_lst (da_cons (de_str (by decide +kernel)) (da_cons (de_str (by decide +kernel)) (da_cons (de_str (by decide +kernel)) (da_cons (de_str (by decide +kernel)) da_nil)))) (Nat.le_of_ble_eq_true rfl)) (de_mod (de_div (de_var 0 rfl (Or.inl rfl) rfl rfl) (de_pow de_int de_int)) de_int) (fun _ _ => rfl)) rfl (Or.inr rfl))
    (dss_cons (ds_set 8 nd rfl (Or.inl rfl) (de_ix rfl (uu1 hr) (de_lst (da_cons de_non (da_cons de_int (da_cons (de_mod (de_div (de_var 0 rfl (Or.inl rfl) rfl rfl) (de_pow de_int de_int)) de_int) (da_cons de_int da_nil)))) (Nat.le_of_ble_eq_true rfl)) (de_mod (de_div (de_var 0 rfl (Or.inl rfl) rfl rfl) (de_pow de_int de_int)) de_int) (fun _ _ => rfl)) rfl (Or.inr rfl))
    (dss_cons (ds_set 0 nd rfl (Or.inl rfl) (de_div (de_var 0 rfl (Or.inl rfl) rfl rfl) (de_pow de_int de_int)) rfl (Or.inr rfl))
    (dss_one (ds_ret (de_tup (da_cons (de_var 3 rfl (Or.inl rfl) rfl rfl) (da_cons (de_blt (call_min2 rfl) min2D_ok (by rfl) T.b_min boot_min (da_cons (de_var 4 rfl (Or.inl rfl) rfl rfl) (da_cons de_int da_nil)) (by decide) rfl rfl rfl) (da_cons (de_var 5 rfl (Or.inl rfl) rfl rfl) (da_cons (de_var 6 rfl (Or.inl rfl) rfl rfl) (da_cons (de_var 7 rfl (Or.inl rfl) rfl rfl) (da_cons (de_var 8 rfl (Or.inl rfl) rfl rfl) (da_cons (de_ix rfl (uu1 hr) (de_lst (da_cons de_int (da_cons de_int (da_cons de_int (da_cons de_int da_nil)))) (Nat.le_of_ble_eq_true rfl)) (de_mod (de_var 0 rfl (Or.inl rfl) rfl rfl) de_int) (fun _ _ => rfl)) (da_cons (de_ix rfl (uu1 hr) (de_lst (da_cons de_int (da_cons de_int (da_cons de_int da_nil))) (Nat.le_of_ble_eq_true rfl)) (de_mod (de_div (de_var 0 rfl (Or.inl rfl) rfl rfl) de_int) de_int) (fun _ _ => rfl)) (da_cons (de_mod (de_div (de_var 0 rfl (Or.inl rfl) rfl rfl) de_int) de_int) da_nil))))))))) (Nat.le_of_ble_eq_true rfl))))))))))))

abbrev N_law_fits : List Str := ["_law_rule_here", "_law_route_here"]
theorem sc_law_fits : FnScope N_law_fits ["_law_rule_here", "_law_route_here"] (defScope (top 15)) := ⟨rfl, rfl, rfl, by decide +kernel, rfl, by decide +kernel, by decide +kernel⟩
def b_law_fits_i1 : DS :=
  (dIfS (dOr (dTest (dB neD (dSl (dB ixD (dV 1) (dC (.int 0))) dNoPart (dPart (dCall lenD [(dB ixD (dV 0) (dC (.int 0)))]))) (dB ixD (dV 0) (dC (.int 0))))) (dTest (dB gtD (dCall lenD [(dB ixD (dV 1) (dC (.int 0)))]) (dB ixD (dV 0) (dC (.int 1))))))
    (dRet (dC (.bl false))) dNext)
def b_law_fits_i2 : DS :=
  (dIfS (dAnd (dTest (dB neD (dB ixD (dV 0) (dC (.int 2))) (dC (.int 0)))) (dTest (dB notInD (dB ixD (dV 0) (dC (.int 2))) (dCall (listD false) [(dB ixD (dV 1) (dC (.int 1)))]))))
    (dRet (dC (.bl false))) dNext)
def b_law_fits : DS :=
  (dSeq (b_law_fits_i1)
    (dSeq (b_law_fits_i2)
    (dRet (dOrV (dB eqD (dB ixD (dV 0) (dC (.int 3))) (dC (.int 0))) (dB inD (dB ixD (dV 0) (dC (.int 3))) (dCall (listD false) [(dB ixD (dV 1) (dC (.int 3)))]))))))
theorem d_law_fits {P : Program} {w : World} {g : Gh} {mg : Str → Option Value} {base : Heap} (T : Tx mg) (D : DefOk g.K mg "_law_fits" (top 15) ["_law_rule_here", "_law_route_here"]) : GFn P w g mg base "_law_fits" 1 2 (runF 2 (b_law_fits)) :=
  GFn.of D sc_law_fits rfl rfl fun f M cdv A outer s H E hr tk pp =>
  have nd : N_law_fits.Nodup := sc_law_fits.nd
  (dss_cons (ds_if (dw_or (dt_cmp (op_neD (uu hr)) neD_ok (de_sl rfl (de_ix rfl (uu1 hr) (de_var 1 rfl (Or.inl rfl) rfl rfl) de_int (fun _ _ => rfl)) do_none (do_some (de_blt cr_len lenD_ok (by rfl) T.b_len boot_len (da_cons (de_ix rfl (uu1 hr) (de_var 0 rfl (Or.inl rfl) rfl rfl) de_int (fun _ _ => rfl)) da_nil) (by decide) rfl rfl rfl))) (de_ix rfl (uu1 hr) (de_var 0 rfl (Or.inl rfl) rfl rfl) de_int (fun _ _ => rfl)) (nomark _)) (dw_or1 (dt_cmp op_gt gtD_ok (de_blt cr_len lenD_ok (by rfl) T.b_len boot_len (da_cons (de_ix rfl (uu1 hr) (de_var 1 rfl (Or.inl rfl) rfl rfl) de_int (fun _ _ => rfl)) da_nil) (by decide) rfl rfl rfl) (de_ix rfl (uu1 hr) (de_var 0 rfl (Or.inl rfl) rfl rfl) de_int (fun _ _ => rfl)) (nomark _)))).pt
    (dss_one (ds_ret de_bl)) dss_nil)
    (dss_cons (ds_if (dw_and (dt_cmp (op_neD (uu hr)) neD_ok (de_ix rfl (uu1 hr) (de_var 0 rfl (Or.inl rfl) rfl rfl) de_int (fun _ _ => rfl)) de_int (nomark _)) (dw_and1 (dt_cmp (op_notInD (uu1 hr)) notInD_ok (de_ix rfl (uu1 hr) (de_var 0 rfl (Or.inl rfl) rfl rfl) de_int (fun _ _ => rfl)) (de_bty call_list_of (listD_ok false) (by rfl) T.b_list boot_list (da_cons (de_ix rfl (uu1 hr) (de_var 1 rfl (Or.inl rfl) rfl rfl) de_int (fun _ _ => rfl)) da_nil) (by decide) rfl rfl rfl) (by with_unfolding_all rfl)))).pt
    (dss_one (ds_ret de_bl)) dss_nil)
    (dss_one (ds_ret (de_or (de_cmp (op_eqD (uu hr)) eqD_ok (de_ix rfl (uu1 hr) (de_var 0 rfl (Or.inl rfl) rfl rfl) de_int (fun _ _ => rfl)) de_int (nomark _)) (de_one (de_cmp (op_inD (uu1 hr)) inD_ok (de_ix rfl (uu1 hr) (de_var 0 rfl (Or.inl rfl) rfl rfl) de_int (fun _ _ => rfl)) (de_bty call_list_of (listD_ok false) (by rfl) T.b_list boot_list (da_cons (de_ix rfl (uu1 hr) (de_var 1 rfl (Or.inl rfl) rfl rfl) de_int (fun _ _ => rfl)) da_nil) (by decide) rfl rfl rfl) (by with_unfolding_all rfl))))))))

abbrev N_law_judged : List Str := ["_law_rules", "_law_route_here", "_law_prefer", "_law_ahead", "_law_rule_here", "_law_tags_here", "_law_tag"]
theorem sc_law_judged : FnScope N_law_judged ["_law_rules", "_law_route_here"] (defScope (top 16)) := ⟨rfl, rfl, rfl, by decide +kernel, rfl, by decide +kernel, by decide +kernel⟩
def b_law_judged_i1 (F_law_fits : Fn) : DS :=
  (dIfS (dNot (dTest (dCall F_law_fits [(dV 4), (dV 1)])))
    dCont dNext)
def b_law_judged_t1 (F_law_fits : Fn) : DT :=
  (dTest (dB neD (dV 6) (dB ixD (dV 4) (dC (.int 7)))))
def b_law_judged_c1 (F_law_fits : Fn) : DE :=
  (dV 6)
def b_law_judged_i2 (F_law_fits : Fn) : DS :=
  (dIfS (dAnd (dTest (dB gtD (dB ixD (dV 4) (dC (.int 6))) (dC (.int 0)))) (dAnd (dTest (dB notInD (dB ixD (dV 4) (dC (.int 6))) (dV 5))) (dTest (dB ltD (dCall lenD [(dV 5)]) (dC (.int 4))))))
    (dSet (tgN 5) (dCall (sortedD false) [(dB addD (dV 5) (dLst [(dB ixD (dV 4) (dC (.int 6)))]))])) dNext)
def b_law_judged_i3 (F_law_fits : Fn) : DS :=
  (dIfS (dTest (dB eqD (dB ixD (dV 4) (dC (.int 4))) (dC (.str "no"))))
    (dRet (dC .non)) dNext)
def b_law_judged_i4 (F_law_fits : Fn) : DS :=
  (dIfS (dTest (dB eqD (dB ixD (dV 4) (dC (.int 4))) (dC (.str "yes"))))
    (dRet (dTup [(dV 1), (dV 2), (dV 3)])) dNext)
def b_law_judged_l1 (F_law_fits : Fn) : DS :=
  (dSeq (b_law_judged_i1 F_law_fits)
    (dSeq (dSet (tgN 5) (dCall (sortedD false) [(dComp [6] (dIterA (dB ixD (dV 1) (dC (.int 3)))) (tgN 6) (b_law_judged_t1 F_law_fits) (b_law_judged_c1 F_law_fits))]))
    (dSeq (b_law_judged_i2 F_law_fits)
    (dSeq (dSet (tgN 1) (dB addD (dSl (dV 1) dNoPart (dPart (dC (.int 3)))) (dTup [(dCall tupleD [(dV 5)])])))
    (dSeq (dSet (tgN 2) (dB ixD (dLst [(dB ixD (dV 4) (dC (.int 5))), (dV 2)]) (dCall intD [(dB isD (dB ixD (dV 4) (dC (.int 5))) (dC .non))])))
    (dSeq (dSet (tgN 3) (dB addD (dV 3) (dB ixD (dV 4) (dC (.int 8)))))
    (dSeq (b_law_judged_i3 F_law_fits)
    (b_law_judged_i4 F_law_fits))))))))
def b_law_judged (F_law_fits : Fn) : DS :=
  (dSeq (dSet (tgN 2) (dC (.int 100)))
    (dSeq (dSet (tgN 3) (dC (.int 0)))
    (dSeq (dFor (dIterA (dV 0)) (tgN 4)
    (b_law_judged_l1 F_law_fits))
    (dRet (dTup [(dV 1), (dV 2), (dV 3)])))))
theorem d_law_judged {P : Program} {w : World} {g : Gh} {mg : Str → Option Value} {base : Heap} {F_law_fits : Fn} (T : Tx mg) (D : DefOk g.K mg "_law_judged" (top 16) ["_law_rules", "_law_route_here"]) (G_law_fits : GFn P w g mg base "_law_fits" 1 2 F_law_fits) : GFn P w g mg base "_law_judged" 2 2 (runF 7 (b_law_judged F_law_fits)) :=
  GFn.of D sc_law_judged rfl rfl fun f M cdv A outer s H E hr tk pp =>
  have nd : N_law_judged.Nodup := sc_law_judged.nd
  (dss_cons (ds_set 2 nd rfl (Or.inl rfl) de_int rfl (Or.inr rfl))
    (dss_cons (ds_set 3 nd rfl (Or.inl rfl) de_int rfl (Or.inr rfl))
    (dss_cons (ds_for pp rfl (di_any rfl (de_var 0 rfl (Or.inl rfl) rfl rfl)) (tgN_ok 4) (pg_name (i := 4) nd rfl (Or.inr rfl) (Or.inl rfl))
    (dss_cons (ds_if (dt_not (dt_val (de_call rfl (G_law_fits.wm _) (hr.mono (by decide)) tk (by rfl) (da_cons (de_var 4 rfl (Or.inr (Or.inl rfl)) rfl rfl) (da_cons (de_var 1 rfl (Or.inl rfl) rfl rfl) da_nil)) rfl (by rfl) (by rfl) (by rfl)) (fun _ => rfl)))
    (dss_one ds_cont) dss_nil)
    (dss_cons (ds_set 5 nd rfl (Or.inl rfl) (de_blt (cr_sortX (uu hr)) (sortedD_ok false) (by rfl) T.b_sorted boot_sorted (da_cons (de_lc (own := [("_law_tag", 6)]) rfl nd (di_any rfl (de_ix rfl (uu1 hr) (de_var 1 rfl (Or.inl rfl) rfl rfl) de_int (fun _ _ => rfl))) (blkOk_by (own := [("_law_tag", 6)]) (N := N_law_judged) (sc := defScope (top 16)) (by decide +kernel)) (fun _ => (tgN_ok 6)) (gName_own (by decide)) (fun _ _ _ _ _ => (pg_name (i := 6) nd rfl (Or.inl rfl) (Or.inr rfl))) (fun _ _ _ _ _ _ => (dts_one (dt_cmp (op_neD (uu hr)) neD_ok (de_var 6 rfl (Or.inl rfl) rfl rfl) (de_ix rfl (uu1 hr) (de_var 4 rfl (Or.inr (Or.inl (by rfl))) rfl rfl) de_int (fun _ _ => rfl)) (nomark _)))) (fun _ _ _ _ _ _ => (de_var 6 rfl (Or.inl rfl) rfl rfl)) (fun _ => rfl)) da_nil) (by decide) rfl rfl rfl) rfl (Or.inr rfl))
    (dss_cons (ds_if (dw_and (dt_cmp op_gt gtD_ok (de_ix rfl (uu1 hr) (de_var 4 rfl (Or.inr (Or.inl rfl)) rfl rfl) de_int (fun _ _ => rfl)) de_int (nomark _)) (dw_and (dt_cmp (op_notInD (uu1 hr)) notInD_ok (de_ix rfl (uu1 hr) (de_var 4 rfl (Or.inr (Or.inl rfl)) rfl rfl) de_int (fun _ _ => rfl)) (de_var 5 rfl (Or.inl rfl) rfl rfl) (by with_unfolding_all rfl)) (dw_and1 (dt_cmp (op_ltD (uu0 hr)) ltD_ok (de_blt cr_len lenD_ok (by rfl) T.b_len boot_len (da_cons (de_var 5 rfl (Or.inl rfl) rfl rfl) da_nil) (by decide) rfl rfl rfl) de_int (nomark _))))).pt
    (dss_one (ds_set 5 nd rfl (Or.inl rfl) (de_blt (cr_sortX (uu hr)) (sortedD_ok false) (by rfl) T.b_sorted boot_sorted (da_cons (de_add rfl (de_var 5 rfl (Or.inl rfl) rfl rfl) (de_lst (da_cons (de_ix rfl (uu1 hr) (de_var 4 rfl (Or.inr (Or.inl rfl)) rfl rfl) de_int (fun _ _ => rfl)) da_nil) (Nat.le_of_ble_eq_true rfl))) da_nil) (by decide) rfl rfl rfl) rfl (Or.inr rfl))) dss_nil)
    (dss_cons (ds_set 1 nd rfl (Or.inl rfl) (de_add rfl (de_sl rfl (de_var 1 rfl (Or.inl rfl) rfl rfl) do_none (do_some de_int)) (de_tup (da_cons (de_bty call_tuple_of tupleD_ok (by rfl) T.b_tuple boot_tuple (da_cons (de_var 5 rfl (Or.inl rfl) rfl rfl) da_nil) (by decide) rfl rfl rfl) da_nil) (Nat.le_of_ble_eq_true rfl))) rfl (Or.inr rfl))
    (dss_cons (ds_set 2 nd rfl (Or.inl rfl) (de_ix rfl (uu1 hr) (de_lst (da_cons (de_ix rfl (uu1 hr) (de_var 4 rfl (Or.inr (Or.inl rfl)) rfl rfl) de_int (fun _ _ => rfl)) (da_cons (de_var 2 rfl (Or.inl rfl) rfl rfl) da_nil)) (Nat.le_of_ble_eq_true rfl)) (de_bty call_int1 intD_ok (by rfl) T.b_int boot_int (da_cons (de_cmp op_isD isD_ok (de_ix rfl (uu1 hr) (de_var 4 rfl (Or.inr (Or.inl rfl)) rfl rfl) de_int (fun _ _ => rfl)) de_non (nomark _)) da_nil) (by decide) rfl rfl rfl) (fun _ _ => rfl)) rfl (Or.inr rfl))
    (dss_cons (ds_set 3 nd rfl (Or.inl rfl) (de_add rfl (de_var 3 rfl (Or.inl rfl) rfl rfl) (de_ix rfl (uu1 hr) (de_var 4 rfl (Or.inr (Or.inl rfl)) rfl rfl) de_int (fun _ _ => rfl))) rfl (Or.inr rfl))
    (dss_cons (ds_if (dt_cmp (op_eqD (uu hr)) eqD_ok (de_ix rfl (uu1 hr) (de_var 4 rfl (Or.inr (Or.inl rfl)) rfl rfl) de_int (fun _ _ => rfl)) (de_str (by decide +kernel)) (nomark _))
    (dss_one (ds_ret de_non)) dss_nil)
    (dss_one (ds_if (dt_cmp (op_eqD (uu hr)) eqD_ok (de_ix rfl (uu1 hr) (de_var 4 rfl (Or.inr (Or.inl rfl)) rfl rfl) de_int (fun _ _ => rfl)) (de_str (by decide +kernel)) (nomark _))
    (dss_one (ds_ret (de_tup (da_cons (de_var 1 rfl (Or.inl rfl) rfl rfl) (da_cons (de_var 2 rfl (Or.inl rfl) rfl rfl) (da_cons (de_var 3 rfl (Or.inl rfl) rfl rfl) da_nil))) (Nat.le_of_ble_eq_true rfl)))) dss_nil))))))))) (fun _ => rfl))
    (dss_one (ds_ret (de_tup (da_cons (de_var 1 rfl (Or.inl rfl) rfl rfl) (da_cons (de_var 2 rfl (Or.inl rfl) rfl rfl) (da_cons (de_var 3 rfl (Or.inl rfl) rfl rfl) da_nil))) (Nat.le_of_ble_eq_true rfl)))))))

abbrev N_law : List Str := ["_law_script", "_law_k", "_law_more", "_law_prefixes_here", "_law_some", "_law_route_here", "_law_rules", "_law_rule_here", "_law_told", "_law_handed", "_law_found", "_law_due", "_law_first", "_law_rest", "_law_j"]
theorem sc_law : FnScope N_law ["_law_script"] (defScope (top 17)) := ⟨rfl, rfl, rfl, by decide +kernel, rfl, by decide +kernel, by decide +kernel⟩
def b_law_c1 (F_law_drawn : Fn) (F_law_cell : Fn) (F_law_prefixes : Fn) (F_law_numbers : Fn) (F_law_route : Fn) (F_law_rule : Fn) (F_fits : Fn) (F_law_fits : Fn) (F_judged : Fn) (F_law_judged : Fn) : DE :=
  (dCall F_law_rule [(dCall F_law_drawn [(dCall F_law_cell [(dV 0), (dB addD (dV 1) (dV 14))]), (dB addD (dB addD (dV 1) (dV 14)) (dC (.int 30)))]), (dV 3), (dV 4)])
def b_law_i1 (F_law_drawn : Fn) (F_law_cell : Fn) (F_law_prefixes : Fn) (F_law_numbers : Fn) (F_law_route : Fn) (F_law_rule : Fn) (F_fits : Fn) (F_law_fits : Fn) (F_judged : Fn) (F_law_judged : Fn) : DS :=
  (dIfS (dOr (dNot (dTest (dU (isiD "bool") (dV 8)))) (dTest (dB neD (dV 8) (dCall F_law_fits [(dV 7), (dV 5)]))))
    (dRet (dC (.bl false))) dNext)
def b_law_l1 (F_law_drawn : Fn) (F_law_cell : Fn) (F_law_prefixes : Fn) (F_law_numbers : Fn) (F_law_route : Fn) (F_law_rule : Fn) (F_fits : Fn) (F_law_fits : Fn) (F_judged : Fn) (F_law_judged : Fn) : DS :=
  (dSeq (dSet (tgN 8) (dCall F_fits [(dV 7), (dV 5)]))
    (b_law_i1 F_law_drawn F_law_cell F_law_prefixes F_law_numbers F_law_route F_law_rule F_fits F_law_fits F_judged F_law_judged))
def b_law_i2 (F_law_drawn : Fn) (F_law_cell : Fn) (F_law_prefixes : Fn) (F_law_numbers : Fn) (F_law_route : Fn) (F_law_rule : Fn) (F_fits : Fn) (F_law_fits : Fn) (F_judged : Fn) (F_law_judged : Fn) : DS :=
  (dIfS (dOr (dTest (dB neD (dV 10) (dV 11))) (dOr (dTest (dB neD (dV 9) (dV 6))) (dAnd (dTest (dB isnD (dV 11) (dC .non))) (dNot (dTest (dU (isiD "tuple") (dV 10)))))))
    (dRet (dC (.bl false))) dNext)
def b_law_i3 (F_law_drawn : Fn) (F_law_cell : Fn) (F_law_prefixes : Fn) (F_law_numbers : Fn) (F_law_route : Fn) (F_law_rule : Fn) (F_fits : Fn) (F_law_fits : Fn) (F_judged : Fn) (F_law_judged : Fn) : DS :=
  (dIfS (dOr (dAnd (dTest (dB isD (dV 13) (dC .non))) (dTest (dB isnD (dV 10) (dC .non)))) (dAnd (dTest (dB isnD (dV 13) (dC .non))) (dTest (dB isD (dV 10) (dC .non)))))
    (dRet (dC (.bl false))) dNext)
def b_law_i4 (F_law_drawn : Fn) (F_law_cell : Fn) (F_law_prefixes : Fn) (F_law_numbers : Fn) (F_law_route : Fn) (F_law_rule : Fn) (F_fits : Fn) (F_law_fits : Fn) (F_judged : Fn) (F_law_judged : Fn) : DS :=
  (dIfS (dAnd (dTest (dB isnD (dV 13) (dC .non))) (dOr (dTest (dB neD (dB ixD (dV 13) (dC (.int 0))) (dB ixD (dV 10) (dC (.int 0))))) (dTest (dB neD (dB addD (dB ixD (dV 13) (dC (.int 2))) (dB ixD (dV 12) (dC (.int 2)))) (dB ixD (dV 10) (dC (.int 2)))))))
    (dRet (dC (.bl false))) dNext)
def b_law_i5 (F_law_drawn : Fn) (F_law_cell : Fn) (F_law_prefixes : Fn) (F_law_numbers : Fn) (F_law_route : Fn) (F_law_rule : Fn) (F_fits : Fn) (F_law_fits : Fn) (F_judged : Fn) (F_law_judged : Fn) : DS :=
  (dIfS (dAnd (dTest (dB neD (dV 6) (dLst []))) (dTest (dB eqD (dB ixD (dB ixD (dV 6) (dC (.int 0))) (dC (.int 4))) (dC (.str "on")))))
    (dSeq (dSet (tgN 12) (dCall F_judged [(dSl (dV 6) dNoPart (dPart (dC (.int 1)))), (dV 5)]))
    (dSeq (dSet (tgN 13) (dCall F_judged [(dSl (dV 6) (dPart (dC (.int 1))) dNoPart), (dB ixD (dV 12) (dC (.int 0)))]))
    (dSeq (b_law_i3 F_law_drawn F_law_cell F_law_prefixes F_law_numbers F_law_route F_law_rule F_fits F_law_fits F_judged F_law_judged)
    (b_law_i4 F_law_drawn F_law_cell F_law_prefixes F_law_numbers F_law_route F_law_rule F_fits F_law_fits F_judged F_law_judged)))) dNext)
def b_law_l2 (F_law_drawn : Fn) (F_law_cell : Fn) (F_law_prefixes : Fn) (F_law_numbers : Fn) (F_law_route : Fn) (F_law_rule : Fn) (F_fits : Fn) (F_law_fits : Fn) (F_judged : Fn) (F_law_judged : Fn) : DS :=
  (dSeq (dSet (tgN 2) (dCall F_law_drawn [(dCall F_law_cell [(dV 0), (dV 1)]), (dV 1)]))
    (dSeq (dSet (tgN 3) (dCall F_law_prefixes [(dB divI (dV 2) (dC (.int 64)))]))
    (dSeq (dSet (tgN 4) (dCall F_law_numbers [(dB divI (dV 2) (dB powI (dC (.int 2)) (dC (.int 30)))), (dC (.int 5))]))
    (dSeq (dSet (tgN 5) (dCall F_law_route [(dB divI (dV 2) (dB powI (dC (.int 2)) (dC (.int 40)))), (dV 3), (dB ixD (dV 4) (dC (.int 0))), (dV 4)]))
    (dSeq (dSet (tgN 6) (dComp [14] (dIterR (dB modI (dV 2) (dC (.int 6)))) (tgN 14) dYes (b_law_c1 F_law_drawn F_law_cell F_law_prefixes F_law_numbers F_law_route F_law_rule F_fits F_law_fits F_judged F_law_judged)))
    (dSeq (dFor (dIterA (dV 6)) (tgN 7)
    (b_law_l1 F_law_drawn F_law_cell F_law_prefixes F_law_numbers F_law_route F_law_rule F_fits F_law_fits F_judged F_law_judged))
    (dSeq (dSet (tgN 9) (dCall (listD false) [(dV 6)]))
    (dSeq (dSet (tgN 10) (dCall F_judged [(dV 9), (dV 5)]))
    (dSeq (dSet (tgN 11) (dCall F_law_judged [(dV 6), (dV 5)]))
    (dSeq (b_law_i2 F_law_drawn F_law_cell F_law_prefixes F_law_numbers F_law_route F_law_rule F_fits F_law_fits F_judged F_law_judged)
    (b_law_i5 F_law_drawn F_law_cell F_law_prefixes F_law_numbers F_law_route F_law_rule F_fits F_law_fits F_judged F_law_judged)))))))))))
def b_law (F_law_drawn : Fn) (F_law_cell : Fn) (F_law_prefixes : Fn) (F_law_numbers : Fn) (F_law_route : Fn) (F_law_rule : Fn) (F_fits : Fn) (F_law_fits : Fn) (F_judged : Fn) (F_law_judged : Fn) : DS :=
  (dSeq (dFor (dIterR (dCall max2D [(dC (.int 1)), (dCall min2D [(dC (.int 6)), (dCall lenD [(dV 0)])])])) (tgN 1)
    (b_law_l2 F_law_drawn F_law_cell F_law_prefixes F_law_numbers F_law_route F_law_rule F_fits F_law_fits F_judged F_law_judged))
    (dRet (dC (.bl true))))
theorem d_law {P : Program} {w : World} {g : Gh} {mg : Str → Option Value} {base : Heap} {f : Addr} {fd : FuncData} {F_law_drawn F_law_cell F_law_prefixes F_law_numbers F_law_route F_law_rule F_fits F_law_fits F_judged F_law_judged : Fn} (T : Tx mg) (F : L2.Fun g.K "law" "law" (top 17) f fd) (G_law_drawn : GFn P w g mg base "_law_drawn" 1 2 F_law_drawn) (G_law_cell : GFn P w g mg base "_law_cell" 1 2 F_law_cell) (G_law_prefixes : GFn P w g mg base "_law_prefixes" 2 1 F_law_prefixes) (G_law_numbers : GFn P w g mg base "_law_numbers" 1 2 F_law_numbers) (G_law_route : GFn P w g mg base "_law_route" 2 4 F_law_route) (G_law_rule : GFn P w g mg base "_law_rule" 1 3 F_law_rule) (G_fits : GFn P w g mg base "fits" 1 2 F_fits) (G_law_fits : GFn P w g mg base "_law_fits" 1 2 F_law_fits) (G_judged : GFn P w g mg base "judged" 2 2 F_judged) (G_law_judged : GFn P w g mg base "_law_judged" 2 2 F_law_judged) : LawF P w g mg base 3 f fd "_law_script" (runF 15 (b_law F_law_drawn F_law_cell F_law_prefixes F_law_numbers F_law_route F_law_rule F_fits F_law_fits F_judged F_law_judged)) :=
  fn_rule F sc_law rfl rfl fun M cdv A outer s H E hr tk pp =>
  have nd : N_law.Nodup := sc_law.nd
  (dss_cons (ds_for pp rfl (di_range (by rfl) T.b_range (de_blt (call_max2 rfl) max2D_ok (by rfl) T.b_max boot_max (da_cons de_int (da_cons (de_blt (call_min2 rfl) min2D_ok (by rfl) T.b_min boot_min (da_cons de_int (da_cons (de_blt cr_len lenD_ok (by rfl) T.b_len boot_len (da_cons (de_var 0 rfl (Or.inr (Or.inl rfl)) rfl rfl) da_nil) (by decide) rfl rfl rfl) da_nil)) (by decide) rfl rfl rfl) da_nil)) (by decide) rfl rfl rfl) rfl) (tgN_ok 1) (pg_name (i := 1) nd rfl (Or.inr rfl) (Or.inl rfl))
    (dss_cons (ds_set 2 nd rfl (Or.inl rfl) (de_call rfl (G_law_drawn.wm _) (hr.mono (by decide)) tk (by rfl) (da_cons (de_call rfl (G_law_cell.wm _) (hr.mono (by decide)) tk (by rfl) (da_cons (de_var 0 rfl (Or.inr (Or.inl rfl)) rfl rfl) (da_cons (de_var 1 rfl (Or.inr (Or.inl rfl)) rfl rfl) da_nil)) rfl (by rfl) (by rfl) (by rfl)) (da_cons (de_var 1 rfl (Or.inr (Or.inl rfl)) rfl rfl) da_nil)) rfl (by rfl) (by rfl) (by rfl)) rfl (Or.inr rfl))
    (dss_cons (ds_set 3 nd rfl (Or.inr rfl) (de_call rfl (G_law_prefixes.wm _) (hr.mono (by decide)) tk (by rfl) (da_cons (de_div (de_var 2 rfl (Or.inl rfl) rfl rfl) de_int) da_nil) rfl (by rfl) (by rfl) (by rfl)) rfl (Or.inl rfl))
    (dss_cons (ds_set 4 nd rfl (Or.inr rfl) (de_call rfl (G_law_numbers.wm _) (hr.mono (by decide)) tk (by rfl) (da_cons (de_div (de_var 2 rfl (Or.inl rfl) rfl rfl) (de_pow de_int de_int)) (da_cons de_int da_nil)) rfl (by rfl) (by rfl) (by rfl)) rfl (Or.inl rfl))
    (dss_cons (ds_set 5 nd rfl (Or.inl rfl) (de_call rfl (G_law_route.wm _) (hr.mono (by decide)) tk (by rfl) (da_cons (de_div (de_var 2 rfl (Or.inl rfl) rfl rfl) (de_pow de_int de_int)) (da_cons (de_var 3 rfl (Or.inr (Or.inl rfl)) rfl rfl) (da_cons (de_ix rfl (uu1 hr) (de_var 4 rfl (Or.inr (Or.inl rfl)) rfl rfl) de_int (fun _ _ => rfl)) (da_cons (de_var 4 rfl (Or.inr (Or.inl rfl)) rfl rfl) da_nil)))) rfl (by rfl) (by rfl) (by rfl)) rfl (Or.inr rfl))
    (dss_cons (ds_setLc (own := [("_law_j", 14)]) 6 rfl nd rfl rfl (sw_true rfl rfl rfl (by decide +kernel)) (di_range (by rfl) T.b_range (de_mod (de_var 2 rfl (Or.inl rfl) rfl rfl) de_int) rfl) (blkOk_by (own := [("_law_j", 14)]) (N := N_law) (sc := defScope (top 17)) (by decide +kernel)) (fun _ => (tgN_ok 14)) (gName_own (by decide)) (fun _ _ _ _ _ => (pg_name (i := 14) nd rfl (Or.inl rfl) (Or.inr rfl))) (fun _ _ _ _ _ _ => dts_nil) (fun _ _ _ _ _ _ => (de_call rfl (G_law_rule.wm _) (hr.mono (by decide)) takes_never (by rfl) (da_cons (de_call rfl (G_law_drawn.wm _) (hr.mono (by decide)) takes_never (by rfl) (da_cons (de_call rfl (G_law_cell.wm _) (hr.mono (by decide)) takes_never (by rfl) (da_cons (de_var 0 rfl (Or.inr (Or.inl (by rfl))) rfl rfl) (da_cons (de_add rfl (de_var 1 rfl (Or.inr (Or.inl (by rfl))) rfl rfl) (de_var 14 rfl (Or.inl rfl) rfl rfl)) da_nil)) rfl (by rfl) (by rfl) (by rfl)) (da_cons (de_add rfl (de_add rfl (de_var 1 rfl (Or.inr (Or.inl (by rfl))) rfl rfl) (de_var 14 rfl (Or.inl rfl) rfl rfl)) de_int) da_nil)) rfl (by rfl) (by rfl) (by rfl)) (da_cons (de_var 3 rfl (Or.inr (Or.inl (by rfl))) rfl rfl) (da_cons (de_var 4 rfl (Or.inr (Or.inl (by rfl))) rfl rfl) da_nil))) rfl (by rfl) (by rfl) (by rfl))) (fun _ => rfl))
    (dss_cons (ds_for pp rfl (di_any rfl (de_var 6 rfl (Or.inl rfl) rfl rfl)) (tgN_ok 7) (pg_name (i := 7) nd rfl (Or.inl rfl) (Or.inr rfl))
    (dss_cons (ds_set 8 nd rfl (Or.inl rfl) (de_call rfl (G_fits.wm _) (hr.mono (by decide)) tk (by rfl) (da_cons (de_var 7 rfl (Or.inl rfl) rfl rfl) (da_cons (de_var 5 rfl (Or.inl rfl) rfl rfl) da_nil)) rfl (by rfl) (by rfl) (by rfl)) rfl (Or.inr rfl))
    (dss_one (ds_if (dw_or (dt_not (dt_val (de_isi rfl (de_var 8 rfl (Or.inl rfl) rfl rfl) (by rfl) T.b_isinstance (by rfl) T.b_bool boot_bool (by decide) rfl rfl rfl rfl) (fun _ => rfl))) (dw_or1 (dt_cmp (op_neD (uu hr)) neD_ok (de_var 8 rfl (Or.inl rfl) rfl rfl) (de_call rfl (G_law_fits.wm _) (hr.mono (by decide)) tk (by rfl) (da_cons (de_var 7 rfl (Or.inl rfl) rfl rfl) (da_cons (de_var 5 rfl (Or.inl rfl) rfl rfl) da_nil)) rfl (by rfl) (by rfl) (by rfl)) (nomark _)))).pt
    (dss_one (ds_ret de_bl)) dss_nil))) (fun _ => rfl))
    (dss_cons (ds_set 9 nd rfl (Or.inl rfl) (de_bty call_list_of (listD_ok false) (by rfl) T.b_list boot_list (da_cons (de_var 6 rfl (Or.inl rfl) rfl rfl) da_nil) (by decide) rfl rfl rfl) rfl (Or.inr rfl))
    (dss_cons (ds_set 10 nd rfl (Or.inl rfl) (de_call rfl (G_judged.wm _) (hr.mono (by decide)) tk (by rfl) (da_cons (de_var 9 rfl (Or.inl rfl) rfl rfl) (da_cons (de_var 5 rfl (Or.inl rfl) rfl rfl) da_nil)) rfl (by rfl) (by rfl) (by rfl)) rfl (Or.inr rfl))
    (dss_cons (ds_set 11 nd rfl (Or.inl rfl) (de_call rfl (G_law_judged.wm _) (hr.mono (by decide)) tk (by rfl) (da_cons (de_var 6 rfl (Or.inl rfl) rfl rfl) (da_cons (de_var 5 rfl (Or.inl rfl) rfl rfl) da_nil)) rfl (by rfl) (by rfl) (by rfl)) rfl (Or.inr rfl))
    (dss_cons (ds_if (dw_or (dt_cmp (op_neD (uu hr)) neD_ok (de_var 10 rfl (Or.inl rfl) rfl rfl) (de_var 11 rfl (Or.inl rfl) rfl rfl) (nomark _)) (dw_or (dt_cmp (op_neD (uu hr)) neD_ok (de_var 9 rfl (Or.inl rfl) rfl rfl) (de_var 6 rfl (Or.inl rfl) rfl rfl) (nomark _)) (dw_or1 (dw_and (dt_cmp op_isnD isnD_ok (de_var 11 rfl (Or.inl rfl) rfl rfl) de_non (nomark _)) (dw_and1 (dt_not (dt_val (de_isi rfl (de_var 10 rfl (Or.inl rfl) rfl rfl) (by rfl) T.b_isinstance (by rfl) T.b_tuple boot_tuple (by decide) rfl rfl rfl rfl) (fun _ => rfl))))).pt))).pt
    (dss_one (ds_ret de_bl)) dss_nil)
    (dss_one (ds_if (dw_and (dt_cmp (op_neD (uu hr)) neD_ok (de_var 6 rfl (Or.inl rfl) rfl rfl) (de_lst da_nil (Nat.le_of_ble_eq_true rfl)) (nomark _)) (dw_and1 (dt_cmp (op_eqD (uu hr)) eqD_ok (de_ix rfl (uu1 hr) (de_ix rfl (uu1 hr) (de_var 6 rfl (Or.inl rfl) rfl rfl) de_int (fun _ _ => rfl)) de_int (fun _ _ => rfl)) (de_str (by decide +kernel)) (nomark _)))).pt
    (dss_cons (ds_set 12 nd rfl (Or.inl rfl) (de_call rfl (G_judged.wm _) (hr.mono (by decide)) tk (by rfl) (da_cons (de_sl rfl (de_var 6 rfl (Or.inl rfl) rfl rfl) do_none (do_some de_int)) (da_cons (de_var 5 rfl (Or.inl rfl) rfl rfl) da_nil)) rfl (by rfl) (by rfl) (by rfl)) rfl (Or.inr rfl))
    (dss_cons (ds_set 13 nd rfl (Or.inl rfl) (de_call rfl (G_judged.wm _) (hr.mono (by decide)) tk (by rfl) (da_cons (de_sl rfl (de_var 6 rfl (Or.inl rfl) rfl rfl) (do_some de_int) do_none) (da_cons (de_ix rfl (uu1 hr) (de_var 12 rfl (Or.inl rfl) rfl rfl) de_int (fun _ _ => rfl)) da_nil)) rfl (by rfl) (by rfl) (by rfl)) rfl (Or.inr rfl))
    (dss_cons (ds_if (dw_or (dw_and (dt_cmp op_isD isD_ok (de_var 13 rfl (Or.inl rfl) rfl rfl) de_non (nomark _)) (dw_and1 (dt_cmp op_isnD isnD_ok (de_var 10 rfl (Or.inl rfl) rfl rfl) de_non (nomark _)))).pt (dw_or1 (dw_and (dt_cmp op_isnD isnD_ok (de_var 13 rfl (Or.inl rfl) rfl rfl) de_non (nomark _)) (dw_and1 (dt_cmp op_isD isD_ok (de_var 10 rfl (Or.inl rfl) rfl rfl) de_non (nomark _)))).pt)).pt
    (dss_one (ds_ret de_bl)) dss_nil)
    (dss_one (ds_if (dw_and (dt_cmp op_isnD isnD_ok (de_var 13 rfl (Or.inl rfl) rfl rfl) de_non (nomark _)) (dw_and1 (dw_or (dt_cmp (op_neD (uu hr)) neD_ok (de_ix rfl (uu1 hr) (de_var 13 rfl (Or.inl rfl) rfl rfl) de_int (fun _ _ => rfl)) (de_ix rfl (uu1 hr) (de_var 10 rfl (Or.inl rfl) rfl rfl) de_int (fun _ _ => rfl)) (nomark _)) (dw_or1 (dt_cmp (op_neD (uu hr)) neD_ok (de_add rfl (de_ix rfl (uu1 hr) (de_var 13 rfl (Or.inl rfl) rfl rfl) de_int (fun _ _ => rfl)) (de_ix rfl (uu1 hr) (de_var 12 rfl (Or.inl rfl) rfl rfl) de_int (fun _ _ => rfl))) (de_ix rfl (uu1 hr) (de_var 10 rfl (Or.inl rfl) rfl rfl) de_int (fun _ _ => rfl)) (nomark _)))).pt)).pt
    (dss_one (ds_ret de_bl)) dss_nil))))) dss_nil)))))))))))) (fun _ => rfl))
    (dss_one (ds_ret de_bl)))
def fn_law_drawn : Fn := Fn.clean (runF 3 (b_law_drawn))
def fn_law_cell : Fn := Fn.clean (runF 2 (b_law_cell))
def fn_law_bits : Fn := Fn.clean (runF 3 (b_law_bits))
def fn_law_prefixes : Fn := Fn.clean (runF 4 (b_law_prefixes fn_law_bits))
def fn_law_numbers : Fn := Fn.clean (runF 4 (b_law_numbers))
def fn_law_tags : Fn := Fn.clean (runF 3 (b_law_tags))
def fn_law_route : Fn := Fn.clean (runF 7 (b_law_route fn_law_tags))
def fn_law_rule : Fn := Fn.clean (runF 9 (b_law_rule))
def fn_fits : Fn := Fn.clean (runF 2 (b_fits))
def fn_law_fits : Fn := Fn.clean (runF 2 (b_law_fits))
def fn_retagged : Fn := Fn.clean (runF 5 (b_retagged))
def fn_judged : Fn := Fn.clean (runF 5 (b_judged fn_fits fn_retagged))
def fn_law_judged : Fn := Fn.clean (runF 7 (b_law_judged fn_law_fits))
def F_law : Fn := (runF 15 (b_law fn_law_drawn fn_law_cell fn_law_prefixes fn_law_numbers fn_law_route fn_law_rule fn_fits fn_law_fits fn_judged fn_law_judged))

end
end DL

namespace DL
open PySem PySem.Spec PyProof.Rows L2
/-! ### the script's cells -/
theorem eqv_nil (ns : List Int) : PyData.eqv (.list (ns.map PyData.int)) (.list []) = ns.isEmpty := by
  cases ns <;> simp [PyData.eqv, PyData.eqvAll]
theorem toPs_nil : toPs [] = [] := by simp [toPs]
theorem scr_nil (ns : List Int) (st : Sto) : eqD (.scr ns) (.lst []) st = .ok (.bl ns.isEmpty) st := by
  rw [eqD_good (x := .scr ns) (y := .lst []) rfl rfl]
  simp only [der, toP, toPs_nil, eqv_nil]
theorem ixD_scr {ns : List Int} {i : Int} {n : Int} {st : Sto} (h : atI ns i = some n) : ixD (.scr ns) (.int i) st = .ok (.int n) st := by
  show (match atI ns i with
    | some n => Rs.ok (D.int n) st
    | none => Rs.bad) = _
  rw [h]
theorem cell_ok {ns : List Int} (h : Scr ns) (k : Nat) (hk : k < 1000) (st : Sto) : ∃ c : Int, fn_law_cell [.scr ns, .int k] st = .ok (.int c) st ∧ c.natAbs < 2 ^ 1048577 := by
  by_cases hn : ns = []
  · subst hn
    refine ⟨k * 7919, Fn.clean_same ?_ rfl, ?_⟩
    · have hm : mulD (.int k) (.int 7919) st = .ok (.int (k * 7919)) st := mulD_int (by
        have h1 : (k : Int).natAbs.log2 < 10 := log2_lt_of (by omega) (by decide)
        have h2 : (7919 : Int).natAbs.log2 < 13 := log2_lt_of (by decide) (by decide)
        omega)
      simp [b_law_cell, b_law_cell_i1, dIfS_def, scr_nil, hm]
    · exact pow_le (a := 30) (by omega) (by omega)
  · have hl : 0 < ns.length := List.length_pos_iff.mpr hn
    have he : ns.isEmpty = false := by cases ns with | nil => exact absurd rfl hn | cons _ _ => rfl
    have hj : k % ns.length < ns.length := Nat.mod_lt _ hl
    have ha : atI ns ((k : Int) % (ns.length : Int)) = some ns[k % ns.length] := by
      rw [← Int.natCast_emod, atI_nat' _ hj, List.getElem?_eq_getElem hj]
    have hd : k / ns.length < 1000 := Nat.lt_of_le_of_lt (Nat.div_le_self _ _) hk
    have hv0 : divI (.int (k : Int)) (.int (ns.length : Int)) st = .ok (.int ((k : Int) / (ns.length : Int))) st := divI_int (by omega) (by
        have h1 : ((ns.length : Nat) : Int).natAbs.log2 < 7 := log2_lt_of (by have := h.1; omega) (by decide)
        omega)
    rw [← Int.natCast_ediv] at hv0
    generalize k / ns.length = q at *
    have hm : mulD (.int (q : Int)) (.int 104729) st = .ok (.int ((q : Int) * 104729)) st := mulD_int (by
        have h1 : (q : Int).natAbs.log2 < 10 := log2_lt_of (by omega) (by decide)
        have h2 : (104729 : Int).natAbs.log2 < 17 := log2_lt_of (by decide) (by decide)
        omega)
    have hmod : modI (.int (k : Int)) (.int (ns.length : Int)) st = .ok (.int ((k : Int) % (ns.length : Int))) st := modI_int (by omega)
    refine ⟨ns[k % ns.length] + (q : Int) * 104729, Fn.clean_same ?_ rfl, ?_⟩
    · simp only [b_law_cell, b_law_cell_i1, dIfS_def, runF_def, List.map_cons, List.map_nil, List.length_cons, List.length_nil]
      simp [scr_nil, he, len_scr, hv0, hm, hmod, ixD_scr ha]
    · exact add_lt (lt_of_bits (h.2 _ (List.getElem_mem hj))) (pow_le (a := 30) (by omega) (by omega))
theorem drawn_ok {c : Int} (hc : c.natAbs < 2 ^ 1048577) (k : Nat) (hk : k < 1000) (st : Sto) : ∃ m : Int, fn_law_drawn [.int c, .int k] st = .ok (.int m) st ∧ 0 ≤ m ∧ m < 2 ^ 128 := by
  have l1 : c.natAbs.log2 < 1048577 := log2_lt_of hc (by omega)
  have hm1 : mulD (.int c) (.int 6364136223846793005) st = .ok (.int (c * 6364136223846793005)) st := mulD_int (by
    have h2 : (6364136223846793005 : Int).natAbs.log2 < 64 := log2_lt_of (by decide) (by decide)
    omega)
  have hm2 : mulD (.int ((k : Int) + 1)) (.int 1442695040888963407) st = .ok (.int (((k : Int) + 1) * 1442695040888963407)) st := mulD_int (by
    have h1 : ((k : Int) + 1).natAbs.log2 < 11 := log2_lt_of (by omega) (by decide)
    have h2 : (1442695040888963407 : Int).natAbs.log2 < 64 := log2_lt_of (by decide) (by decide)
    omega)
  generalize hx : c * 6364136223846793005 + ((k : Int) + 1) * 1442695040888963407 = x at *
  have hmod1 : modI (.int x) (.int 340282366920938463463374607431768211507) st = .ok (.int (x % 340282366920938463463374607431768211507)) st := modI_int (by decide)
  have b1 := Int.emod_nonneg x (show (340282366920938463463374607431768211507 : Int) ≠ 0 by decide)
  have b2 := Int.emod_lt_of_pos x (show (0 : Int) < 340282366920938463463374607431768211507 by decide)
  generalize x % 340282366920938463463374607431768211507 = y at *
  have ly : y.natAbs.log2 < 129 := log2_lt_of (by omega) (by decide)
  have hm3 : mulD (.int y) (.int y) st = .ok (.int (y * y)) st := mulD_int (by omega)
  have hmod2 : modI (.int (y * y)) (.int 340282366920938463463374607431768211297) st = .ok (.int (y * y % 340282366920938463463374607431768211297)) st := modI_int (by decide)
  refine ⟨y * y % 340282366920938463463374607431768211297, Fn.clean_same ?_ rfl, Int.emod_nonneg _ (by decide), ?_⟩
  · simp [b_law_drawn, hm1, hm2, hx, hmod1, hm3, hmod2]
  · have := Int.emod_lt_of_pos (y * y) (show (0 : Int) < 340282366920938463463374607431768211297 by decide)
    omega
theorem drawn_big {c : Int} (hc : c.natAbs < 2 ^ 1048577) (k : Nat) (hk : k < 1000) (st : Sto) : ∃ m : Int, fn_law_drawn [.int c, .int k] st = .ok (.int m) st ∧ Big m := by
  obtain ⟨m, e, h1, h2⟩ := drawn_ok hc k hk st
  exact ⟨m, e, h1, h2⟩
/-! ### numbers, signs, prefixes, tags -/
theorem noLocs_ints (n : Nat) (ns : List Int) : noLocs n (ns.map D.int) = true := by
  induction ns with
  | nil => simp [noLocs]
  | cons a ns ih => simp [noLocs, noLoc, ih]
theorem noLocs_strs (n : Nat) (ns : List Str) : noLocs n (ns.map D.str) = true := by
  induction ns with
  | nil => simp [noLocs]
  | cons a ns ih => simp [noLocs, noLoc, ih]
theorem numbers_ok {m : Int} (hm : Big m) (many : Nat) (hk : many < 1000) (st : Sto) : ∃ ns : List Int, fn_law_numbers [.int m, .int many] st = .ok (.lst (ns.map D.int)) st ∧ ns.length = many ∧ ∀ n ∈ ns, 1 ≤ n ∧ n ≤ 999 := by
  obtain ⟨s, hs, e⟩ := pickE D.int (as := [1, 2, 500, 7]) (i := m % 4) st (Int.emod_nonneg _ (by decide)) (by have := Int.emod_lt_of_pos m (show (0 : Int) < 4 by decide); simpa using this)
  have hs2 : 0 ≤ s ∧ s ≤ 500 := by
    simp only [List.mem_cons, List.mem_nil_iff, or_false] at hs
    omega
  have hm2 := (hm.div 4).2
  have hm3 := (hm.div 4).1
  refine ⟨(List.range many).map fun (k : Nat) => (m / 4 + (k : Int) * s) % 999 + 1, Fn.clean_same ?_ ?_, by simp, ?_⟩
  · have hc : compL (tgN 3) dYes b_law_numbers_c1 [some (.int m), some (.int many), some (.int s), none] (rngD many) st = .ok ((List.range many).map fun (k : Nat) => D.int ((m / 4 + (k : Int) * s) % 999 + 1)) st := by
      refine compL_map (fun (k : Nat) => D.int (k : Int)) _ _ fun k hk2 => ?_
      have hk3 := List.mem_range.mp hk2
      have h1 : divI (.int m) (.int 4) st = .ok (.int (m / 4)) st := divI_small (by decide) (by decide)
      have h2 : mulD (.int (k : Int)) (.int s) st = .ok (.int ((k : Int) * s)) st := mulD_small (by omega) (by omega)
      simp [b_law_numbers_c1, h1, h2]
    have hr : asR (.int (many : Int)) st = .ok (rngD many) st := by rw [asR_ok (by omega) (by omega)]; simp
    have e' : ixD (.lst [.int 1, .int 2, .int 500, .int 7]) (.int (m % 4)) st = .ok (.int s) st := e
    simp only [b_law_numbers, runF_def]
    simp [e']
    rw [dComp_of (ds := rngD many) (st1 := st) (by simp [hr]) hc (by simp; omega)]
    simp
  · unfold noLoc; exact noLocs_ints _ _
  · intro n hn
    obtain ⟨k, _, rfl⟩ := List.mem_map.mp hn
    have := Int.emod_nonneg (m / 4 + (k : Int) * s) (show (999 : Int) ≠ 0 by decide)
    have := Int.emod_lt_of_pos (m / 4 + (k : Int) * s) (show (0 : Int) < 999 by decide)
    omega
theorem bits_ok {m : Int} (hm : Big m) (many : Nat) (hk : many ≤ 16) (st : Sto) : ∃ s : Str, fn_law_bits [.int m, .int many] st = .ok (.str s) st ∧ Bit many s := by
  let c : Nat → Nat := fun k => 48 + (m / 2 ^ k % 2).toNat
  have hc01 : ∀ k, c k = 48 ∨ c k = 49 := fun k => by
    have := Int.emod_nonneg (m / 2 ^ k) (show (2 : Int) ≠ 0 by decide)
    have := Int.emod_lt_of_pos (m / 2 ^ k) (show (0 : Int) < 2 by decide)
    show 48 + (m / 2 ^ k % 2).toNat = 48 ∨ 48 + (m / 2 ^ k % 2).toNat = 49
    omega
  let ss : List Str := (List.range many).map fun k => ⟨#[c k]⟩
  have hcomp : compL (tgN 2) dYes b_law_bits_c1 [some (.int m), some (.int many), none] (rngD many) st = .ok ((List.range many).map fun k => .str ⟨#[c k]⟩) st := by
    refine compL_map (fun (k : Nat) => D.int (k : Int)) _ _ fun k hk2 => ?_
    have hk3 := List.mem_range.mp hk2
    have h0 : shlI (.int 1) (.int (k : Int)) st = .ok (.int (2 ^ k)) st := by
      rw [shlI_int (by omega) (by omega) (by decide)]
      simp
    have h1 : divI (.int m) (.int (2 ^ k)) st = .ok (.int (m / 2 ^ k)) st := by
      have e2 : ((2 : Int) ^ k) = ((2 ^ k : Nat) : Int) := by simp
      rw [e2]
      exact divI_small (by have := Nat.two_pow_pos k; omega) (by
        have : 2 ^ k < 2 ^ 17 := Nat.pow_lt_pow_right (by decide) (by omega)
        rw [Int.natAbs_natCast]
        omega)
    have h2 : ixD (.str ("01" : Str)) (.int (m / 2 ^ k % 2)) st = .ok (.str ⟨#[c k]⟩) st := by
      have a1 := Int.emod_nonneg (m / 2 ^ k) (show (2 : Int) ≠ 0 by decide)
      have a2 := Int.emod_lt_of_pos (m / 2 ^ k) (show (0 : Int) < 2 by decide)
      have h3 : m / 2 ^ k % 2 = 0 ∨ m / 2 ^ k % 2 = 1 := by omega
      have hck : c k = 48 + (m / 2 ^ k % 2).toNat := rfl
      rcases h3 with h3 | h3
      · rw [hck, h3]; rfl
      · rw [hck, h3]; rfl
    simp [b_law_bits_c1, h0, h1, h2]
  have hr : asR (.int (many : Int)) st = .ok (rngD many) st := by rw [asR_ok (by omega) (by omega)]; simp
  have hlen : (Str.join ⟨#[]⟩ ss).cps.toList = (List.range many).map c := by
    rw [join_nil]
    show ((((List.range many).map fun k => (⟨#[c k]⟩ : Str))).map fun s => s.cps.toList).flatten = _
    rw [List.map_map]
    have : ∀ l : List Nat, ((l.map ((fun s : Str => s.cps.toList) ∘ fun k => (⟨#[c k]⟩ : Str)))).flatten = l.map c := fun l => by
      induction l with
      | nil => rfl
      | cons a l ih => rw [List.map_cons, List.flatten_cons, ih]; rfl
    exact this _
  refine ⟨Str.join ⟨#[]⟩ ss, Fn.clean_same ?_ rfl, ?_, ?_⟩
  · have hj : joinD (.str ("" : Str)) [.lst ((List.range many).map fun k => .str ⟨#[c k]⟩)] st = .ok (.str (Str.join ⟨#[]⟩ ss)) st := by
      have e1 : ((List.range many).map fun k => D.str ⟨#[c k]⟩) = ss.map D.str := by
        show _ = ((List.range many).map fun k => (⟨#[c k]⟩ : Str)).map D.str
        rw [List.map_map]; rfl
      rw [e1]
      show (match strs? (ss.map D.str) with
        | some ys => if (ys.map fun (z : Str) => z.length).sum + ys.length * Str.length "" ≤ 16777216 then Rs.ok (D.str (Str.join "" ys)) st else .bad
        | none => .bad) = _
      rw [strs?_map]
      dsimp only
      have e2 : (ss.map fun (z : Str) => z.length).sum ≤ 16 := by
        have : ∀ l : List Nat, (((l.map fun k => (⟨#[c k]⟩ : Str))).map fun (z : Str) => z.length).sum = l.length := fun l => by
          induction l with
          | nil => rfl
          | cons a l ih =>
            rw [List.map_cons, List.map_cons, List.sum_cons, ih, List.length_cons]
            show 1 + _ = _
            omega
        show ((((List.range many).map fun k => (⟨#[c k]⟩ : Str))).map fun (z : Str) => z.length).sum ≤ 16
        rw [this, List.length_range]
        exact hk
      have e3 : Str.length "" = 0 := by decide
      rw [if_pos (by rw [e3]; omega)]
      rfl
    simp only [b_law_bits, runF_def]
    simp [chkS, runL_cons]
    rw [dComp_of (ds := rngD many) (st1 := st) (by simp [hr]) hcomp (by simp; omega)]
    simp [hj]
  · rw [str_len, hlen]; simp
  · intro x hx
    rw [hlen] at hx
    obtain ⟨k, _, rfl⟩ := List.mem_map.mp hx
    exact hc01 k

theorem noLoc_tup (n : Nat) (ds : List D) : noLoc n (.tup ds) = noLocs n ds := by simp [noLoc]
theorem noLoc_lst (n : Nat) (ds : List D) : noLoc n (.lst ds) = noLocs n ds := by simp [noLoc]
theorem prefixes_ok {m : Int} (hm : Big m) (st : Sto) : ∃ ps : List Str, fn_law_prefixes [.int m] st = .ok (.lst (ps.map D.str)) st ∧ ps.length = 7 ∧ ∀ p ∈ ps, Bit 16 p := by
  obtain ⟨s, hs, e⟩ := pickE D.int (as := [0, 3, 9, 12]) (i := m % 4) st (Int.emod_nonneg _ (by decide)) (by have := Int.emod_lt_of_pos m (show (0 : Int) < 4 by decide); simpa using this)
  obtain ⟨k, hk, hk2⟩ : ∃ k : Nat, s = (k : Int) ∧ k ≤ 12 := by
    simp only [List.mem_cons, List.mem_nil_iff, or_false] at hs
    exact ⟨s.toNat, by omega, by omega⟩
  subst hk
  obtain ⟨stem, e1, b1⟩ := bits_ok (hm.div 32) k (by omega) st
  obtain ⟨more, e2, b2⟩ := bits_ok (hm.div 65536) 16 (by omega) st
  have h1 : divI (.int m) (.int 32) st = .ok (.int (m / 32)) st := divI_small (by decide) (by decide)
  have h2 : divI (.int m) (.int 65536) st = .ok (.int (m / 65536)) st := divI_small (by decide) (by decide)
  let ts : List Str := ["", "0", "1", "00", "011", "10"]
  have ht : ∀ t ∈ ts, Bit 3 t := by
    intro t ht
    simp only [ts, List.mem_cons, List.mem_nil_iff, or_false] at ht
    rcases ht with rfl | rfl | rfl | rfl | rfl | rfl <;> exact ⟨by decide, by decide⟩
  have hc : compL (tgN 3) dYes (b_law_prefixes_c1 fn_law_bits) [some (.int m), some (.str stem), none, none] (ts.map D.str) st = .ok (ts.map fun t => D.str (stem ++ t)) st := by
    refine compL_map D.str _ _ fun t htt => ?_
    have h3 : addD (.str stem) (.str t) st = .ok (.str (stem ++ t)) st := addD_str (by have := (ht t htt).1; have := b1.1; omega)
    simp [b_law_prefixes_c1, h3]
  have hd := dComp_of (vs := [3]) (src := dIterA (dLst [(dC (.str "")), (dC (.str "0")), (dC (.str "1")), (dC (.str "00")), (dC (.str "011")), (dC (.str "10"))])) (tg := tgN 3) (t := dYes) (f := b_law_prefixes_c1 fn_law_bits)
    (env := [some (.int m), some (.str stem), none, none]) (ds := ts.map D.str) (st := st) (st1 := st) (by simp [ts]) hc (by simp [ts])
  have h4 : addD (.str stem) (.str more) st = .ok (.str (stem ++ more)) st := addD_str (by have := b1.1; have := b2.1; omega)
  have h5 : addD (.str (stem ++ more)) (.str "0") st = .ok (.str (stem ++ more ++ "0")) st := addD_str (by
    have := b1.1; have := b2.1
    rw [str_app_len, show Str.length "0" = 1 by decide]; omega)
  have h6 : addD (.lst (ts.map fun t => D.str (stem ++ t))) (.lst [.str (cutS (stem ++ more ++ "0") none (some 16))]) st = .ok (.lst ((ts.map fun t => D.str (stem ++ t)) ++ [.str (cutS (stem ++ more ++ "0") none (some 16))])) st := addD_lst (by simp [ts])
  have e1' : fn_law_bits [.int (m / 32), .int (k : Int)] st = .ok (.str stem) st := e1
  have e2' : fn_law_bits [.int (m / 65536), .int 16] st = .ok (.str more) st := e2
  have e' : ixD (.lst [.int 0, .int 3, .int 9, .int 12]) (.int (m % 4)) st = .ok (.int (k : Int)) st := e
  have h7 : slD (.str (stem ++ more ++ "0")) none (some 16) st = .ok (.str (cutS (stem ++ more ++ "0") none (some 16))) st := rfl
  refine ⟨(ts.map fun t => stem ++ t) ++ [cutS (stem ++ more ++ "0") none (some 16)], Fn.clean_same ?_ ?_, by simp [ts], ?_⟩
  · have e3 : ((ts.map fun t => stem ++ t) ++ [cutS (stem ++ more ++ "0") none (some 16)]).map D.str = (ts.map fun t => D.str (stem ++ t)) ++ [.str (cutS (stem ++ more ++ "0") none (some 16))] := by simp [ts]
    rw [e3]
    simp only [b_law_prefixes, runF_def]
    simp [e', h1, h2, e1', e2', hd, h4, h5, h6, h7]
  · rw [noLoc_lst]; exact noLocs_strs _ _
  · intro p hp
    rcases List.mem_append.mp hp with hp | hp
    · obtain ⟨t, htt, rfl⟩ := List.mem_map.mp hp
      exact (b1.app (ht t htt)).mono (by omega)
    · rw [List.mem_singleton.mp hp]
      have b3 : Bit 1 ("0" : Str) := ⟨by decide, by decide⟩
      exact (((b1.app b2).app b3).cut (k := 16) (by decide)).mono (by omega)
/-- tags: rising, from 1 to 99, four at most -/
def TagsOk (ts : List Int) : Prop := ts.Pairwise (· < ·) ∧ (∀ t ∈ ts, 1 ≤ t ∧ t ≤ 99) ∧ ts.length ≤ 4
theorem tags_ok {m : Int} (hm : Big m) (st : Sto) : ∃ ts : List Int, fn_law_tags [.int m] st = .ok (.tup (ts.map D.int)) st ∧ TagsOk ts := by
  have r : ∀ (a : Int) {b : Int}, 0 < b → 0 ≤ a % b ∧ a % b < b := fun a b h => ⟨Int.emod_nonneg _ (by omega), Int.emod_lt_of_pos _ h⟩
  have r1 := r (m / 8) (show (0 : Int) < 3 by decide)
  have r2 := r (m / 24) (show (0 : Int) < 90 by decide)
  have r3 := r (m / 2160) (show (0 : Int) < 3 by decide)
  have r4 := r (m / 6480) (show (0 : Int) < 2 by decide)
  have h1 : divI (.int m) (.int 8) st = .ok (.int (m / 8)) st := divI_small (by decide) (by decide)
  have h2 : divI (.int m) (.int 24) st = .ok (.int (m / 24)) st := divI_small (by decide) (by decide)
  have h3 : divI (.int m) (.int 2160) st = .ok (.int (m / 2160)) st := divI_small (by decide) (by decide)
  have h4 : divI (.int m) (.int 6480) st = .ok (.int (m / 6480)) st := divI_small (by decide) (by decide)
  generalize ha : 1 + m / 8 % 3 = a at *
  generalize hb : 4 + m / 24 % 90 = b at *
  generalize hc : 95 + m / 2160 % 3 = c at *
  generalize hd : 98 + m / 6480 % 2 = d at *
  let f : Nat → Int := fun k => ([a, b, c, d] : List Int).getD k 0
  let p : Nat → Bool := fun k => m / 2 ^ k % 2 == 1
  have hcomp : compL (tgN 2) b_law_tags_t1 b_law_tags_c1 [some (.int m), some (.lst [.int a, .int b, .int c, .int d]), none] (rngD 4) st = .ok (((List.range 4).filter p).map fun k => D.int (f k)) st := by
    refine compL_filter (fun (k : Nat) => D.int (k : Int)) p _ _ (fun k hk2 => ?_) fun k hk2 _ => ?_
    · have hk3 := List.mem_range.mp hk2
      have h0 : shlI (.int 1) (.int (k : Int)) st = .ok (.int (2 ^ k)) st := by
        rw [shlI_int (by omega) (by omega) (by decide)]
        simp
      have h1 : divI (.int m) (.int (2 ^ k)) st = .ok (.int (m / 2 ^ k)) st := by
        have e2 : ((2 : Int) ^ k) = ((2 ^ k : Nat) : Int) := by simp
        rw [e2]
        exact divI_small (by have := Nat.two_pow_pos k; omega) (by
          have : 2 ^ k < 2 ^ 17 := Nat.pow_lt_pow_right (by decide) (by omega)
          rw [Int.natAbs_natCast]
          omega)
      simp [b_law_tags_t1, h0, h1, p]
    · have hk3 := List.mem_range.mp hk2
      have h5 : ixD (.lst [.int a, .int b, .int c, .int d]) (.int (k : Int)) st = .ok (.int (f k)) st := ixD_lst (by
        rw [atI_nat' _ (by simpa using hk3)]
        have : k = 0 ∨ k = 1 ∨ k = 2 ∨ k = 3 := by omega
        rcases this with rfl | rfl | rfl | rfl <;> rfl)
      simp [b_law_tags_c1, h5]
  have hdd := dComp_of (vs := [2]) (src := dIterR (dC (.int 4))) (tg := tgN 2) (t := b_law_tags_t1) (f := b_law_tags_c1)
    (env := [some (.int m), some (.lst [.int a, .int b, .int c, .int d]), none]) (ds := rngD 4) (st := st) (st1 := st) (by simp) hcomp (by
      rw [List.length_map]
      exact Nat.le_trans (List.length_filter_le _ _) (by simp))
  have sub : (((List.range 4).filter p).map f).Sublist [a, b, c, d] := (List.filter_sublist (l := List.range 4) (p := p)).map f
  refine ⟨((List.range 4).filter p).map f, Fn.clean_same ?_ ?_, ?_, ?_, ?_⟩
  · simp only [b_law_tags, runF_def]
    simp [h1, h2, h3, h4, ha, hb, hc, hd, hdd, tuple_lst]
  · rw [noLoc_tup]; exact noLocs_ints _ _
  · refine List.Pairwise.sublist sub ?_
    simp
    omega
  · intro t ht
    have := sub.subset ht
    simp only [List.mem_cons, List.mem_nil_iff, or_false] at this
    omega
  · exact Nat.le_trans sub.length_le (by simp)

/-! ### routes, rules -/
structure RouteS where
  pfx : Str
  path : List Int
  weight : Int
  tags : List Int
def RouteS.enc (r : RouteS) : D := .tup [.str r.pfx, .tup (r.path.map D.int), .int r.weight, .tup (r.tags.map D.int)]
structure RouteOk (r : RouteS) : Prop where
  pfx : Bit 16 r.pfx
  path : r.path ≠ [] ∧ r.path.length ≤ 12 ∧ ∀ n ∈ r.path, 1 ≤ n ∧ n ≤ 999
  weight : 0 ≤ r.weight ∧ r.weight ≤ 1000
  tags : TagsOk r.tags
theorem route_noLoc (n : Nat) (r : RouteS) : noLoc n r.enc = true := by
  unfold RouteS.enc
  rw [noLoc_tup]
  simp [noLocs, noLoc, noLocs_ints]
theorem mod_lt {a b : Int} (h : 0 < b) : 0 ≤ a % b ∧ a % b < b := ⟨Int.emod_nonneg _ (by omega), Int.emod_lt_of_pos _ h⟩
theorem route_ok {m : Int} (hm : Big m) {ps : List Str} (hp : ps ≠ []) (hps : ∀ p ∈ ps, Bit 16 p) (hpl : ps.length < 1000) {f : Int} (hf : 1 ≤ f ∧ f ≤ 999) {ss : List Int} (hs : ss ≠ []) (hss : ∀ n ∈ ss, 1 ≤ n ∧ n ≤ 999) (hsl : ss.length < 1000) (st : Sto) :
    ∃ r : RouteS, fn_law_route [.int m, .lst (ps.map D.str), .int f, .lst (ss.map D.int)] st = .ok r.enc st ∧ RouteOk r := by
  have hl0 : 0 < ss.length := List.length_pos_iff.mpr hs
  have hp0 : 0 < ps.length := List.length_pos_iff.mpr hp
  -- how many behind the first
  obtain ⟨c, hc, e⟩ := pickE D.int (as := [m % 3, m % 5, 11]) (i := m / 16 % 3) st (mod_lt (by decide)).1 (by have := (mod_lt (a := m / 16) (show (0 : Int) < 3 by decide)).2; simpa using this)
  obtain ⟨k, hk, hk2⟩ : ∃ k : Nat, c = (k : Int) ∧ k ≤ 11 := by
    have a1 := mod_lt (a := m) (show (0 : Int) < 3 by decide)
    have a2 := mod_lt (a := m) (show (0 : Int) < 5 by decide)
    simp only [List.mem_cons, List.mem_nil_iff, or_false] at hc
    exact ⟨c.toNat, by omega, by omega⟩
  subst hk
  have e' : ixD (.lst [.int (m % 3), .int (m % 5), .int 11]) (.int (m / 16 % 3)) (st ++ [.lst [.int f]]) = .ok (.int (k : Int)) (st ++ [.lst [.int f]]) := by
    obtain ⟨d, hd, ed⟩ := pick (ds := [D.int (m % 3), D.int (m % 5), D.int 11]) (i := m / 16 % 3) (st ++ [.lst [.int f]]) (mod_lt (by decide)).1 (by have := (mod_lt (a := m / 16) (show (0 : Int) < 3 by decide)).2; simpa using this)
    have e0 : ixD (.lst [.int (m % 3), .int (m % 5), .int 11]) (.int (m / 16 % 3)) st = .ok (.int (k : Int)) st := e
    have : ∀ (o : Option D) , (match o with
      | some d => Rs.ok d st
      | none => Rs.bad) = .ok (.int (k : Int)) st → o = some (.int (k : Int)) := fun o h => by
      cases o with
      | none => cases h
      | some d => cases h; rfl
    exact ixD_lst (this _ e0)
  have hr : ∀ st, asR (.int (k : Int)) st = .ok (rngD k) st := fun st => by rw [asR_ok (by omega) (by omega)]; simp
  -- the path
  obtain ⟨en, sn, el, x, path, rfl, rfl, hpl1, hpl2⟩ := loopN_inv (i := 5) (b := b_law_route_l1 fn_law_tags) (fun (j : Nat) => D.int (j : Int)) (fun j env st' => ∃ (x : Option D) (path : List Int), env = [some (.int m), some (.lst (ps.map D.str)), some (.int f), some (.lst (ss.map D.int)), some (.loc st.length), x, none] ∧
      st' = st ++ [.lst (path.map D.int)] ∧ path.length = j + 1 ∧ ∀ n ∈ path, 1 ≤ n ∧ n ≤ 999) (List.range k) 0 [some (.int m), some (.lst (ps.map D.str)), some (.int f), some (.lst (ss.map D.int)), some (.loc st.length), none, none] (st ++ [.lst [.int f]])
      ⟨none, [f], rfl, rfl, rfl, fun n hn => by rw [List.mem_singleton.mp hn]; exact hf⟩ (by
    rintro j a env st' ha ⟨x, path, rfl, rfl, hpl1, hpl2⟩
    have hj := (List.getElem?_eq_some_iff.mp ha).1
    rw [List.length_range] at hj
    have ea : a = j := by
      have := (List.getElem?_eq_some_iff.mp ha).2
      rw [List.getElem_range] at this
      exact this.symm
    subst ea
    have h1 : mulD (.int 13) (.int (a : Int)) (st ++ [.lst (path.map D.int)]) = .ok (.int (13 * (a : Int))) (st ++ [.lst (path.map D.int)]) := mulD_small (by decide) (by omega)
    have h2 : divI (.int m) (.int (64 + 13 * (a : Int))) (st ++ [.lst (path.map D.int)]) = .ok (.int (m / (64 + 13 * (a : Int)))) (st ++ [.lst (path.map D.int)]) := divI_small (by omega) (by omega)
    generalize m / (64 + 13 * (a : Int)) = q at *
    have h3 : modI (.int q) (.int (ss.length : Int)) (st ++ [.lst (path.map D.int)]) = .ok (.int (q % (ss.length : Int))) (st ++ [.lst (path.map D.int)]) := modI_int (by omega)
    have hq := mod_lt (a := q) (show (0 : Int) < (ss.length : Int) by omega)
    obtain ⟨n, hn, h4⟩ := pickE D.int (as := ss) (i := q % (ss.length : Int)) (st ++ [.lst (path.map D.int)]) hq.1 hq.2
    refine ⟨[some (.int m), some (.lst (ps.map D.str)), some (.int f), some (.lst (ss.map D.int)), some (.loc st.length), some (.int (a : Int)), none], st ++ [.lst ((path ++ [n]).map D.int)], ?_, some (.int (a : Int)), path ++ [n], rfl, rfl, by simp; omega, fun z hz => ?_⟩
    · have h5 := append_new (st := st) (xs := path.map D.int) (.int n) (by simp; omega)
      have h6 := chkL_new st (path.map D.int)
      simp [b_law_route_l1, h1, h2, len_lst, h3, h4, h5, h6]
    · rcases List.mem_append.mp hz with hz | hz
      · exact hpl2 z hz
      · rw [List.mem_singleton.mp hz]; exact hss n hn)
  rw [Nat.zero_add, List.length_range] at hpl1
  -- what else stands in it
  generalize hst : st ++ [Ob.lst (path.map D.int)] = st2 at *
  have b1 := mod_lt (a := m / 4096) (show (0 : Int) < 3 by decide)
  have b2 := mod_lt (a := m / 16384) (show (0 : Int) < 3 by decide)
  obtain ⟨w, hw, ew⟩ := pickE D.int (as := [0, m / 4096 % 3, 1000]) (i := m / 16384 % 3) st2 b2.1 (by simpa using b2.2)
  have ew' : ixD (.lst [.int 0, .int (m / 4096 % 3), .int 1000]) (.int (m / 16384 % 3)) st2 = .ok (.int w) st2 := ew
  have hw2 : 0 ≤ w ∧ w ≤ 1000 := by
    simp only [List.mem_cons, List.mem_nil_iff, or_false] at hw
    omega
  have b3 := mod_lt (a := m / 65536) (show (0 : Int) < (ps.length : Int) by omega)
  obtain ⟨p, hpm, ep⟩ := pickE D.str (as := ps) (i := m / 65536 % (ps.length : Int)) st2 b3.1 b3.2
  obtain ⟨ts, et, ht⟩ := tags_ok (hm.div 16777216) st2
  have et' : fn_law_tags [.int (m / 16777216)] st2 = .ok (.tup (ts.map D.int)) st2 := et
  have d1 : divI (.int m) (.int 16) (st ++ [.lst [.int f]]) = .ok (.int (m / 16)) (st ++ [.lst [.int f]]) := divI_small (by decide) (by decide)
  have d2 : divI (.int m) (.int 4096) st2 = .ok (.int (m / 4096)) st2 := divI_small (by decide) (by decide)
  have d3 : divI (.int m) (.int 16384) st2 = .ok (.int (m / 16384)) st2 := divI_small (by decide) (by decide)
  have d4 : divI (.int m) (.int 65536) st2 = .ok (.int (m / 65536)) st2 := divI_small (by decide) (by decide)
  have d5 : divI (.int m) (.int 16777216) st2 = .ok (.int (m / 16777216)) st2 := divI_small (by decide) (by decide)
  have d6 : modI (.int (m / 65536)) (.int (ps.length : Int)) st2 = .ok (.int (m / 65536 % (ps.length : Int))) st2 := modI_int (by omega)
  have d7 : tupleD [.loc st.length] st2 = .ok (.tup (path.map D.int)) st2 := by rw [← hst]; exact tuple_new st _
  have el' : loopL (tgN 5) (b_law_route_l1 fn_law_tags) (rngD k) [some (.int m), some (.lst (ps.map D.str)), some (.int f), some (.lst (ss.map D.int)), some (.loc st.length), none, none] (st ++ [.lst [.int f]]) = .nx [some (.int m), some (.lst (ps.map D.str)), some (.int f), some (.lst (ss.map D.int)), some (.loc st.length), x, none] st2 := el
  refine ⟨⟨p, path, w, ts⟩, Fn.clean_ok (d := (RouteS.mk p path w ts).enc) (ext := [.lst (path.map D.int)]) ?_ (thaw_self (route_noLoc _ _)), ⟨hps p hpm, ⟨fun h => by have h' : path = [] := h; rw [h'] at hpl1; simp at hpl1, by show path.length ≤ 12; omega, hpl2⟩, hw2, ht⟩⟩
  rw [hst]
  simp only [b_law_route, runF_def]
  simp [d1, e', hr, el', d2, d3, d4, d5, d6, d7, ew', ep, et', len_lst, RouteS.enc]

def optD : Option Int → D
  | none => .non
  | some i => .int i
structure RuleS where
  pfx : Str
  longest : Int
  number : Int
  tag : Int
  deed : Str
  prefer : Option Int
  more : Int
  less : Int
  ahead : Int
def RuleS.enc (r : RuleS) : D := .tup [.str r.pfx, .int r.longest, .int r.number, .int r.tag, .str r.deed, optD r.prefer, .int r.more, .int r.less, .int r.ahead]
structure RuleOk (r : RuleS) : Prop where
  pfx : Bit 16 r.pfx
  longest : (r.pfx.length : Int) ≤ r.longest ∧ r.longest ≤ 16
  number : r.number = 0 ∨ 1 ≤ r.number ∧ r.number ≤ 999
  tag : 0 ≤ r.tag ∧ r.tag ≤ 3
  deed : r.deed = "no" ∨ r.deed = "yes" ∨ r.deed = "on"
  prefer : ∀ i, r.prefer = some i → 0 ≤ i ∧ i ≤ 1000
  more : r.more = 0 ∨ r.more = 1 ∨ r.more = 2 ∨ r.more = 99
  less : r.less = 0 ∨ r.less = 1 ∨ r.less = 3
  ahead : 0 ≤ r.ahead ∧ r.ahead ≤ 3
theorem optD_noLoc (n : Nat) (o : Option Int) : noLoc n (optD o) = true := by
  cases o <;> simp [optD, noLoc]
theorem rule_noLoc (n : Nat) (r : RuleS) : noLoc n r.enc = true := by
  unfold RuleS.enc
  rw [noLoc_tup]
  simp [noLocs, noLoc, optD_noLoc]
theorem rule_ok {m : Int} (hm : Big m) {ps : List Str} (hp : ps ≠ []) (hps : ∀ p ∈ ps, Bit 16 p) (hpl : ps.length < 1000) {ss : List Int} (hs : ss ≠ []) (hss : ∀ n ∈ ss, 1 ≤ n ∧ n ≤ 999) (hsl : ss.length < 1000) (st : Sto) :
    ∃ r : RuleS, fn_law_rule [.int m, .lst (ps.map D.str), .lst (ss.map D.int)] st = .ok r.enc st ∧ RuleOk r := by
  have hl0 : 0 < ss.length := List.length_pos_iff.mpr hs
  have hp0 : 0 < ps.length := List.length_pos_iff.mpr hp
  have dv : ∀ (j : Int), 0 < j → j.natAbs < 2 ^ 200 → divI (.int m) (.int j) st = .ok (.int (m / j)) st := fun j h1 h2 => divI_small h1 h2
  have d8 := dv 8 (by decide) (by decide)
  have d24 := dv 24 (by decide) (by decide)
  have d72 := dv 72 (by decide) (by decide)
  have d288 := dv 288 (by decide) (by decide)
  have d4096 := dv 4096 (by decide) (by decide)
  have d1024 := dv 1024 (by decide) (by decide)
  have d65536 := dv 65536 (by decide) (by decide)
  have d16384 := dv 16384 (by decide) (by decide)
  have d20 := dv 1048576 (by decide) (by decide)
  have d24' := dv 16777216 (by decide) (by decide)
  have d22 := dv 4194304 (by decide) (by decide)
  have d36 := dv 68719476736 (by decide) (by decide)
  have e4 : divI (.int (m / 68719476736)) (.int 4) st = .ok (.int (m / 68719476736 / 4)) st := divI_small (by decide) (by decide)
  have e12 : divI (.int (m / 68719476736)) (.int 12) st = .ok (.int (m / 68719476736 / 12)) st := divI_small (by decide) (by decide)
  have mp : modI (.int m) (.int (ps.length : Int)) st = .ok (.int (m % (ps.length : Int))) st := modI_int (by omega)
  have ms : modI (.int (m / 4096)) (.int (ss.length : Int)) st = .ok (.int (m / 4096 % (ss.length : Int))) st := modI_int (by omega)
  -- what it begins with
  have b0 := mod_lt (a := m) (show (0 : Int) < (ps.length : Int) by omega)
  obtain ⟨p0, hp0m, ep0⟩ := pickE D.str (as := ps) (i := m % (ps.length : Int)) st b0.1 b0.2
  have bp0 := hps p0 hp0m
  have b1 := mod_lt (a := m / 24) (show (0 : Int) < 3 by decide)
  have b1' := mod_lt (a := m / 8) (show (0 : Int) < 3 by decide)
  have cutp : slD (.str p0) none (some (m / 24 % 3)) st = .ok (.str (cutS p0 none (some (m / 24 % 3)))) st := rfl
  -- the number, the tag, the deed, the preference
  have b2 := mod_lt (a := m / 4096) (show (0 : Int) < (ss.length : Int) by omega)
  obtain ⟨n0, hn0, en0⟩ := pickE D.int (as := ss) (i := m / 4096 % (ss.length : Int)) st b2.1 b2.2
  have b3 := mod_lt (a := m / 1024) (show (0 : Int) < 3 by decide)
  obtain ⟨n, hn, en⟩ := pickE D.int (as := [0, 0, n0]) (i := m / 1024 % 3) st b3.1 (by simpa using b3.2)
  have en' : ixD (.lst [.int 0, .int 0, .int n0]) (.int (m / 1024 % 3)) st = .ok (.int n) st := en
  have b4 := mod_lt (a := m / 65536) (show (0 : Int) < 3 by decide)
  have b5 := mod_lt (a := m / 16384) (show (0 : Int) < 3 by decide)
  obtain ⟨t, ht, et⟩ := pickE D.int (as := [0, 0, 1 + m / 65536 % 3]) (i := m / 16384 % 3) st b5.1 (by simpa using b5.2)
  have et' : ixD (.lst [.int 0, .int 0, .int (1 + m / 65536 % 3)]) (.int (m / 16384 % 3)) st = .ok (.int t) st := et
  have b6 := mod_lt (a := m / 1048576) (show (0 : Int) < 4 by decide)
  obtain ⟨dd, hdd, edd⟩ := pickE D.str (as := ["no", "yes", "on", "on"]) (i := m / 1048576 % 4) st b6.1 (by simpa using b6.2)
  have edd' : ixD (.lst [.str "no", .str "yes", .str "on", .str "on"]) (.int (m / 1048576 % 4)) st = .ok (.str dd) st := edd
  have b7 := mod_lt (a := m / 16777216) (show (0 : Int) < 1001 by decide)
  have b8 := mod_lt (a := m / 4194304) (show (0 : Int) < 4 by decide)
  obtain ⟨pr, hpr, epr⟩ := pickE optD (as := [none, some 100, some (m / 16777216 % 1001), some 200]) (i := m / 4194304 % 4) st b8.1 (by simpa using b8.2)
  have epr' : ixD (.lst [.non, .int 100, .int (m / 16777216 % 1001), .int 200]) (.int (m / 4194304 % 4)) st = .ok (optD pr) st := epr
  generalize hq : m / 68719476736 = q at *
  have b9 := mod_lt (a := q) (show (0 : Int) < 4 by decide)
  obtain ⟨mo, hmo, emo⟩ := pickE D.int (as := [0, 1, 2, 99]) (i := q % 4) st b9.1 (by simpa using b9.2)
  have emo' : ixD (.lst [.int 0, .int 1, .int 2, .int 99]) (.int (q % 4)) st = .ok (.int mo) st := emo
  have b10 := mod_lt (a := q / 4) (show (0 : Int) < 3 by decide)
  obtain ⟨le, hle, ele⟩ := pickE D.int (as := [0, 1, 3]) (i := q / 4 % 3) st b10.1 (by simpa using b10.2)
  have ele' : ixD (.lst [.int 0, .int 1, .int 3]) (.int (q / 4 % 3)) st = .ok (.int le) st := ele
  have b11 := mod_lt (a := q / 12) (show (0 : Int) < 4 by decide)
  have b12 := mod_lt (a := m / 288) (show (0 : Int) < 3 by decide)
  have b13 := mod_lt (a := m / 72) (show (0 : Int) < 4 by decide)
  obtain ⟨p, bp, hcase⟩ : ∃ p : Str, Bit 16 p ∧ ((0 < m / 8 % 3 ∧ p = cutS p0 none (some (m / 24 % 3))) ∨ (¬ 0 < m / 8 % 3 ∧ p = p0)) := by
    by_cases h : 0 < m / 8 % 3
    · exact ⟨_, (bp0.cut b1.1).mono (by omega), .inl ⟨h, rfl⟩⟩
    · exact ⟨_, bp0, .inr ⟨h, rfl⟩⟩
  have bpl := bp.1
  obtain ⟨lo, hlo, elo⟩ := pickE D.int (as := [16, (p.length : Int) + m / 72 % 4, 16]) (i := m / 288 % 3) st b12.1 (by simpa using b12.2)
  have elo' : ixD (.lst [.int 16, .int ((p.length : Int) + m / 72 % 4), .int 16]) (.int (m / 288 % 3)) st = .ok (.int lo) st := elo
  refine ⟨⟨p, if (16 : Int) < lo then 16 else lo, n, t, dd, pr, mo, le, q / 12 % 4⟩, Fn.clean_same ?_ (rule_noLoc _ _), ?_⟩
  · simp only [b_law_rule, b_law_rule_i1, runF_def, dIfS_def]
    rcases hcase with ⟨h1, h2⟩ | ⟨h1, h2⟩
    · subst h2
      simp [len_lst, len_str, mp, ep0, d8, h1, d24, cutp, d72, d288, elo', d4096, d1024, ms, en0, en', d65536, d16384, et', d20, edd', d24', d22, epr', d36, min2D, emo', e4, ele', e12, RuleS.enc]
    · subst h2
      simp [len_lst, len_str, mp, ep0, d8, h1, d24, cutp, d72, d288, elo', d4096, d1024, ms, en0, en', d65536, d16384, et', d20, edd', d24', d22, epr', d36, min2D, emo', e4, ele', e12, RuleS.enc]
  · simp only [List.mem_cons, List.mem_nil_iff, or_false] at hn ht hdd hpr hmo hle hlo
    refine ⟨bp, ?_, ?_, ?_, ?_, ?_, ?_, ?_, ?_⟩
    · show (p.length : Int) ≤ (if (16 : Int) < lo then 16 else lo) ∧ (if (16 : Int) < lo then 16 else lo) ≤ 16
      split <;> omega
    · have := hss n0 hn0
      show n = 0 ∨ 1 ≤ n ∧ n ≤ 999
      omega
    · show 0 ≤ t ∧ t ≤ 3
      omega
    · show dd = _ ∨ dd = _ ∨ dd = _
      rcases hdd with h | h | h | h
      · exact .inl h
      · exact .inr (.inl h)
      · exact .inr (.inr h)
      · exact .inr (.inr h)
    · intro i hi
      have hi' : pr = some i := hi
      subst hi'
      rcases hpr with h | h | h | h
      · cases h
      · cases h; decide
      · cases h; omega
      · cases h; decide
    · show mo = 0 ∨ mo = 1 ∨ mo = 2 ∨ mo = 99
      exact hmo
    · show le = 0 ∨ le = 1 ∨ le = 3
      exact hle
    · show 0 ≤ q / 12 % 4 ∧ q / 12 % 4 ≤ 3
      omega

/-! ### what fits -/
section
variable (r : RuleS) (q : RouteS) (st : Sto)
@[simp] theorem rule_0 : ixD r.enc (.int 0) st = .ok (.str r.pfx) st := nrfl rfl
@[simp] theorem rule_1 : ixD r.enc (.int 1) st = .ok (.int r.longest) st := nrfl rfl
@[simp] theorem rule_2 : ixD r.enc (.int 2) st = .ok (.int r.number) st := nrfl rfl
@[simp] theorem rule_3 : ixD r.enc (.int 3) st = .ok (.int r.tag) st := nrfl rfl
@[simp] theorem rule_4 : ixD r.enc (.int 4) st = .ok (.str r.deed) st := nrfl rfl
@[simp] theorem rule_5 : ixD r.enc (.int 5) st = .ok (optD r.prefer) st := nrfl rfl
@[simp] theorem rule_6 : ixD r.enc (.int 6) st = .ok (.int r.more) st := nrfl rfl
@[simp] theorem rule_7 : ixD r.enc (.int 7) st = .ok (.int r.less) st := nrfl rfl
@[simp] theorem rule_8 : ixD r.enc (.int 8) st = .ok (.int r.ahead) st := nrfl rfl
@[simp] theorem route_0 : ixD q.enc (.int 0) st = .ok (.str q.pfx) st := nrfl rfl
@[simp] theorem route_1 : ixD q.enc (.int 1) st = .ok (.tup (q.path.map D.int)) st := nrfl rfl
@[simp] theorem route_2 : ixD q.enc (.int 2) st = .ok (.int q.weight) st := nrfl rfl
@[simp] theorem route_3 : ixD q.enc (.int 3) st = .ok (.tup (q.tags.map D.int)) st := nrfl rfl
end
theorem flat_ints (ns : List Int) : (ns.map D.int).all flatD = true := by
  rw [List.all_map]; exact List.all_eq_true.mpr fun _ _ => rfl
/-- n is one of ns -/
def memB (n : Int) (ns : List Int) : Bool := ns.contains n
theorem any_ints (n : Int) (ns : List Int) : ((ns.map D.int).any fun d => eqFlat d (.int n)) = memB n ns := by
  rw [List.any_map]
  unfold memB
  induction ns with
  | nil => rfl
  | cons a ns ih =>
    rw [List.any_cons, List.contains_cons, ih]
    show ((a == n) || _) = _
    rw [show (a == n) = (n == a) from Bool.eq_iff_iff.mpr ⟨fun h => beq_iff_eq.mpr (beq_iff_eq.mp h).symm, fun h => beq_iff_eq.mpr (beq_iff_eq.mp h).symm⟩]
theorem in_tup (n : Int) (ns : List Int) (st : Sto) : inD (.int n) (.tup (ns.map D.int)) st = .ok (.bl (memB n ns)) st := by
  show (match (if flatD (.int n) = true ∧ (ns.map D.int).all flatD = true then some ((ns.map D.int).any fun d => eqFlat d (.int n)) else none) with
    | some b => Rs.ok (D.bl b) st
    | none => Rs.bad) = _
  rw [if_pos ⟨rfl, flat_ints ns⟩, any_ints]
theorem in_lst (n : Int) (ns : List Int) (st : Sto) : inD (.int n) (.lst (ns.map D.int)) st = .ok (.bl (memB n ns)) st := by
  show (match (if flatD (.int n) = true ∧ (ns.map D.int).all flatD = true then some ((ns.map D.int).any fun d => eqFlat d (.int n)) else none) with
    | some b => Rs.ok (D.bl b) st
    | none => Rs.bad) = _
  rw [if_pos ⟨rfl, flat_ints ns⟩, any_ints]
theorem notIn_lst (n : Int) (ns : List Int) (st : Sto) : notInD (.int n) (.lst (ns.map D.int)) st = .ok (.bl (!memB n ns)) st := by
  show (match (if flatD (.int n) = true ∧ (ns.map D.int).all flatD = true then some ((ns.map D.int).any fun d => eqFlat d (.int n)) else none) with
    | some b => Rs.ok (D.bl (!b)) st
    | none => Rs.bad) = _
  rw [if_pos ⟨rfl, flat_ints ns⟩, any_ints]
theorem notIn_new (n : Int) (ns : List Int) (st : Sto) : notInD (.int n) (.loc st.length) (st ++ [.lst (ns.map D.int)]) = .ok (.bl (!memB n ns)) (st ++ [.lst (ns.map D.int)]) := by
  have e : inB (.int n) (.loc st.length) (st ++ [.lst (ns.map D.int)]) = some (memB n ns) := by
    unfold inB
    dsimp only
    rw [get_new]
    dsimp only
    rw [if_pos ⟨rfl, flat_ints ns⟩, any_ints]
  unfold notInD
  rw [e]
def fitsB (r : RuleS) (q : RouteS) : Bool := Txt.startswith q.pfx r.pfx && !decide (r.longest < (q.pfx.length : Int)) && (r.number == 0 || memB r.number q.path) && (r.tag == 0 || memB r.tag q.tags)
theorem fits_ok (r : RuleS) (q : RouteS) (st : Sto) : fn_fits [r.enc, q.enc] st = .ok (.bl (fitsB r q)) st := by
  refine Fn.clean_same ?_ rfl
  have h1 : startsD (.str q.pfx) [.str r.pfx] st = .ok (.bl (Txt.startswith q.pfx r.pfx)) st := nrfl rfl
  simp only [b_fits, b_fits_i1, runF_def, dIfS_def]
  unfold fitsB
  cases e1 : Txt.startswith q.pfx r.pfx <;> cases e2 : decide (r.longest < (q.pfx.length : Int)) <;> cases e3 : (r.number == 0) <;> cases e4 : (r.tag == 0) <;> cases e5 : memB r.number q.path <;>
    simp [chkS, h1, e1, e2, e3, e4, e5, len_str, in_tup]
theorem law_fits_ok (r : RuleS) (q : RouteS) (st : Sto) : fn_law_fits [r.enc, q.enc] st = .ok (.bl (fitsB r q)) st := by
  refine Fn.clean_same ?_ rfl
  have h1 : slD (.str q.pfx) none (some (r.pfx.length : Int)) st = .ok (.str (cutS q.pfx none (some (r.pfx.length : Int)))) st := nrfl rfl
  simp only [b_law_fits, b_law_fits_i1, b_law_fits_i2, runF_def, dIfS_def]
  unfold fitsB
  rw [starts_eq]
  cases e1 : (cutS q.pfx none (some (r.pfx.length : Int)) == r.pfx) <;> cases e2 : decide (r.longest < (q.pfx.length : Int)) <;> cases e3 : (r.number == 0) <;> cases e4 : (r.tag == 0) <;> cases e5 : memB r.number q.path <;>
    simp [h1, e1, e2, e3, e4, e5, len_str, list_tup, notIn_lst, in_lst]
end DL

namespace DL
open PySem PySem.Spec PyProof.Rows L2
/-! ### sorted numbers -/
def srt (ns : List Int) : List Int := ns.mergeSort fun a b => decide (a ≤ b)
theorem srt_perm (ns : List Int) : (srt ns).Perm ns := List.mergeSort_perm _ _
theorem srt_sorted (ns : List Int) : (srt ns).Pairwise (· ≤ ·) := by
  have h := List.pairwise_mergeSort (le := fun a b : Int => decide (a ≤ b)) (fun a b c h1 h2 => by simp at *; omega) (fun a b => by simp; omega) ns
  exact h.imp fun h => by simpa using h
theorem sorted_one : ∀ {l m : List Int}, l.Perm m → l.Pairwise (· ≤ ·) → m.Pairwise (· ≤ ·) → l = m
  | [], m, p, _, _ => (List.Perm.nil_eq p)
  | a :: l, [], p, _, _ => by cases p.length_eq
  | a :: l, b :: m, p, hl, hm => by
    have h1 : a ≤ b := by
      rcases List.mem_cons.mp (p.symm.subset (List.mem_cons_self (a := b))) with h | h
      · omega
      · exact (List.pairwise_cons.mp hl).1 b h
    have h2 : b ≤ a := by
      rcases List.mem_cons.mp (p.subset (List.mem_cons_self (a := a))) with h | h
      · omega
      · exact (List.pairwise_cons.mp hm).1 a h
    have e : a = b := by omega
    subst e
    rw [sorted_one (List.Perm.cons_inv p) (List.pairwise_cons.mp hl).2 (List.pairwise_cons.mp hm).2]
theorem srt_of_perm {l m : List Int} (p : l.Perm m) : srt l = srt m := sorted_one ((srt_perm l).trans (p.trans (srt_perm m).symm)) (srt_sorted l) (srt_sorted m)
theorem srt_len (l : List Int) : (srt l).length = l.length := (srt_perm l).length_eq
theorem toP_ints (ns : List Int) : (ns.map D.int).map toP = ns.map PyData.int := by
  rw [List.map_map]
  rfl
theorem sortL_ints (ns : List Int) : sortL (ns.map D.int) = (srt ns).map D.int := by
  unfold sortL srt
  exact (PySem.W.sort_maps D.int (l := ns) (r := fun a b => decide (a ≤ b)) (s := PySem.W.dataLe false toP) fun a _ b _ => (congrFun (congrFun (PySem.W.dataLe_int (β := Int) fun b => b) a) b).symm).symm
theorem good_ints (ns : List Int) : (ns.map D.int).all (good 40) = true := by
  rw [List.all_map]; exact List.all_eq_true.mpr fun _ _ => rfl
theorem sorted_cond (ns : List Int) : PySem.W.AllAlike ((ns.map D.int).map toP) ∧ PySem.W.Sortable ((ns.map D.int).map toP) := by
  rw [toP_ints]
  exact ⟨PySem.W.AllAlike.of fun _ _ => by simp [PySem.W.alike], PySem.W.Sortable.others fun _ => ⟨(fun z => nomatch z), fun _ z => nomatch z⟩⟩
theorem sorted_lst (ns : List Int) (st : Sto) : sortedD false [.lst (ns.map D.int)] st = .ok (.lst ((srt ns).map D.int)) st := by
  unfold sortedD
  simp only [itemsOf]
  rw [if_pos ⟨rfl, good_ints ns, sorted_cond ns⟩, sortL_ints]
  rfl
theorem sorted_new (ns : List Int) (st : Sto) : sortedD false [.loc st.length] (st ++ [.lst (ns.map D.int)]) = .ok (.lst ((srt ns).map D.int)) (st ++ [.lst (ns.map D.int)]) := by
  unfold sortedD
  dsimp only
  rw [items_new]
  dsimp only
  rw [if_pos ⟨rfl, good_ints ns, sorted_cond ns⟩, sortL_ints]
  rfl
/-! ### tags put in and taken out -/
def keepT (ts : List Int) (less : Int) : List Int := ts.filter fun t => !(t == less)
def retagS (ts : List Int) (more less : Int) : List Int :=
  if (!(more == 0)) && ((!memB more (keepT ts less)) && decide (((keepT ts less).length : Int) < 4)) then srt (keepT ts less ++ [more]) else srt (keepT ts less)
theorem keepT_len (ts : List Int) (less : Int) : (keepT ts less).length ≤ ts.length := List.length_filter_le _ _
theorem retagS_len {ts : List Int} {more less : Int} (h : ts.length ≤ 4) : (retagS ts more less).length ≤ 4 := by
  have h2 := keepT_len ts less
  unfold retagS
  split
  · rename_i hc
    simp only [Bool.and_eq_true, decide_eq_true_eq] at hc
    rw [srt_len, List.length_append, List.length_singleton]
    omega
  · rw [srt_len]; omega
theorem memB_srt (n : Int) (ts : List Int) : memB n (srt ts) = memB n ts := by
  unfold memB
  rw [Bool.eq_iff_iff, List.contains_iff_mem, List.contains_iff_mem, (srt_perm ts).mem_iff]
theorem retag_comp {ts : List Int} {more less : Int} (st : Sto) : compL (tgN 4) b_retagged_t1 b_retagged_c1 [some (.tup (ts.map D.int)), some (.int more), some (.int less), none, none] (ts.map D.int) st = .ok ((keepT ts less).map D.int) st :=
  compL_filter D.int (fun t => !(t == less)) D.int ts (fun t _ => by simp [b_retagged_t1]) fun t _ _ => by simp [b_retagged_c1]
theorem retagged_ok {ts : List Int} (h : ts.length ≤ 4) (more less : Int) (st : Sto) : fn_retagged [.tup (ts.map D.int), .int more, .int less] st = .ok (.tup ((retagS ts more less).map D.int)) st := by
  have hd := dCompM_of (vs := [4]) (src := dIterA (dV 0)) (tg := tgN 4) (t := b_retagged_t1) (f := b_retagged_c1) (env := [some (.tup (ts.map D.int)), some (.int more), some (.int less), none, none]) (ds := ts.map D.int) (st := st) (st1 := st)
    (by simp) (retag_comp st) (by have := keepT_len ts less; rw [List.length_map]; omega)
  generalize hk : keepT ts less = ks at *
  have n1 := notIn_new more ks st
  have n2 := len_new st (ks.map D.int)
  have hl : ks.length ≤ 4 := by rw [← hk]; exact Nat.le_trans (keepT_len ts less) h
  have n3 := append_new (st := st) (xs := ks.map D.int) (.int more) (by rw [List.length_map]; omega)
  have n4 := chkL_new st (ks.map D.int)
  have n5 := sorted_new ks st
  have n6 := sorted_new (ks ++ [more]) st
  rw [List.map_append, List.map_cons, List.map_nil] at n6
  unfold retagS
  rw [hk]
  cases c1 : (more == 0) <;> cases c2 : memB more ks <;> cases c3 : decide ((ks.length : Int) < 4)
  case false.false.true =>
    refine Fn.clean_ok (ext := [.lst (ks.map D.int ++ [.int more])]) ?_ (thaw_self (by rw [noLoc_tup]; exact noLocs_ints _ _))
    simp only [b_retagged, b_retagged_i1, runF_def, dIfS_def]
    have c1' : ¬ more = 0 := by simpa using c1
    have c3' : (ks.length : Int) < 4 := by simpa using c3
    simp [hd, n1, n2, n3, n4, n6, c1', c2, c3', tuple_lst]
  all_goals
    refine Fn.clean_ok (ext := [.lst (ks.map D.int)]) ?_ (thaw_self (by rw [noLoc_tup]; exact noLocs_ints _ _))
    simp only [b_retagged, b_retagged_i1, runF_def, dIfS_def]
    simp [hd, n1, n2, n5, c1, c2, c3, tuple_lst]
/-! ### judged -/
def judgedS : List RuleS → RouteS → Int → Int → Option (RouteS × Int × Int)
  | [], q, p, a => some (q, p, a)
  | r :: rs, q, p, a =>
    if fitsB r q = true then
      if r.deed = "no" then none
      else if r.deed = "yes" then some ({ q with tags := retagS q.tags r.more r.less }, r.prefer.getD p, a + r.ahead)
      else judgedS rs { q with tags := retagS q.tags r.more r.less } (r.prefer.getD p) (a + r.ahead)
    else judgedS rs q p a
def resD : Option (RouteS × Int × Int) → D
  | none => .non
  | some (q, p, a) => .tup [q.enc, .int p, .int a]
theorem tup_noLoc3 (n : Nat) (q : RouteS) (p a : Int) : noLoc n (.tup [q.enc, .int p, .int a]) = true := by
  rw [noLoc_tup]
  simp [noLocs, noLoc, route_noLoc]
theorem resD_noLoc (n : Nat) (o : Option (RouteS × Int × Int)) : noLoc n (resD o) = true := by
  cases o with
  | none => rfl
  | some x => exact tup_noLoc3 _ _ _ _
theorem isn_opt (o : Option Int) (st : Sto) : isnD (optD o) .non st = .ok (.bl o.isSome) st := by
  cases o <;> rfl
@[simp] theorem isn_nn (st : Sto) : isnD .non .non st = .ok (.bl false) st := nrfl rfl
@[simp] theorem isn_in (i : Int) (st : Sto) : isnD (.int i) .non st = .ok (.bl true) st := nrfl rfl
@[simp] theorem is_nn (st : Sto) : isD .non .non st = .ok (.bl true) st := nrfl rfl
@[simp] theorem is_in (i : Int) (st : Sto) : isD (.int i) .non st = .ok (.bl false) st := nrfl rfl
@[simp] theorem isn_tup (ds : List D) (st : Sto) : isnD (.tup ds) .non st = .ok (.bl true) st := nrfl rfl
@[simp] theorem is_tup (ds : List D) (st : Sto) : isD (.tup ds) .non st = .ok (.bl false) st := nrfl rfl
theorem is_opt (o : Option Int) (st : Sto) : isD (optD o) .non st = .ok (.bl o.isNone) st := by
  cases o <;> rfl
theorem judged_loop (R : D) (st : Sto) : ∀ (rs : List RuleS) (q : RouteS) (p a : Int) (x : Option D), q.tags.length ≤ 4 →
    SR.fin (SR.seq (loopL (tgN 4) (b_judged_l1 fn_fits fn_retagged) (rs.map RuleS.enc) [some R, some q.enc, some (.int p), some (.int a), x] st) (dRet (dTup [dV 1, dV 2, dV 3]))) = .ok (resD (judgedS rs q p a)) st
  | [], q, p, a, x, h => by
    rw [List.map_nil, loopL_nil]
    simp [judgedS, resD]
  | r :: rs, q, p, a, x, h => by
    have hf := fits_ok r q st
    have hr := retagged_ok h r.more r.less st
    have ih1 := judged_loop R st rs q p a
    have ih2 := judged_loop R st rs { q with tags := retagS q.tags r.more r.less } (r.prefer.getD p) (a + r.ahead)
    rw [List.map_cons]
    unfold judgedS
    cases c1 : fitsB r q with
    | false =>
      rw [if_neg Bool.false_ne_true, loopN_nx (e := [some R, some q.enc, some (.int p), some (.int a), some r.enc]) (s := st)]
      · exact ih1 _ h
      · rw [c1] at hf
        simp [b_judged_l1, b_judged_i1, b_judged_i2, b_judged_i3, b_judged_i4, dIfS_def, hf]
    | true =>
      rw [if_pos rfl]
      rw [c1] at hf
      have he : RouteS.enc { q with tags := retagS q.tags r.more r.less } = .tup [.str q.pfx, .tup (q.path.map D.int), .int q.weight, .tup ((retagS q.tags r.more r.less).map D.int)] := rfl
      by_cases c2 : r.deed = "no"
      · rw [if_pos c2, loopN_rt (x := .non) (s := st)]
        · simp [resD]
        · cases c4 : r.prefer <;> simp [b_judged_l1, b_judged_i1, b_judged_i2, b_judged_i3, b_judged_i4, dIfS_def, hf, hr, isn_opt, c4, c2, optD]
      · rw [if_neg c2]
        by_cases c3 : r.deed = "yes"
        · rw [if_pos c3, loopN_bk (e := [some R, some (RouteS.enc { q with tags := retagS q.tags r.more r.less }), some (.int (r.prefer.getD p)), some (.int (a + r.ahead)), some r.enc]) (s := st)]
          · simp [resD]
          · have c5 : ¬ (("yes" : Str) = "no") := by decide
            cases c4 : r.prefer <;> simp [b_judged_l1, b_judged_i1, b_judged_i2, b_judged_i3, b_judged_i4, dIfS_def, hf, hr, isn_opt, c4, c3, c5, optD, he]
        · rw [if_neg c3, loopN_nx (e := [some R, some (RouteS.enc { q with tags := retagS q.tags r.more r.less }), some (.int (r.prefer.getD p)), some (.int (a + r.ahead)), some r.enc]) (s := st)]
          · exact ih2 _ (retagS_len h)
          · cases c4 : r.prefer <;> simp [b_judged_l1, b_judged_i1, b_judged_i2, b_judged_i3, b_judged_i4, dIfS_def, hf, hr, isn_opt, c4, c2, c3, optD, he]
theorem judged_ok (rs : List RuleS) (q : RouteS) (h : q.tags.length ≤ 4) (st : Sto) : fn_judged [.lst (rs.map RuleS.enc), q.enc] st = .ok (resD (judgedS rs q 100 0)) st := by
  refine Fn.clean_same ?_ (resD_noLoc _ _)
  rw [← judged_loop (.lst (rs.map RuleS.enc)) st rs q 100 0 none h]
  simp only [b_judged, runF_def]
  simp
end DL

namespace DL
open PySem PySem.Spec PyProof.Rows L2
/-! ### judged, by the law's own going -/
@[simp] theorem intD_bl (b : Bool) (st : Sto) : intD [.bl b] st = .ok (.int (if b then 1 else 0)) st := nrfl rfl
theorem retagS_law {ts : List Int} {more less : Int} (h : 0 ≤ more) :
    retagS ts more less = if decide (0 < more) && ((!memB more (srt (keepT ts less))) && decide (((srt (keepT ts less)).length : Int) < 4)) then srt (srt (keepT ts less) ++ [more]) else srt (keepT ts less) := by
  have e1 : (!(more == 0)) = decide (0 < more) := by
    rw [Bool.eq_iff_iff]; simp; omega
  have e2 : srt (srt (keepT ts less) ++ [more]) = srt (keepT ts less ++ [more]) := srt_of_perm ((srt_perm _).append_right _)
  unfold retagS
  rw [e1, memB_srt, srt_len, e2]
theorem law_judged_loop (R : D) (st : Sto) : ∀ (rs : List RuleS) (q : RouteS) (p a : Int) (x y : Option D), q.tags.length ≤ 4 → (∀ r ∈ rs, 0 ≤ r.more) →
    SR.fin (SR.seq (loopL (tgN 4) (b_law_judged_l1 fn_law_fits) (rs.map RuleS.enc) [some R, some q.enc, some (.int p), some (.int a), x, y, none] st) (dRet (dTup [dV 1, dV 2, dV 3]))) = .ok (resD (judgedS rs q p a)) st
  | [], q, p, a, x, y, h, _ => by
    rw [List.map_nil, loopL_nil]
    simp [judgedS, resD]
  | r :: rs, q, p, a, x, y, h, hm => by
    have hf := law_fits_ok r q st
    have hm2 : ∀ r' ∈ rs, 0 ≤ r'.more := fun r' h' => hm r' (List.mem_cons_of_mem _ h')
    rw [List.map_cons]
    unfold judgedS
    cases c1 : fitsB r q with
    | false =>
      rw [if_neg Bool.false_ne_true, loopN_ct (e := [some R, some q.enc, some (.int p), some (.int a), some r.enc, y, none]) (s := st)]
      · exact law_judged_loop R st rs q p a _ y h hm2
      · rw [c1] at hf
        simp [b_law_judged_l1, b_law_judged_i1, dIfS_def, hf]
    | true =>
      rw [if_pos rfl]
      rw [c1] at hf
      have hc : compL (tgN 6) (b_law_judged_t1 fn_law_fits) (b_law_judged_c1 fn_law_fits) [some R, some q.enc, some (.int p), some (.int a), some r.enc, y, none] (q.tags.map D.int) st = .ok ((keepT q.tags r.less).map D.int) st :=
        compL_filter D.int (fun t => !(t == r.less)) D.int q.tags (fun t _ => by simp [b_law_judged_t1]) fun t _ _ => by simp [b_law_judged_c1]
      have hd := dComp_of (vs := [6]) (src := dIterA (dB ixD (dV 1) (dC (.int 3)))) (tg := tgN 6) (t := b_law_judged_t1 fn_law_fits) (f := b_law_judged_c1 fn_law_fits) (env := [some R, some q.enc, some (.int p), some (.int a), some r.enc, y, none]) (ds := q.tags.map D.int) (st := st) (st1 := st)
        (by simp) hc (by have := keepT_len q.tags r.less; rw [List.length_map]; omega)
      have hl := keepT_len q.tags r.less
      have hrt := retagS_law (ts := q.tags) (less := r.less) (hm r List.mem_cons_self)
      have hrl := retagS_len (ts := q.tags) (more := r.more) (less := r.less) h
      have hs1 := sorted_lst (keepT q.tags r.less) st
      generalize hk : srt (keepT q.tags r.less) = ks at *
      have hkl : ks.length ≤ 4 := by rw [← hk, srt_len]; omega
      have hn := notIn_lst r.more ks st
      have ha : addD (.lst (ks.map D.int)) (.lst [.int r.more]) st = .ok (.lst ((ks ++ [r.more]).map D.int)) st := by
        rw [List.map_append]
        exact addD_lst (by rw [List.length_map]; simp; omega)
      have hs2 := sorted_lst (ks ++ [r.more]) st
      rw [List.map_append, List.map_cons, List.map_nil] at ha hs2
      have hcut : slD q.enc none (some 3) st = .ok (.tup [.str q.pfx, .tup (q.path.map D.int), .int q.weight]) st := nrfl rfl
      generalize hrt2 : retagS q.tags r.more r.less = rt at *
      have hadd : addD (.tup [.str q.pfx, .tup (q.path.map D.int), .int q.weight]) (.tup [.tup (rt.map D.int)]) st = .ok (RouteS.enc { q with tags := rt }) st := by
        rw [addD_tup (by simp)]
        rfl
      have hp : ∀ st, ixD (.lst [optD r.prefer, .int p]) (.int (if r.prefer.isNone then 1 else 0)) st = .ok (.int (r.prefer.getD p)) st := fun st => by
        cases r.prefer <;> rfl
      have hi := is_opt r.prefer st
      generalize r.prefer.isNone = bn at hi hp
      -- what the statements up to the deed come to
      have key : ∀ k : DS, SR.seq (b_law_judged_i2 fn_law_fits [some R, some q.enc, some (.int p), some (.int a), some r.enc, some (.lst (ks.map D.int)), none] st) k = k [some R, some q.enc, some (.int p), some (.int a), some r.enc, some (.lst (rt.map D.int)), none] st := fun k => by
        rw [hrt]
        cases c2 : decide (0 < r.more) <;> cases c3 : memB r.more ks <;> cases c4 : decide ((ks.length : Int) < 4)
        all_goals
          simp only [decide_eq_true_eq, decide_eq_false_iff_not] at c2 c4
          simp [b_law_judged_i2, dIfS_def, c2, c3, c4, hn, ha, hs2, len_lst]
      by_cases c2 : r.deed = "no"
      · rw [if_pos c2, loopN_rt (x := .non) (s := st)]
        · simp [resD]
        · simp only [b_law_judged_l1, dSeq_def]
          simp [b_law_judged_i1, b_law_judged_i3, b_law_judged_i4, hf, hd, hs1, key, hcut, hadd, hi, hp, tuple_lst, dIfS_def, c2]
      · rw [if_neg c2]
        by_cases c3 : r.deed = "yes"
        · have c5 : ¬ (("yes" : Str) = "no") := by decide
          rw [if_pos c3, loopN_rt (x := .tup [RouteS.enc { q with tags := rt }, .int (r.prefer.getD p), .int (a + r.ahead)]) (s := st)]
          · simp [resD]
          · simp only [b_law_judged_l1, dSeq_def]
            simp [b_law_judged_i1, b_law_judged_i3, b_law_judged_i4, hf, hd, hs1, key, hcut, hadd, hi, hp, tuple_lst, dIfS_def, c3, c5]
        · rw [if_neg c3, loopN_nx (e := [some R, some (RouteS.enc { q with tags := rt }), some (.int (r.prefer.getD p)), some (.int (a + r.ahead)), some r.enc, some (.lst (rt.map D.int)), none]) (s := st)]
          · exact law_judged_loop R st rs { q with tags := rt } _ _ _ _ (by simpa using hrl) hm2
          · simp only [b_law_judged_l1, dSeq_def]
            simp [b_law_judged_i1, b_law_judged_i3, b_law_judged_i4, hf, hd, hs1, key, hcut, hadd, hi, hp, tuple_lst, dIfS_def, c2, c3]
theorem law_judged_ok (rs : List RuleS) (q : RouteS) (h : q.tags.length ≤ 4) (hm : ∀ r ∈ rs, 0 ≤ r.more) (st : Sto) : fn_law_judged [.lst (rs.map RuleS.enc), q.enc] st = .ok (resD (judgedS rs q 100 0)) st := by
  refine Fn.clean_same ?_ (resD_noLoc _ _)
  rw [← law_judged_loop (.lst (rs.map RuleS.enc)) st rs q 100 0 none none h hm]
  simp only [b_law_judged, runF_def]
  simp
end DL

namespace DL
open PySem PySem.Spec PyProof.Rows L2
/-! ### a thing is == to itself -/
theorem plain_ints (ns : List Int) : PyData.plainAll (ns.map PyData.int) = true := by
  induction ns with
  | nil => simp [PyData.plainAll]
  | cons n ns ih => simp [PyData.plainAll, PyData.plain, ih]
theorem plain_strs (ns : List Str) : PyData.plainAll (ns.map PyData.str) = true := by
  induction ns with
  | nil => simp [PyData.plainAll]
  | cons n ns ih => simp [PyData.plainAll, PyData.plain, ih]
mutual
theorem toP_plain : ∀ d : D, (toP d).plain = true
  | .non => by simp [toP, PyData.plain]
  | .bl _ => by simp [toP, PyData.plain]
  | .int _ => by simp [toP, PyData.plain]
  | .str _ => by simp [toP, PyData.plain]
  | .loc _ => by simp [toP, PyData.plain]
  | .fn _ => by simp [toP, PyData.plain]
  | .scr ns => by simp [toP, PyData.plain, plain_ints]
  | .kt ns => by simp [toP, PyData.plain, plain_strs]
  | .tup ds => by simp only [toP, PyData.plain]; exact toPs_plain ds
  | .lst ds => by simp only [toP, PyData.plain]; exact toPs_plain ds
theorem toPs_plain : ∀ ds : List D, PyData.plainAll (toPs ds) = true
  | [] => by simp [toPs, PyData.plainAll]
  | d :: ds => by simp only [toPs, PyData.plainAll, toP_plain d, toPs_plain ds]; rfl
end
theorem eqv_self (d : D) : PyData.eqv (toP d) (toP d) = true := PySem.SeqAt.eqv_refl_plain _ (toP_plain d)
theorem ne_self {d : D} {st : Sto} (h : good 40 (der st d) = true) : neD d d st = .ok (.bl false) st := by
  rw [neD_good h h, eqv_self]
  rfl
theorem good_int (n : Nat) (i : Int) : good n (.int i) = true := by cases n <;> rfl
theorem good_str (n : Nat) (i : Str) : good n (.str i) = true := by cases n <;> rfl
theorem good_optD (n : Nat) (o : Option Int) : good n (optD o) = true := by cases o <;> cases n <;> rfl
theorem good_ints' (n : Nat) (ns : List Int) : (ns.map D.int).all (good n) = true := by
  rw [List.all_map]; exact List.all_eq_true.mpr fun _ _ => good_int n _
theorem good_route (n : Nat) (q : RouteS) : good (n + 2) q.enc = true := by
  show ([D.str q.pfx, .tup (q.path.map D.int), .int q.weight, .tup (q.tags.map D.int)]).all (good (n + 1)) = true
  simp only [List.all_cons, List.all_nil, good_int, good_str, Bool.and_true, Bool.true_and]
  show ((q.path.map D.int).all (good n) && (q.tags.map D.int).all (good n)) = true
  rw [good_ints', good_ints']
  rfl
theorem good_rule (n : Nat) (r : RuleS) : good (n + 1) r.enc = true := by
  show ([D.str r.pfx, .int r.longest, .int r.number, .int r.tag, .str r.deed, optD r.prefer, .int r.more, .int r.less, .int r.ahead]).all (good n) = true
  simp [good_int, good_str, good_optD]
theorem good_rules (n : Nat) (rs : List RuleS) : good (n + 2) (.lst (rs.map RuleS.enc)) = true := by
  show (rs.map RuleS.enc).all (good (n + 1)) = true
  rw [List.all_map]; exact List.all_eq_true.mpr fun r _ => good_rule n r
theorem good_res (n : Nat) (o : Option (RouteS × Int × Int)) : good (n + 3) (resD o) = true := by
  cases o with
  | none => rfl
  | some x =>
    obtain ⟨q, p, a⟩ := x
    show ([q.enc, D.int p, .int a]).all (good (n + 2)) = true
    simp [good_int, good_route]
theorem ne_res (o : Option (RouteS × Int × Int)) (st : Sto) : neD (resD o) (resD o) st = .ok (.bl false) st := ne_self (by
  cases o with
  | none => rfl
  | some x => exact good_res 37 (some x))
theorem ne_rules (rs : List RuleS) (st : Sto) : neD (.lst (rs.map RuleS.enc)) (.lst (rs.map RuleS.enc)) st = .ok (.bl false) st := ne_self (good_rules 38 rs)
theorem ne_route (q : RouteS) (st : Sto) : neD q.enc q.enc st = .ok (.bl false) st := ne_self (good_route 38 q)
theorem ne_nil (rs : List RuleS) (st : Sto) : neD (.lst (rs.map RuleS.enc)) (.lst []) st = .ok (.bl (!rs.isEmpty)) st := by
  rw [neD_good (x := .lst (rs.map RuleS.enc)) (y := .lst []) (good_rules 38 rs) rfl]
  cases rs with
  | nil => simp [der, toP, toPs, PyData.eqv, PyData.eqvAll]
  | cons r rs => simp [der, toP, toPs, PyData.eqv, PyData.eqvAll]
/-! ### one rule ahead of the others -/
/-- the same but for the preference and the number ahead -/
def Same3 (d : Int) : Option (RouteS × Int × Int) → Option (RouteS × Int × Int) → Prop
  | none, none => True
  | some (q, _, a), some (q', _, a') => q = q' ∧ a' = a + d
  | _, _ => False
theorem judgedS_shift : ∀ (rs : List RuleS) (q : RouteS) (p a p' a' : Int), Same3 (a' - a) (judgedS rs q p a) (judgedS rs q p' a')
  | [], q, p, a, p', a' => ⟨rfl, by omega⟩
  | r :: rs, q, p, a, p', a' => by
    unfold judgedS
    split
    · split
      · trivial
      · split
        · exact ⟨rfl, by omega⟩
        · have := judgedS_shift rs { q with tags := retagS q.tags r.more r.less } (r.prefer.getD p) (a + r.ahead) (r.prefer.getD p') (a' + r.ahead)
          rw [show a' + r.ahead - (a + r.ahead) = a' - a by omega] at this
          exact this
    · exact judgedS_shift rs q p a p' a'
theorem judgedS_cons (r : RuleS) (rs : List RuleS) (q : RouteS) (p a : Int) : judgedS (r :: rs) q p a = if fitsB r q = true then
      if r.deed = "no" then none
      else if r.deed = "yes" then some ({ q with tags := retagS q.tags r.more r.less }, r.prefer.getD p, a + r.ahead)
      else judgedS rs { q with tags := retagS q.tags r.more r.less } (r.prefer.getD p) (a + r.ahead)
    else judgedS rs q p a := by conv => lhs; unfold judgedS
theorem judgedS_on {r : RuleS} (rs : List RuleS) {q : RouteS} (h : r.deed = "on") : ∃ q1 p1 a1, judgedS [r] q 100 0 = some (q1, p1, a1) ∧ judgedS (r :: rs) q 100 0 = judgedS rs q1 p1 a1 ∧ (q.tags.length ≤ 4 → q1.tags.length ≤ 4) := by
  have n1 : ¬ r.deed = "no" := by rw [h]; decide
  have n2 : ¬ r.deed = "yes" := by rw [h]; decide
  rw [judgedS_cons r [], judgedS_cons r rs, if_neg n1, if_neg n1, if_neg n2, if_neg n2]
  split
  · exact ⟨_, _, _, rfl, rfl, fun h => retagS_len h⟩
  · exact ⟨_, _, _, rfl, rfl, fun h => h⟩
/-! ### comprehensions whose items are told of alone -/
theorem compL_ex {i : Nat} {f : DE} {env : En} {st : Sto} {α β : Type} (enc : α → D) (enc' : β → D) (Q : β → Prop) : ∀ (as : List α), (∀ a ∈ as, ∃ b, f (env.set i (some (enc a))) st = .ok (enc' b) st ∧ Q b) →
    ∃ bs : List β, compL (tgN i) dYes f env (as.map enc) st = .ok (bs.map enc') st ∧ bs.length = as.length ∧ ∀ b ∈ bs, Q b
  | [], _ => ⟨[], rfl, rfl, fun _ h => by cases h⟩
  | a :: as, hh => by
    obtain ⟨b, e, hb⟩ := hh a List.mem_cons_self
    obtain ⟨bs, ih, hl, hq⟩ := compL_ex enc enc' Q as fun b hb => hh b (List.mem_cons_of_mem _ hb)
    refine ⟨b :: bs, ?_, by simp [hl], fun z hz => (List.mem_cons.mp hz).elim (fun h => h ▸ hb) (hq z)⟩
    rw [List.map_cons, compN_cons, show dYes (env.set i (some (enc a))) st = .ok true st from rfl, noX_ok, Rs.bind_ok, if_pos rfl, e, noX_ok, Rs.bind_ok, ih]
    rfl
/-! ### the law -/
theorem isi_bool (b : Bool) (st : Sto) : isiD "bool" (.bl b) st = .ok (.bl true) st := by
  have e : kitB "bool" "bool" = some true := by decide +kernel
  unfold isiD tyNm
  dsimp only
  rw [e]
theorem isi_tup (ds : List D) (st : Sto) : isiD "tuple" (.tup ds) st = .ok (.bl true) st := by
  have e : kitB "tuple" "tuple" = some true := by decide +kernel
  unfold isiD tyNm
  dsimp only
  rw [e]
@[simp] theorem trip_0 (a b c : D) (st : Sto) : ixD (.tup [a, b, c]) (.int 0) st = .ok a st := nrfl rfl
@[simp] theorem trip_2 (a b c : D) (st : Sto) : ixD (.tup [a, b, c]) (.int 2) st = .ok c st := nrfl rfl
noncomputable section
abbrev lawC1 : DE := b_law_c1 fn_law_drawn fn_law_cell fn_law_prefixes fn_law_numbers fn_law_route fn_law_rule fn_fits fn_law_fits fn_judged fn_law_judged
abbrev lawL1 : DS := b_law_l1 fn_law_drawn fn_law_cell fn_law_prefixes fn_law_numbers fn_law_route fn_law_rule fn_fits fn_law_fits fn_judged fn_law_judged
abbrev lawL2 : DS := b_law_l2 fn_law_drawn fn_law_cell fn_law_prefixes fn_law_numbers fn_law_route fn_law_rule fn_fits fn_law_fits fn_judged fn_law_judged
abbrev lawI2 : DS := b_law_i2 fn_law_drawn fn_law_cell fn_law_prefixes fn_law_numbers fn_law_route fn_law_rule fn_fits fn_law_fits fn_judged fn_law_judged
abbrev lawI5 : DS := b_law_i5 fn_law_drawn fn_law_cell fn_law_prefixes fn_law_numbers fn_law_route fn_law_rule fn_fits fn_law_fits fn_judged fn_law_judged
theorem fits_loop (rs : List RuleS) (q : RouteS) (a0 a1 a2 a3 a4 a6 : Option D) (o7 o8 a9 a10 a11 a12 a13 a14 : Option D) (st : Sto) :
    ∃ o7' o8', loopL (tgN 7) lawL1 (rs.map RuleS.enc) [a0, a1, a2, a3, a4, some q.enc, a6, o7, o8, a9, a10, a11, a12, a13, a14] st = .nx [a0, a1, a2, a3, a4, some q.enc, a6, o7', o8', a9, a10, a11, a12, a13, a14] st := by
  obtain ⟨e, s, h1, o7', o8', rfl, rfl⟩ := loopN_inv (i := 7) (b := lawL1) RuleS.enc (fun _ env st' => ∃ o7 o8, env = [a0, a1, a2, a3, a4, some q.enc, a6, o7, o8, a9, a10, a11, a12, a13, a14] ∧ st' = st) rs 0 [a0, a1, a2, a3, a4, some q.enc, a6, o7, o8, a9, a10, a11, a12, a13, a14] st
    ⟨o7, o8, rfl, rfl⟩ (by
    rintro j r env st' _ ⟨o7, o8, rfl, rfl⟩
    refine ⟨_, _, ?_, some r.enc, some (.bl (fitsB r q)), rfl, rfl⟩
    have h1 := fits_ok r q st'
    have h2 := law_fits_ok r q st'
    generalize fitsB r q = b at *
    simp [lawL1, b_law_l1, b_law_i1, dIfS_def, h1, h2, isi_bool])
  exact ⟨o7', o8', h1⟩
theorem i2_ok (F : Option (RouteS × Int × Int)) (rs : List RuleS) (a0 a1 a2 a3 a4 a5 a7 a8 a12 a13 a14 : Option D) (st : Sto) :
    lawI2 [a0, a1, a2, a3, a4, a5, some (.lst (rs.map RuleS.enc)), a7, a8, some (.lst (rs.map RuleS.enc)), some (resD F), some (resD F), a12, a13, a14] st = .nx [a0, a1, a2, a3, a4, a5, some (.lst (rs.map RuleS.enc)), a7, a8, some (.lst (rs.map RuleS.enc)), some (resD F), some (resD F), a12, a13, a14] st := by
  have h1 := ne_res F st
  have h2 := ne_rules rs st
  cases F with
  | none =>
    simp only [resD] at h1
    simp [lawI2, b_law_i2, dIfS_def, h1, h2, resD]
  | some x =>
    obtain ⟨q, p, a⟩ := x
    simp only [resD] at h1
    simp [lawI2, b_law_i2, dIfS_def, h1, h2, resD, isi_tup]
theorem i5_ok (rs : List RuleS) (q : RouteS) (h : q.tags.length ≤ 4) (a0 a1 a2 a3 a4 a7 a8 a9 a11 a12 a13 a14 : Option D) (st : Sto) :
    ∃ o12 o13, lawI5 [a0, a1, a2, a3, a4, some q.enc, some (.lst (rs.map RuleS.enc)), a7, a8, a9, some (resD (judgedS rs q 100 0)), a11, a12, a13, a14] st = .nx [a0, a1, a2, a3, a4, some q.enc, some (.lst (rs.map RuleS.enc)), a7, a8, a9, some (resD (judgedS rs q 100 0)), a11, o12, o13, a14] st := by
  have h1 := ne_nil rs st
  cases rs with
  | nil =>
    refine ⟨a12, a13, ?_⟩
    have h1' : neD (.lst []) (.lst []) st = .ok (.bl false) st := h1
    simp [lawI5, b_law_i5, dIfS_def, h1']
  | cons r rs =>
    have h1' : neD (.lst (r.enc :: rs.map RuleS.enc)) (.lst []) st = .ok (.bl true) st := h1
    have h2 : ixD (.lst (r.enc :: rs.map RuleS.enc)) (.int 0) st = .ok r.enc st := ixD_lst (by
      rw [show (0 : Int) = ((0 : Nat) : Int) from rfl, atI_nat' 0 (by simp)]; rfl)
    by_cases hd : r.deed = "on"
    · obtain ⟨q1, p1, a1', e1, e2, e3⟩ := judgedS_on rs (q := q) hd
      have j1 := judged_ok [r] q h st
      rw [e1] at j1
      have j1' : fn_judged [.lst [r.enc], q.enc] st = .ok (.tup [q1.enc, .int p1, .int a1']) st := j1
      have j2 := judged_ok rs q1 (e3 h) st
      have c1 : slD (.lst (r.enc :: rs.map RuleS.enc)) none (some 1) st = .ok (.lst [r.enc]) st := by
        show Rs.ok (D.lst (cutD _ _ _)) st = _
        rw [cutD_to _ (by decide)]; rfl
      have c2 : slD (.lst (r.enc :: rs.map RuleS.enc)) (some 1) none st = .ok (.lst (rs.map RuleS.enc)) st := by
        show Rs.ok (D.lst (cutD _ _ _)) st = _
        rw [cutD_from _ (by decide)]; rfl
      have sh := judgedS_shift rs q1 100 0 p1 a1'
      rw [e2]
      generalize judgedS rs q1 100 0 = X at *
      generalize judgedS rs q1 p1 a1' = Y at *
      refine ⟨some (.tup [q1.enc, .int p1, .int a1']), some (resD X), ?_⟩
      cases X with
      | none =>
        cases Y with
        | some y => exact sh.elim
        | none =>
          simp [lawI5, b_law_i5, b_law_i3, b_law_i4, dIfS_def, h1', h2, hd, c1, c2, j1', j2, resD]
      | some x =>
        cases Y with
        | none => obtain ⟨_, _, _⟩ := x; exact sh.elim
        | some y =>
          obtain ⟨qx, px, ax⟩ := x
          obtain ⟨qy, py, ay⟩ := y
          obtain ⟨rfl, hy⟩ := sh
          have hy2 : ax + a1' = ay := by omega
          have nr := ne_route qx st
          simp [lawI5, b_law_i5, b_law_i3, b_law_i4, dIfS_def, h1', h2, hd, c1, c2, j1', j2, resD, nr, hy2]
    · refine ⟨a12, a13, ?_⟩
      simp [lawI5, b_law_i5, dIfS_def, h1', h2, hd]
end
end DL

namespace DL
open PySem PySem.Spec PyProof.Rows L2
theorem turn_ok {ns : List Int} (h : Scr ns) (k : Nat) (hk : k < 6) (o2 o3 o4 o5 o6 o7 o8 o9 o10 o11 o12 o13 o14 : Option D) (st : Sto) :
    ∃ p2 p3 p4 p5 p6 p7 p8 p9 p10 p11 p12 p13 p14 : Option D, lawL2 [some (.scr ns), some (.int k), o2, o3, o4, o5, o6, o7, o8, o9, o10, o11, o12, o13, o14] st = .nx [some (.scr ns), some (.int k), p2, p3, p4, p5, p6, p7, p8, p9, p10, p11, p12, p13, p14] st := by
  obtain ⟨c, e1, b1⟩ := cell_ok h k (by omega) st
  obtain ⟨m, e2, hm⟩ := drawn_big b1 k (by omega) st
  obtain ⟨ps, e3, l3, b3⟩ := prefixes_ok (hm.div 64) st
  obtain ⟨ss, e4, l4, b4⟩ := numbers_ok (hm.div 1073741824) 5 (by decide) st
  obtain ⟨s0, sr, es⟩ : ∃ s0 sr, ss = s0 :: sr := by
    cases ss with
    | nil => simp at l4
    | cons a b => exact ⟨a, b, rfl⟩
  have hp : ps ≠ [] := fun z => by rw [z] at l3; simp at l3
  have hs : ss ≠ [] := fun z => by rw [z] at l4; simp at l4
  obtain ⟨q, e5, b5⟩ := route_ok (hm.div 1099511627776) hp b3 (by omega) (f := s0) (b4 s0 (by rw [es]; exact List.mem_cons_self)) hs b4 (by omega) st
  have ix0 : ixD (.lst (ss.map D.int)) (.int 0) st = .ok (.int s0) st := ixD_lst (by
    rw [show (0 : Int) = ((0 : Nat) : Int) from rfl, atI_nat' 0 (by rw [List.length_map]; omega), es]; rfl)
  have hmod := mod_lt (a := m) (show (0 : Int) < 6 by decide)
  obtain ⟨n, hn, hn6⟩ : ∃ n : Nat, m % 6 = (n : Int) ∧ n < 6 := ⟨(m % 6).toNat, by omega, by omega⟩
  -- the rules
  obtain ⟨rs, e6, l6, b6⟩ := compL_ex (i := 14) (f := lawC1) (env := [some (.scr ns), some (.int k), some (.int m), some (.lst (ps.map D.str)), some (.lst (ss.map D.int)), some q.enc, o6, o7, o8, o9, o10, o11, o12, o13, none]) (st := st) (fun (j : Nat) => D.int (j : Int)) RuleS.enc RuleOk (List.range n) (fun j hj => by
    have hj2 := List.mem_range.mp hj
    obtain ⟨c', f1, g1⟩ := cell_ok h (k + j) (by omega) st
    obtain ⟨m', f2, hm'⟩ := drawn_big g1 (k + j + 30) (by omega) st
    obtain ⟨r, f3, g3⟩ := rule_ok hm' hp b3 (by omega) hs b4 (by omega) st
    refine ⟨r, ?_, g3⟩
    have f1' : fn_law_cell [.scr ns, .int ((k : Int) + (j : Int))] st = .ok (.int c') st := by rw [← Int.natCast_add]; exact f1
    have f2' : fn_law_drawn [.int c', .int ((k : Int) + (j : Int) + 30)] st = .ok (.int m') st := by
      rw [show (k : Int) + (j : Int) + 30 = ((k + j + 30 : Nat) : Int) by omega]; exact f2
    simp [lawC1, b_law_c1, f1', f2', f3])
  have hd := dComp_of (vs := [14]) (src := dIterR (dB modI (dV 2) (dC (.int 6)))) (tg := tgN 14) (t := dYes) (f := lawC1) (env := [some (.scr ns), some (.int k), some (.int m), some (.lst (ps.map D.str)), some (.lst (ss.map D.int)), some q.enc, o6, o7, o8, o9, o10, o11, o12, o13, o14]) (ds := rngD n) (st := st) (st1 := st)
    (by
      have hr : asR (.int (m % 6)) st = .ok (rngD n) st := by rw [hn, asR_ok (by omega) (by omega)]; simp
      simp [hr]) e6 (by rw [List.length_map, l6, List.length_range]; omega)
  have t4 := b5.tags.2.2
  obtain ⟨o7', o8', e7⟩ := fits_loop rs q (some (.scr ns)) (some (.int k)) (some (.int m)) (some (.lst (ps.map D.str))) (some (.lst (ss.map D.int))) (some (.lst (rs.map RuleS.enc))) o7 o8 o9 o10 o11 o12 o13 o14 st
  have j1 := judged_ok rs q t4 st
  have j2 := law_judged_ok rs q t4 (fun r hr => by have := (b6 r hr).more; omega) st
  have e8 := i2_ok (judgedS rs q 100 0) rs (some (.scr ns)) (some (.int k)) (some (.int m)) (some (.lst (ps.map D.str))) (some (.lst (ss.map D.int))) (some q.enc) o7' o8' o12 o13 o14 st
  obtain ⟨o12', o13', e9⟩ := i5_ok rs q t4 (some (.scr ns)) (some (.int k)) (some (.int m)) (some (.lst (ps.map D.str))) (some (.lst (ss.map D.int))) o7' o8' (some (.lst (rs.map RuleS.enc))) (some (resD (judgedS rs q 100 0))) o12 o13 o14 st
  have d1 : divI (.int m) (.int 64) st = .ok (.int (m / 64)) st := divI_small (by decide) (by decide)
  have d2 : divI (.int m) (.int 1073741824) st = .ok (.int (m / 1073741824)) st := divI_small (by decide) (by decide)
  have d3 : divI (.int m) (.int 1099511627776) st = .ok (.int (m / 1099511627776)) st := divI_small (by decide) (by decide)
  have e3' : fn_law_prefixes [.int (m / 64)] st = .ok (.lst (ps.map D.str)) st := e3
  have e4' : fn_law_numbers [.int (m / 1073741824), .int 5] st = .ok (.lst (ss.map D.int)) st := e4
  have e5' : fn_law_route [.int (m / 1099511627776), .lst (ps.map D.str), .int s0, .lst (ss.map D.int)] st = .ok q.enc st := e5
  have lr := list_lst (rs.map RuleS.enc) st
  exact ⟨_, _, _, _, _, _, _, _, _, _, _, _, _, by
    simp only [lawL2, b_law_l2]
    simp [e1, e2, d1, e3', d2, e4', d3, ix0, e5', hd, e7, lr, j1, j2, e8, e9]
    exact ⟨rfl, rfl, rfl, rfl, rfl, rfl, rfl, rfl, rfl, rfl, rfl, rfl, rfl⟩⟩
theorem law_true (ns : List Int) (h : Scr ns) : ∃ st, F_law [.scr ns] [] = .ok (.bl true) st := by
  obtain ⟨n, hn, hn6⟩ : ∃ n : Nat, (if (if (ns.length : Int) < 6 then (ns.length : Int) else 6) > 1 then (if (ns.length : Int) < 6 then (ns.length : Int) else 6) else 1) = (n : Int) ∧ n ≤ 6 := by
    refine ⟨(if (if (ns.length : Int) < 6 then (ns.length : Int) else 6) > 1 then (if (ns.length : Int) < 6 then (ns.length : Int) else 6) else 1).toNat, ?_, ?_⟩ <;> split <;> split <;> omega
  obtain ⟨e, s, h1, o1, o2, o3, o4, o5, o6, o7, o8, o9, o10, o11, o12, o13, o14, rfl, rfl⟩ := loopN_inv (i := 1) (b := lawL2) (fun (j : Nat) => D.int (j : Int)) (fun _ env st' => ∃ o1 o2 o3 o4 o5 o6 o7 o8 o9 o10 o11 o12 o13 o14 : Option D, env = [some (.scr ns), o1, o2, o3, o4, o5, o6, o7, o8, o9, o10, o11, o12, o13, o14] ∧ st' = []) (List.range n) 0
    [some (.scr ns), none, none, none, none, none, none, none, none, none, none, none, none, none, none] [] ⟨_, _, _, _, _, _, _, _, _, _, _, _, _, _, rfl, rfl⟩ (by
    rintro j a env st' ha ⟨o1, o2, o3, o4, o5, o6, o7, o8, o9, o10, o11, o12, o13, o14, rfl, rfl⟩
    have hj := (List.getElem?_eq_some_iff.mp ha).1
    rw [List.length_range] at hj
    have ea : a = j := by
      have := (List.getElem?_eq_some_iff.mp ha).2
      rw [List.getElem_range] at this
      exact this.symm
    subst ea
    obtain ⟨p2, p3, p4, p5, p6, p7, p8, p9, p10, p11, p12, p13, p14, e⟩ := turn_ok h a (by omega) o2 o3 o4 o5 o6 o7 o8 o9 o10 o11 o12 o13 o14 []
    exact ⟨_, _, e, _, _, _, _, _, _, _, _, _, _, _, _, _, _, rfl, rfl⟩)
  have hr : asR (.int (n : Int)) [] = .ok (rngD n) [] := by rw [asR_ok (by omega) (by omega)]; simp
  have h1' : loopL (tgN 1) lawL2 (rngD n) [some (.scr ns), none, none, none, none, none, none, none, none, none, none, none, none, none, none] [] = .nx [some (.scr ns), o1, o2, o3, o4, o5, o6, o7, o8, o9, o10, o11, o12, o13, o14] [] := h1
  refine ⟨[], ?_⟩
  have hmin : min2D [.int 6, .int (ns.length : Int)] [] = .ok (.int (if (ns.length : Int) < 6 then (ns.length : Int) else 6)) [] := rfl
  have hmax : max2D [.int 1, .int (if (ns.length : Int) < 6 then (ns.length : Int) else 6)] [] = .ok (.int (n : Int)) [] := by rw [← hn]; rfl
  simp only [F_law, b_law, runF_def]
  simp only [lawL2] at h1'
  simp [len_scr, hmin, hmax, hr, h1']
end DL

namespace DL
open PySem PySem.Spec PyProof.Rows L2
theorem all_mk {l : PySem.W.OpenLaw} {w : World} {K : PySem.W.Frag} {h : Heap} {mg : Str → Option Value} {fa f0 f1 f2 f3 f4 f5 f6 f7 f8 f9 f10 f11 f12 f13 : Addr} (X : K.In h) (G : h.Ns mainGlobals mg) (hfa : mg "law" = some (.ref fa))
    {od0 od1 od2 od3 od4 od5 od6 od7 od8 od9 od10 od11 od12 od13 an0 an1 an2 an3 an4 an5 an6 an7 an8 an9 an10 an11 an12 an13 : Option Addr} {sl0 sl1 sl2 sl3 sl4 sl5 sl6 sl7 sl8 sl9 sl10 sl11 sl12 sl13 : Array (Option Value)} {oc0 oc1 oc2 oc3 oc4 oc5 oc6 oc7 oc8 oc9 oc10 oc11 oc12 oc13 kv0 kv1 kv2 kv3 kv4 kv5 kv6 kv7 kv8 kv9 kv10 kv11 kv12 kv13 dc0 dc1 dc2 dc3 dc4 dc5 dc6 dc7 dc8 dc9 dc10 dc11 dc12 dc13 pm0 pm1 pm2 pm3 pm4 pm5 pm6 pm7 pm8 pm9 pm10 pm11 pm12 pm13 cd0 cd1 cd2 cd3 cd4 cd5 cd6 cd7 cd8 cd9 cd10 cd11 cd12 cd13 ct0 ct1 ct2 ct3 ct4 ct5 ct6 ct7 ct8 ct9 ct10 ct11 ct12 ct13 : Value}
    {t_MOST_TAGS t_USUAL : Tok}
    (a0 : PySem.W.nsIn K mainGlobals "_law_drawn" = some (some (.ref f0))) (l0 : K.lookup f0 = some ⟨oc0, od0, .func (PySem.W.fnOf "_law_drawn" "_law_drawn" (defArgs (top 8)) (defBody (top 8)) (defScope (top 8)) .none kv0 dc0 pm0 an0 cd0 ct0), sl0⟩) (c0 : PySem.W.codeIn K cd0 "_law_drawn" = true) (k0 : PySem.W.keepIn K (.ref f0) = true)
    (a1 : PySem.W.nsIn K mainGlobals "_law_cell" = some (some (.ref f1))) (l1 : K.lookup f1 = some ⟨oc1, od1, .func (PySem.W.fnOf "_law_cell" "_law_cell" (defArgs (top 7)) (defBody (top 7)) (defScope (top 7)) .none kv1 dc1 pm1 an1 cd1 ct1), sl1⟩) (c1 : PySem.W.codeIn K cd1 "_law_cell" = true) (k1 : PySem.W.keepIn K (.ref f1) = true)
    (a2 : PySem.W.nsIn K mainGlobals "_law_bits" = some (some (.ref f2))) (l2 : K.lookup f2 = some ⟨oc2, od2, .func (PySem.W.fnOf "_law_bits" "_law_bits" (defArgs (top 10)) (defBody (top 10)) (defScope (top 10)) .none kv2 dc2 pm2 an2 cd2 ct2), sl2⟩) (c2 : PySem.W.codeIn K cd2 "_law_bits" = true) (k2 : PySem.W.keepIn K (.ref f2) = true)
    (a3 : PySem.W.nsIn K mainGlobals "_law_prefixes" = some (some (.ref f3))) (l3 : K.lookup f3 = some ⟨oc3, od3, .func (PySem.W.fnOf "_law_prefixes" "_law_prefixes" (defArgs (top 11)) (defBody (top 11)) (defScope (top 11)) .none kv3 dc3 pm3 an3 cd3 ct3), sl3⟩) (c3 : PySem.W.codeIn K cd3 "_law_prefixes" = true) (k3 : PySem.W.keepIn K (.ref f3) = true)
    (a4 : PySem.W.nsIn K mainGlobals "_law_numbers" = some (some (.ref f4))) (l4 : K.lookup f4 = some ⟨oc4, od4, .func (PySem.W.fnOf "_law_numbers" "_law_numbers" (defArgs (top 9)) (defBody (top 9)) (defScope (top 9)) .none kv4 dc4 pm4 an4 cd4 ct4), sl4⟩) (c4 : PySem.W.codeIn K cd4 "_law_numbers" = true) (k4 : PySem.W.keepIn K (.ref f4) = true)
    (a5 : PySem.W.nsIn K mainGlobals "_law_tags" = some (some (.ref f5))) (l5 : K.lookup f5 = some ⟨oc5, od5, .func (PySem.W.fnOf "_law_tags" "_law_tags" (defArgs (top 12)) (defBody (top 12)) (defScope (top 12)) .none kv5 dc5 pm5 an5 cd5 ct5), sl5⟩) (c5 : PySem.W.codeIn K cd5 "_law_tags" = true) (k5 : PySem.W.keepIn K (.ref f5) = true)
    (a6 : PySem.W.nsIn K mainGlobals "_law_route" = some (some (.ref f6))) (l6 : K.lookup f6 = some ⟨oc6, od6, .func (PySem.W.fnOf "_law_route" "_law_route" (defArgs (top 13)) (defBody (top 13)) (defScope (top 13)) .none kv6 dc6 pm6 an6 cd6 ct6), sl6⟩) (c6 : PySem.W.codeIn K cd6 "_law_route" = true) (k6 : PySem.W.keepIn K (.ref f6) = true)
    (a7 : PySem.W.nsIn K mainGlobals "_law_rule" = some (some (.ref f7))) (l7 : K.lookup f7 = some ⟨oc7, od7, .func (PySem.W.fnOf "_law_rule" "_law_rule" (defArgs (top 14)) (defBody (top 14)) (defScope (top 14)) .none kv7 dc7 pm7 an7 cd7 ct7), sl7⟩) (c7 : PySem.W.codeIn K cd7 "_law_rule" = true) (k7 : PySem.W.keepIn K (.ref f7) = true)
    (a8 : PySem.W.nsIn K mainGlobals "fits" = some (some (.ref f8))) (l8 : K.lookup f8 = some ⟨oc8, od8, .func (PySem.W.fnOf "fits" "fits" (defArgs (top 3)) (defBody (top 3)) (defScope (top 3)) .none kv8 dc8 pm8 an8 cd8 ct8), sl8⟩) (c8 : PySem.W.codeIn K cd8 "fits" = true) (k8 : PySem.W.keepIn K (.ref f8) = true)
    (a9 : PySem.W.nsIn K mainGlobals "_law_fits" = some (some (.ref f9))) (l9 : K.lookup f9 = some ⟨oc9, od9, .func (PySem.W.fnOf "_law_fits" "_law_fits" (defArgs (top 15)) (defBody (top 15)) (defScope (top 15)) .none kv9 dc9 pm9 an9 cd9 ct9), sl9⟩) (c9 : PySem.W.codeIn K cd9 "_law_fits" = true) (k9 : PySem.W.keepIn K (.ref f9) = true)
    (a10 : PySem.W.nsIn K mainGlobals "retagged" = some (some (.ref f10))) (l10 : K.lookup f10 = some ⟨oc10, od10, .func (PySem.W.fnOf "retagged" "retagged" (defArgs (top 4)) (defBody (top 4)) (defScope (top 4)) .none kv10 dc10 pm10 an10 cd10 ct10), sl10⟩) (c10 : PySem.W.codeIn K cd10 "retagged" = true) (k10 : PySem.W.keepIn K (.ref f10) = true)
    (a11 : PySem.W.nsIn K mainGlobals "judged" = some (some (.ref f11))) (l11 : K.lookup f11 = some ⟨oc11, od11, .func (PySem.W.fnOf "judged" "judged" (defArgs (top 5)) (defBody (top 5)) (defScope (top 5)) .none kv11 dc11 pm11 an11 cd11 ct11), sl11⟩) (c11 : PySem.W.codeIn K cd11 "judged" = true) (k11 : PySem.W.keepIn K (.ref f11) = true)
    (a12 : PySem.W.nsIn K mainGlobals "_law_judged" = some (some (.ref f12))) (l12 : K.lookup f12 = some ⟨oc12, od12, .func (PySem.W.fnOf "_law_judged" "_law_judged" (defArgs (top 16)) (defBody (top 16)) (defScope (top 16)) .none kv12 dc12 pm12 an12 cd12 ct12), sl12⟩) (c12 : PySem.W.codeIn K cd12 "_law_judged" = true) (k12 : PySem.W.keepIn K (.ref f12) = true)
    (a13 : PySem.W.nsIn K mainGlobals "law" = some (some (.ref f13))) (l13 : K.lookup f13 = some ⟨oc13, od13, .func (PySem.W.fnOf "law" "law" (defArgs (top 17)) (defBody (top 17)) (defScope (top 17)) .none kv13 dc13 pm13 an13 cd13 ct13), sl13⟩) (c13 : PySem.W.codeIn K cd13 "law" = true) (k13 : PySem.W.keepIn K (.ref f13) = true)
    (z_bool : PySem.W.nsIn K mainGlobals "bool" = some none)
    (z_int : PySem.W.nsIn K mainGlobals "int" = some none)
    (z_isinstance : PySem.W.nsIn K mainGlobals "isinstance" = some none)
    (z_len : PySem.W.nsIn K mainGlobals "len" = some none)
    (z_list : PySem.W.nsIn K mainGlobals "list" = some none)
    (z_max : PySem.W.nsIn K mainGlobals "max" = some none)
    (z_min : PySem.W.nsIn K mainGlobals "min" = some none)
    (z_range : PySem.W.nsIn K mainGlobals "range" = some none)
    (z_sorted : PySem.W.nsIn K mainGlobals "sorted" = some none)
    (z_tuple : PySem.W.nsIn K mainGlobals "tuple" = some none)
    (v_MOST_TAGS : PySem.W.nsIn K mainGlobals "MOST_TAGS" = some (some (.int 4 t_MOST_TAGS)))
    (v_USUAL : PySem.W.nsIn K mainGlobals "USUAL" = some (some (.int 100 t_USUAL)))
    : ∃ fd : FuncData, (∀ (s : Shared) (v : Value), BindsTo s fd ⟨[v], []⟩ [("_law_script", v)]) ∧ ∀ base : Heap, K.In base → base.Ns mainGlobals mg → LawF l.prog w (gh0 K) mg base 3 fa fd "_law_script" F_law := by
  have e := hfa.symm.trans (PySem.W.mg_of X G a13)
  cases e
  have T : Tx mg := ⟨PySem.W.mg_none_of X G z_bool, PySem.W.mg_none_of X G z_int, PySem.W.mg_none_of X G z_isinstance, PySem.W.mg_none_of X G z_len, PySem.W.mg_none_of X G z_list, PySem.W.mg_none_of X G z_max, PySem.W.mg_none_of X G z_min, PySem.W.mg_none_of X G z_range, PySem.W.mg_none_of X G z_sorted, PySem.W.mg_none_of X G z_tuple, GInt.mk' X G v_MOST_TAGS, GInt.mk' X G v_USUAL⟩
  have D_law_drawn : DefOk (gh0 K).K mg "_law_drawn" (top 8) ["_law_cell_here", "_law_k"] := DefOk.mk' X G a0 l0 c0 k0 fun _ _ _ _ _ _ us hl => match us, hl with | [_, _], _ => rfl
  have D_law_cell : DefOk (gh0 K).K mg "_law_cell" (top 7) ["_law_script", "_law_k"] := DefOk.mk' X G a1 l1 c1 k1 fun _ _ _ _ _ _ us hl => match us, hl with | [_, _], _ => rfl
  have D_law_bits : DefOk (gh0 K).K mg "_law_bits" (top 10) ["_law_more", "_law_many"] := DefOk.mk' X G a2 l2 c2 k2 fun _ _ _ _ _ _ us hl => match us, hl with | [_, _], _ => rfl
  have D_law_prefixes : DefOk (gh0 K).K mg "_law_prefixes" (top 11) ["_law_more"] := DefOk.mk' X G a3 l3 c3 k3 fun _ _ _ _ _ _ us hl => match us, hl with | [_], _ => rfl
  have D_law_numbers : DefOk (gh0 K).K mg "_law_numbers" (top 9) ["_law_more", "_law_many"] := DefOk.mk' X G a4 l4 c4 k4 fun _ _ _ _ _ _ us hl => match us, hl with | [_, _], _ => rfl
  have D_law_tags : DefOk (gh0 K).K mg "_law_tags" (top 12) ["_law_more"] := DefOk.mk' X G a5 l5 c5 k5 fun _ _ _ _ _ _ us hl => match us, hl with | [_], _ => rfl
  have D_law_route : DefOk (gh0 K).K mg "_law_route" (top 13) ["_law_more", "_law_prefixes_here", "_law_first", "_law_some"] := DefOk.mk' X G a6 l6 c6 k6 fun _ _ _ _ _ _ us hl => match us, hl with | [_, _, _, _], _ => rfl
  have D_law_rule : DefOk (gh0 K).K mg "_law_rule" (top 14) ["_law_more", "_law_prefixes_here", "_law_some"] := DefOk.mk' X G a7 l7 c7 k7 fun _ _ _ _ _ _ us hl => match us, hl with | [_, _, _], _ => rfl
  have D_fits : DefOk (gh0 K).K mg "fits" (top 3) ["rule", "route"] := DefOk.mk' X G a8 l8 c8 k8 fun _ _ _ _ _ _ us hl => match us, hl with | [_, _], _ => rfl
  have D_law_fits : DefOk (gh0 K).K mg "_law_fits" (top 15) ["_law_rule_here", "_law_route_here"] := DefOk.mk' X G a9 l9 c9 k9 fun _ _ _ _ _ _ us hl => match us, hl with | [_, _], _ => rfl
  have D_retagged : DefOk (gh0 K).K mg "retagged" (top 4) ["tags", "more", "less"] := DefOk.mk' X G a10 l10 c10 k10 fun _ _ _ _ _ _ us hl => match us, hl with | [_, _, _], _ => rfl
  have D_judged : DefOk (gh0 K).K mg "judged" (top 5) ["rules", "route"] := DefOk.mk' X G a11 l11 c11 k11 fun _ _ _ _ _ _ us hl => match us, hl with | [_, _], _ => rfl
  have D_law_judged : DefOk (gh0 K).K mg "_law_judged" (top 16) ["_law_rules", "_law_route_here"] := DefOk.mk' X G a12 l12 c12 k12 fun _ _ _ _ _ _ us hl => match us, hl with | [_, _], _ => rfl
  refine ⟨PySem.W.fnOf "law" "law" (defArgs (top 17)) (defBody (top 17)) (defScope (top 17)) .none kv13 dc13 pm13 an13 cd13 ct13, fun s v => .of_eq rfl, fun base _ _ => ?_⟩
  have G_law_drawn : GFn l.prog w (gh0 K) mg base "_law_drawn" 1 2 fn_law_drawn := (d_law_drawn T D_law_drawn).pure (Fn.clean_pure _)
  have G_law_cell : GFn l.prog w (gh0 K) mg base "_law_cell" 1 2 fn_law_cell := (d_law_cell T D_law_cell).pure (Fn.clean_pure _)
  have G_law_bits : GFn l.prog w (gh0 K) mg base "_law_bits" 1 2 fn_law_bits := (d_law_bits T D_law_bits).pure (Fn.clean_pure _)
  have G_law_prefixes : GFn l.prog w (gh0 K) mg base "_law_prefixes" 2 1 fn_law_prefixes := (d_law_prefixes T D_law_prefixes G_law_bits).pure (Fn.clean_pure _)
  have G_law_numbers : GFn l.prog w (gh0 K) mg base "_law_numbers" 1 2 fn_law_numbers := (d_law_numbers T D_law_numbers).pure (Fn.clean_pure _)
  have G_law_tags : GFn l.prog w (gh0 K) mg base "_law_tags" 1 1 fn_law_tags := (d_law_tags T D_law_tags).pure (Fn.clean_pure _)
  have G_law_route : GFn l.prog w (gh0 K) mg base "_law_route" 2 4 fn_law_route := (d_law_route T D_law_route G_law_tags).pure (Fn.clean_pure _)
  have G_law_rule : GFn l.prog w (gh0 K) mg base "_law_rule" 1 3 fn_law_rule := (d_law_rule T D_law_rule).pure (Fn.clean_pure _)
  have G_fits : GFn l.prog w (gh0 K) mg base "fits" 1 2 fn_fits := (d_fits T D_fits).pure (Fn.clean_pure _)
  have G_law_fits : GFn l.prog w (gh0 K) mg base "_law_fits" 1 2 fn_law_fits := (d_law_fits T D_law_fits).pure (Fn.clean_pure _)
  have G_retagged : GFn l.prog w (gh0 K) mg base "retagged" 1 3 fn_retagged := (d_retagged T D_retagged).pure (Fn.clean_pure _)
  have G_judged : GFn l.prog w (gh0 K) mg base "judged" 2 2 fn_judged := (d_judged T D_judged G_fits G_retagged).pure (Fn.clean_pure _)
  have G_law_judged : GFn l.prog w (gh0 K) mg base "_law_judged" 2 2 fn_law_judged := (d_law_judged T D_law_judged G_law_fits).pure (Fn.clean_pure _)
  exact d_law T (fun_mk l13 c13 k13) G_law_drawn G_law_cell G_law_prefixes G_law_numbers G_law_route G_law_rule G_fits G_law_fits G_judged G_law_judged
end DL
open PySem PySem.W PyProof.Rows in
set_option maxRecDepth 100000 in
set_option maxHeartbeats 0 in
theorem PySem.Challenge.cw_plainpath_k11_judged_holds : PySem.Challenge.rw_plainpath_k11_judged.Holds := by
  w_on; o_law; k_head; (case hw => w_witness2)
  k_fill
  refine DL.walk_end (l := PySem.Challenge.rw_plainpath_k11_judged) (k := 3) (x := "_law_script") (F := DL.F_law) DL.gh0 (fun _ => rfl) rfl rfl ⟨rfl, by decide, by decide⟩ (fun w h Y => PySem.W.kIn_of Y) ?hF DL.law_true
  case hF =>
    intro w mg fa h KX G hmg
    refine' DL.all_mk KX G hmg ?a0 ?l0 ?c0 ?k0 ?a1 ?l1 ?c1 ?k1 ?a2 ?l2 ?c2 ?k2 ?a3 ?l3 ?c3 ?k3 ?a4 ?l4 ?c4 ?k4 ?a5 ?l5 ?c5 ?k5 ?a6 ?l6 ?c6 ?k6 ?a7 ?l7 ?c7 ?k7 ?a8 ?l8 ?c8 ?k8 ?a9 ?l9 ?c9 ?k9 ?a10 ?l10 ?c10 ?k10 ?a11 ?l11 ?c11 ?k11 ?a12 ?l12 ?c12 ?k12 ?a13 ?l13 ?c13 ?k13 ?z_bool ?z_int ?z_isinstance ?z_len ?z_list ?z_max ?z_min ?z_range ?z_sorted ?z_tuple ?v_MOST_TAGS ?v_USUAL
    (case a0 => k_is)
    (case l0 => k_is)
    (case c0 => k_is)
    (case k0 => k_is)
    (case a1 => k_is)
    (case l1 => k_is)
    (case c1 => k_is)
    (case k1 => k_is)
    (case a2 => k_is)
    (case l2 => k_is)
    (case c2 => k_is)
    (case k2 => k_is)
    (case a3 => k_is)
    (case l3 => k_is)
    (case c3 => k_is)
    (case k3 => k_is)
    (case a4 => k_is)
    (case l4 => k_is)
    (case c4 => k_is)
    (case k4 => k_is)
    (case a5 => k_is)
    (case l5 => k_is)
    (case c5 => k_is)
    (case k5 => k_is)
    (case a6 => k_is)
    (case l6 => k_is)
    (case c6 => k_is)
    (case k6 => k_is)
    (case a7 => k_is)
    (case l7 => k_is)
    (case c7 => k_is)
    (case k7 => k_is)
    (case a8 => k_is)
    (case l8 => k_is)
    (case c8 => k_is)
    (case k8 => k_is)
    (case a9 => k_is)
    (case l9 => k_is)
    (case c9 => k_is)
    (case k9 => k_is)
    (case a10 => k_is)
    (case l10 => k_is)
    (case c10 => k_is)
    (case k10 => k_is)
    (case a11 => k_is)
    (case l11 => k_is)
    (case c11 => k_is)
    (case k11 => k_is)
    (case a12 => k_is)
    (case l12 => k_is)
    (case c12 => k_is)
    (case k12 => k_is)
    (case a13 => k_is)
    (case l13 => k_is)
    (case c13 => k_is)
    (case k13 => k_is)
    (case z_bool => k_is)
    (case z_int => k_is)
    (case z_isinstance => k_is)
    (case z_len => k_is)
    (case z_list => k_is)
    (case z_max => k_is)
    (case z_min => k_is)
    (case z_range => k_is)
    (case z_sorted => k_is)
    (case z_tuple => k_is)
    (case v_MOST_TAGS => k_is)
    (case v_USUAL => k_is)

